/- The abstract machine: a step of code over plain data, proved against the model. -/
import Derived.Orders
import Derived.Scope
import Derived.Recover
import Derived.Lib.Builder
import Derived.Lib.UnsafeStr
import Derived.ChangeSame
import Derived.OpenShut
import Derived.ReadAgain
import Derived.Lib.SliceRun
import Derived.Test.YtbncfepdlmnmiaaGreatDoorMachB
set_option linter.all false
namespace Go.Ab
def kz:List Prop→Prop
 |[]=>True
 |p::l=>p∧kz l
def kz.mem:∀{l:List Prop},kz l→∀q,q∈l→q
 |[],_,q,h=>by cases h
 |p::l,hp,q,h=>by
  rcases List.mem_cons.1 h with rfl|h
  ·exact hp.1
  ·exact kz.mem hp.2 q h
section
variable {P:Program} {N E:Nat} {st:aJ} {tt:dx}
def bf.cut{x y:Code}{Q:cv→aJ→Prop}(J:aJ→Prop)(Z:bf P N E x (cv.then J Q) st)(af:∀bZ,J bZ→bf P N E y Q bZ):bf P N E (.seq x y) Q st:=
 bf.seq (Z.mono λfg bZ h=>by cases fg<;>first|exact af bZ h|exact h)
def cv.n2{next:aJ→Prop}{Q:cv→aJ→Prop}(h:next st):cv.then next Q .normal st:=h
def cv.TI{next:aJ→Prop}{Q:cv→aJ→Prop}{x:V}(h:Q (.bl x) st):cv.then next Q (.bl x) st:=h
def cv.aeu{Q:cv→aJ→Prop}{i:Nat}(h:Q .normal st):cv.inBlock i Q (.exit i) st:=by simpa [cv.inBlock]using h
def cv.aev{Q:cv→aJ→Prop}{i j:Nat}(ef:Nat.beq j i=false)(h:Q (.exit j) st):cv.inBlock i Q (.exit j) st:=by
 have:j≠i:=by rintro rfl;simp at ef
 simpa [cv.inBlock,this]using h
def aew {f : FuncId} {fn : Func} {c : Code} {args : List D} {en : List (Nat × TypeId)} {H cH : List (List aZ)} {out : Out} (cj : e7 P tt = true) (a' : P.funcs[f]? = some fn) (hb : fn.body = some c) (jl : decide (fn.name = "runtime.NumGoroutine") = false)
 (eZ:Nat.ble args.length fn.ntmps=true) (h:bf P fn.ntmps H.length c (qW tt H.length fn.results.toList λo H'=>o=out∧H'=cH) {env:=hA args en,H:=c8 0 H,a8:=H.length}):gl P f args en H out cH:=
 pP.of_wp cj a' hb jl eZ h
def aex{rs:List ResultVar}{out:Out}{cH:List (List aZ)}(h:leave tt E rs st=some (out,cH)):qW tt E rs (λo H'=>o=out∧H'=cH) .ret st:=⟨out,cH,.inl h,rfl,rfl⟩
def J3{rs:List ResultVar}{out:Out}{cH:List (List aZ)}(h:leave tt E rs st=some (out,cH)):qW tt E rs (λo H'=>o=out∧H'=cH) .normal st:=⟨out,cH,.inl h,rfl,rfl⟩
def aey{rs:List ResultVar}{out:Out}{cH:List (List aZ)}{c:Nat}(h:qV tt E c rs st=some (out,cH)):qW tt E rs (λo H'=>o=out∧H'=cH) .ret st:=⟨out,cH,.inr ⟨c,h⟩,rfl,rfl⟩
def aez{rs:List ResultVar}{x:V}{cH:List (List aZ)}(h:(Dr E st.H).map ng=some cH):qW tt E rs (λo H'=>o = .bl x∧H'=cH) (.bl x) st:=by
 rw [Option.map_eq_some_iff]at h;obtain⟨H',Z,af⟩:=h;exact⟨H',Z,rfl,af⟩
end
def av{α:Type}(b:Bool)(x:Option α):Option α:=bif b then x else none
def qY{α:Type}{b:Bool}{x:Option α}{r:α}(h:av b x=some r):b=true∧x=some r:=by
 cases b
 ·cases h
 ·exact⟨rfl,h⟩
def bind_some{α β:Type}{x:Option α}{f:α→Option β}{r:β}(h:Option.bind x f=some r):∃a,x=some a∧f a=some r:=Option.bind_eq_some_iff.1 h
def dg{α:Type}{b:Bool}{x y z:α}(hb:b=true)(h:(bif b then x else y)=z):x=z:=by subst hb;exact h
def gm{c x:Bool}(h:(!c||x)=true)(hc:c=true):x=true:=by subst hc;simpa using h
def eX{c x:Bool}(h:(c||x)=true)(hc:c=false):x=true:=by subst hc;simpa using h
def ae{α:Type}[Inhabited α](k:Nat)(e:α→V)(l:List α):V:=.bL k l.length λi=>e (l.getD i default)
def hK(x:V):gH x x:=λ_ _ h=>h
def oO{k n:Nat}{g fe:Nat→V}(h:∀i,i<n→g i=fe i):gH (.bL k n g) (.bL k n fe):=by
 intro M v ay;cases ay with
 |lb=>exact .lb _ _
 |nL=>exact .nL _ _ _
 |bL b off k n cap g val hc hk c7 Z ak=>
  exact .bL b off k n cap fe val hc (λi hi=>by rw [←h i hi];exact hk i hi) c7 Z (λi j c hi lB=>ak i j c hi (by rw [h i hi];exact lB))
def aeA{α:Type}[Inhabited α]{k:Nat}{e:α→V}{xs:List V}{l:List α}(h:xs=l.map e)(n:Nat)(hn:n=l.length):gH (.bL k n λi=>xs.getD i .ew) (ae k e l):=by
 subst h;subst hn;refine oO λi hi=>?_
 simp [List.getD,List.getElem?_eq_getElem hi]
def fZ{α:Type}[Inhabited α]{k:Nat}{e:α→V}(l ir:List α):gH (.bL k (l.length+ir.length) λi=>bif Nat.blt i l.length then e (l.getD i default)else e (ir.getD (i-l.length) default)) (ae k e (l++ir)):=by
 rw [ae,List.length_append];refine oO λi hi=>?_
 by_cases h:i<l.length
 ·have hb:Nat.blt i l.length=true:=by simpa using h
  simp [hb,List.getD,List.getElem?_append_left h]
 ·have hb:Nat.blt i l.length=false:=by rw [Bool.eq_false_iff];simpa using h
  simp [hb,List.getD,List.getElem?_append_right (Nat.le_of_not_lt h)]
def TJ(l:List Int)(s:ap0):gH (.bL 1 (l.length+s.length) λi=>bif Nat.blt i l.length then .int .u8 (l.getD i default)else .int .u8 (s.getD (i-l.length) 0).toNat) (ae 1 (λx=>.int .u8 x) (l++s.map λb=>(b.toNat:Int))):=by
 have ag:(l++s.map λb=>(b.toNat:Int)).length=l.length+s.length:=by simp
 rw [ae,ag];refine oO λi hi=>?_
 by_cases h:i<l.length
 ·have hb:Nat.blt i l.length=true:=by simpa using h
  simp [hb,List.getD,List.getElem?_append_left h]
 ·have hb:Nat.blt i l.length=false:=by rw [Bool.eq_false_iff];simpa using h
  have af:i-l.length<s.length:=by omega
  simp [hb,List.getD,List.getElem?_append_right (Nat.le_of_not_lt h),af]
def aeB{α:Type}[Inhabited α]{k:Nat}{e:α→V}(l:List α)(a:Int):gH (.bL k (l.length-a.toNat) λi=>e (l.getD (a.toNat+i) default)) (ae k e (l.drop a.toNat)):=by
 rw [ae,List.length_drop];exact oO λi hi=>by simp [List.getD]
def J4{α:Type}[Inhabited α]{k:Nat}{e:α→V}(l:List α)(b:Int)(h:0≤b∧b≤l.length):gH (.bL k b.toNat λi=>e (l.getD i default)) (ae k e (l.take b.toNat)):=by
 have:(l.take b.toNat).length=b.toNat:=by simp;omega
 rw [ae,this];exact oO λi hi=>by simp [List.getD,hi]
section
variable {P:Program} {N E:Nat} {st bZ:aJ}
def bf.drop{c:Code}{Q:cv→aJ→Prop}(live vK:List Nat)(n:Nat)(ak:s6 live vK n st.env st.H st.a8=some bZ)(cI:Nat.ble E n=true)(h:bf P N E c Q bZ):bf P N E c Q st:=by
 rintro K ek a w ⟨he,hd,el,M,β,cW⟩
 obtain⟨zl,hs⟩:=cW.s6 ak (λr b hb=>Nat.lt_of_lt_of_le (ek r b hb) (by simpa using cI))
 exact h K ek a w ⟨he,hd,el,M,zl,hs⟩
end
def all_nil:kz []:=trivial
def all_cons{p:Prop}{l:List Prop}(h:p)(ag:kz l):kz (p::l):=⟨h,ag⟩
inductive aV(α β:Type) where
 |ret (a:α) (b:β)
 |bl (x:V) (b:β)
def aV.on{α β dJ:Type}(x:aV α β)(f:α→β→dJ)(g:V→β→dJ):dJ:=
 match x with
 |.ret a b=>f a b
 |.bl x b=>g x b
def fN{b:Bool}(h:b=false):(!b)=true:=by subst h;rfl
def wh{a b:Bool}(h:a=true)(af:b=true):(a&&b)=true:=by subst h;subst af;rfl
inductive jX:List V→List V→Prop where
 |nil:jX [] []
 |cons {x y:V} {xs ys:List V} (h:gH x y) (ag:jX xs ys):jX (x::xs) (y::ys)
def jX.len:∀{xs ys:List V},jX xs ys→xs.length=ys.length
 |_,_,.nil=>rfl
 |_,_,.cons _ ag=>by simp [ag.len]
def jX.at:∀{xs ys:List V},jX xs ys→∀(i:Nat) {y:V},ys[i]? = some y→∃x,xs[i]? = some x∧gH x y
 |_,_,.nil,i,y,h=>by simp at h
 |_,_,.cons h ag,i,y,cc=>by
  cases i with
  |zero=>simp at cc;subst cc;exact⟨_,rfl,h⟩
  |succ i=>simp at cc;simpa using ag.at i cc
def TK{xs ys:List V}(h:jX xs ys):gH (.agg xs) (.agg ys):=by
 intro M v ay;cases ay with
 |agg vs cs hn Z ak=>
  refine .agg vs ys (hn.trans h.len) Z (λi v c ay hc=>?_)
  obtain⟨x,hx,hi⟩:=h.at i hc;exact hi M v (ak i v x ay hx)
def aeC{k n:Nat}{g fe:Nat→V}(h:∀i,i<n→jX (g i).cells (fe i).cells):gH (.bL k n g) (.bL k n fe):=by
 intro M v ay;cases ay with
 |lb=>exact .lb _ _
 |nL=>exact .nL _ _ _
 |bL b off k n cap g val hc hk c7 Z ak=>
  refine .bL b off k n cap fe val hc (λi hi=>by rw [←(h i hi).len];exact hk i hi) c7 Z (λi j c hi lB=>?_)
  obtain⟨x,hx,aeD⟩:=(h i hi).at j lB;exact aeD M _ (ak i j x hi hx)
inductive ll{α:Type}(e:α→V):List V→List α→Prop where
 |nil:ll e [] []
 |cons {x:V} {y:α} {xs:List V} {ys:List α} (h:jX x.cells (e y).cells) (ag:ll e xs ys):ll e (x::xs) (y::ys)
def ll.len{α:Type}{e:α→V}:∀{xs:List V} {ys:List α},ll e xs ys→xs.length=ys.length
 |_,_,.nil=>rfl
 |_,_,.cons _ ag=>by simp [ag.len]
def ll.at{α:Type}[Inhabited α]{e:α→V}:∀{xs:List V} {ys:List α},ll e xs ys→∀(i:Nat),i<ys.length→jX (xs.getD i .ew).cells (e (ys.getD i default)).cells
 |_,_,.nil,i,h=>by simp at h
 |_,_,.cons h ag,i,cc=>by
  cases i with
  |zero=>simpa using h
  |succ i=>simpa using ag.at i (by simpa using cc)
def Dt{α:Type}[Inhabited α]{k:Nat}{e:α→V}{xs:List V}{l:List α}(h:ll e xs l)(n:Nat)(hn:n=l.length):gH (.bL k n λi=>xs.getD i .ew) (ae k e l):=by
 subst hn;exact aeC λi hi=>h.at i hi
section
variable {tt:dx} {g1 g2:di} {p:Path} {o:Oper} {ops:List Oper} {cn:gg}
def J5{x:Operand}(h:∀t,x = .tmp t→look g1.env t=look g2.env t∧look g1.b0 t=look g2.b0 t)(p:Path)(ty:TypeId):rd g1.env g1.b0 p tt ty x=rd g2.env g2.b0 p tt ty x:=by
 cases x with
 |tmp t=>
  obtain⟨Z,af⟩:=h t rfl;simp only [rd,Z,af]
 |const v=>cases v with
  |slice a n c=>cases a<;>cases n<;>cases c<;>rfl
  |_=>rfl
 |global _=>rfl
 |func _=>rfl
def aeE{x:Operand}(h:∀t,x = .tmp t→look g1.env t=look g2.env t):nM g1 x=nM g2 x:=by
 cases x with
 |tmp t=>simp only [nM,h t rfl]
 |_=>rfl
def zm{α β:Type}{f r1:α→Option β}:∀{l:List α},(∀x,x∈l→f x=r1 x)→mapM' f l=mapM' r1 l
 |[],_=>rfl
 |x::l,h=>by simp only [mapM',h x (by simp),zm (l:=l) λy cc=>h y (by simp [cc])]
def J6{f r1:TypeId→Operand→Option D}:∀{l:List Operand} {ts:List TypeId},(∀x,x∈l→∀t,f t x=r1 t x)→la f l ts=la r1 l ts
 |[],_,_=>by simp [la]
 |x::l,[],_=>by simp [la]
 |x::l,t::ts,h=>by simp only [la,h x (by simp) t,J6 (l:=l) (ts:=ts) λy cc=>h y (by simp [cc])]
def iv(tt:dx)(g:di)(p:Path)(o:Oper):List Nat:=
 match o.op with
 |.alloc _ |.box _ _=>match o.dst.bind (look g.ids)with |some id=>[id] |none=>[]
 |.load _ a=>match rd g.env g.b0 p tt o.type a with |some (.ptr q _)=>[q] |_=>[]
 |.store _ a _=>match rd g.env g.b0 p tt o.type a with |some (.ptr q _)=>[q] |_=>[]
 |.call c=>match c.callee with
  |.value x=>match rd g.env g.b0 p tt o.type x,la (rd g.env g.b0 p tt) c.args.toList c.argTypes.toList with
   |some (.fn _ fb),some ds=>nN g.H 2 (dedup ((ds++fb).flatMap refs))
   |_,_=>[]
  |_=>[]
 |_=>[]
def Du{x:Nat}:∀{l:List Nat},x∈l→x∈dedup l
 |y::l,h=>by
  simp only [dedup];rw [Bool.cond_eq_ite];split
  ·rename_i cc;rcases List.mem_cons.1 h with rfl|h
   ·obtain⟨z,dQ,aeF⟩:=List.any_eq_true.1 cc;have:x=z:=by simpa using aeF
    subst this;exact dQ
   ·exact Du h
  ·rcases List.mem_cons.1 h with rfl|h
   ·simp
   ·exact List.mem_cons_of_mem _ (Du h)
def TL{H:List (Nat×List aZ)}:∀{n:Nat} {l:List Nat} {x:Nat},x∈l→x∈nN H n l
 | 0,_,_,h=>h
 |n+1,_,_,h=>TL (n:=n) (Du (List.mem_append_left _ h))
def TM{α β:Type}{f r1:α→List β}:∀{l:List α},(∀x,x∈l→f x=r1 x)→l.flatMap f=l.flatMap r1
 |[],_=>rfl
 |x::l,h=>by simp only [List.flatMap_cons,h x (by simp),TM (l:=l) λy cc=>h y (by simp [cc])]
def J7{H1 cH:List (Nat×List aZ)}:∀{n:Nat} {l:List Nat},(∀q,q∈nN H1 n l→look H1 q=look cH q)→nN H1 n l=nN cH n l
 | 0,_,_=>rfl
 |n+1,l,h=>by
  simp only [nN]at h ⊢
  have:(l.flatMap λr=>((look H1 r).getD []).flatMap λe=>refs e.d)=l.flatMap λr=>((look cH r).getD []).flatMap λe=>refs e.d:=
   TM λr ak=>by rw [h r (TL (Du (List.mem_append_left _ ak)))]
  rw [←this];exact J7 h
def TN{H1 cH:List (Nat×List aZ)}:∀{l:List Nat},(∀q,q∈l→look H1 q=look cH q)→boxes H1 l=boxes cH l
 |[],_=>rfl
 |r::l,h=>by simp only [boxes,h r (by simp),TN (l:=l) λq aE=>h q (by simp [aE])]
def TO{xs:List Operand}{ts:List TypeId}(hs:∀t,Operand.tmp t∈xs→look g1.env t=look g2.env t∧look g1.b0 t=look g2.b0 t):∀os:List Nat,handed tt g1 xs ts os=handed tt g2 xs ts os
 |[]=>rfl
 |i::os=>by
  simp only [handed,TO hs os];split
  ·rename_i t l hx ag;obtain⟨Z,af⟩:=hs t (List.mem_of_getElem? hx);rw [Z,af]
  ·rfl
  ·rfl
def aeG{xs:List Operand}{ts:List TypeId}{f:FuncId}{args:List D}(hs:∀t,Operand.tmp t∈xs→look g1.env t=look g2.env t∧look g1.b0 t=look g2.b0 t)(eH:g1.rs=g2.rs)(eL:∀q,q∈nN g1.H 2 (dedup (args.flatMap refs))→look g1.H q=look g2.H q):vB cn tt g1 p xs ts f args=vB cn tt g2 p xs ts f args:=by
 have Z:nN g1.H 2 (dedup (args.flatMap refs))=nN g2.H 2 (dedup (args.flatMap refs)):=J7 eL;unfold vB;simp only [←Z,←eH,←TN eL,←λos=>TO (tt:=tt) (ts:=ts) hs os]
def pW(o:Oper):Bool:=
 match o.op with
 |.alloc _ |.box _ _=>true
 |_=>false
def TP(pX:g1.ids=g2.ids)(hn:g1.a8=g2.a8)(eL:∀id,o.dst.bind (look g1.ids)=some id→look g1.H id=look g2.H id):m7 g1 o=m7 g2 o:=by
 unfold m7;rw [←pX,←hn];split
 ·rename_i id h;rw [eL id h]
 ·rfl
def J8(hs:∀x,x∈o.op.operands.toList→∀t,x = .tmp t→look g1.env t=look g2.env t∧look g1.b0 t=look g2.b0 t)(eH:g1.rs=g2.rs)(pX:g1.ids=g2.ids)
 (hn:pW o=true→g1.a8=g2.a8) (eL:∀q,q∈iv tt g1 p o→look g1.H q=look g2.H q):step1 cn tt ops g1 p o=step1 cn tt ops g2 p o:=by
 have R:∀x,x∈o.op.operands.toList→∀p ty,rd g1.env g1.b0 p tt ty x=rd g2.env g2.b0 p tt ty x:=λx hx p ty=>J5 (hs x hx) p ty
 have O:∀x,x∈o.op.operands.toList→nM g1 x=nM g2 x:=λx hx=>aeE λt bU=>(hs x hx t bU).1
 cases aA:o.op with
 |move x=>simp only [aA,Op.operands]at R O;simp only [step1,aA,R x (by simp),O x (by simp),eH]
 |assign x=>simp only [aA,Op.operands]at R O;simp only [step1,aA,R x (by simp),O x (by simp),eH]
 |pick c a b=>
  simp only [aA,Op.operands]at R O;cases c with
  |tmp c=>simp only [step1,aA,R (.tmp c) (by simp),R a (by simp),R b (by simp),eH]
  |_=>simp only [step1,aA]
 |alloc t=>
  have hi:m7 g1 o=m7 g2 o:=TP pX (hn (by simp [pW,aA])) λid hid=>eL id (by simp [iv,aA,hid])
  simp only [step1,aA,eH,hi]
 |box t x=>
  have hi:m7 g1 o=m7 g2 o:=TP pX (hn (by simp [pW,aA])) λid hid=>eL id (by simp [iv,aA,hid])
  simp only [aA,Op.operands]at R O;simp only [step1,aA,R x (by simp),eH,hi]
 |build t parts=>
  simp only [aA,Op.operands]at R O
  have:mapM' (fun(i,x)=>(rd g1.env g1.b0 p tt (qG tt t i) x).map λd=>(i,d)) parts.toList=mapM' (fun(i,x)=>(rd g2.env g2.b0 p tt (qG tt t i) x).map λd=>(i,d)) parts.toList:=
   zm λy cc=>by
    obtain⟨i,x⟩:=y;simp only [R x (List.mem_map.2 ⟨(i,x),cc,rfl⟩)]
  simp only [step1,aA,this,eH]
 |buildSlice t len parts=>
  simp only [aA,Op.operands]at R O
  have:mapM' (fun(i,x)=>(rd g1.env g1.b0 p tt (qG tt t i) x).map λd=>(i,d)) parts.toList=mapM' (fun(i,x)=>(rd g2.env g2.b0 p tt (qG tt t i) x).map λd=>(i,d)) parts.toList:=
   zm λy cc=>by
    obtain⟨i,x⟩:=y;simp only [R x (List.mem_map.2 ⟨(i,x),cc,rfl⟩)]
  simp only [step1,aA,this,eH]
 |load t a=>
  simp only [aA,Op.operands]at R O;simp only [iv,aA,R a (by simp)]at eL
  simp only [step1,aA,R a (by simp),eH]
  split
  ·rename_i q off aI ha Dg;simp only [ha]at eL;simp only [eL q (by simp)]
  ·rfl
  ·rfl
 |store t a x=>
  simp only [aA,Op.operands]at R O;simp only [iv,aA,R a (by simp)]at eL
  simp only [step1,aA,R a (by simp),R x (by simp),O x (by simp),eH]
  split
  ·rename_i q off d aI ha hd Dg;simp only [ha]at eL;simp only [eL q (by simp)]
  ·rfl
 |nilCheck x=>simp only [aA,Op.operands]at R O;simp only [step1,aA,R x (by simp),eH]
 |binOp op t x y t2=>simp only [aA,Op.operands]at R O;simp only [step1,aA,R x (by simp),R y (by simp),eH]
 |unOp op t x=>simp only [aA,Op.operands]at R O;simp only [step1,aA,R x (by simp),eH]
 |convert s t x=>simp only [aA,Op.operands]at R O;simp only [step1,aA,R x (by simp),eH]
 |makeInterface t x=>simp only [aA,Op.operands]at R O;simp only [step1,aA,R x (by simp),eH]
 |makeFunc fn first fb=>
  simp only [aA,Op.operands]at R O;cases fn with
  |func f=>
   have:mapM' (rd g1.env g1.b0 p tt o.type) fb.toList=mapM' (rd g2.env g2.b0 p tt o.type) fb.toList:=zm λx hx=>R x (by rw [Array.toList_append];exact List.mem_append_right _ hx) _ _
   simp only [step1,aA,this,eH]
  |_=>simp only [step1,aA]
 |slice t x lo hi jw=>
  simp only [aA,Op.operands]at R O
  have jC:lo.map (rd g1.env g1.b0 p tt o.type)=lo.map (rd g2.env g2.b0 p tt o.type):=by
   cases lo with
   |none=>rfl
   |some l=>simp [R l (by simp)]
  have iT:hi.map (rd g1.env g1.b0 p tt o.type)=hi.map (rd g2.env g2.b0 p tt o.type):=by
   cases hi with
   |none=>rfl
   |some l=>simp [R l (by simp)]
  have J9:jw.map (rd g1.env g1.b0 p tt o.type)=jw.map (rd g2.env g2.b0 p tt o.type):=by
   cases jw with
   |none=>rfl
   |some m=>simp [R m (by simp)]
  simp only [step1,aA,R x (by simp),jC,iT,J9,eH]
 |fieldAddr s x f=>simp only [aA,Op.operands]at R O;simp only [step1,aA,R x (by simp),eH]
 |field s x f=>simp only [aA,Op.operands]at R O;simp only [step1,aA,R x (by simp),eH]
 |indexAddr t x i=>simp only [aA,Op.operands]at R O;simp only [step1,aA,R x (by simp),R i (by simp),eH]
 |index t x i=>simp only [aA,Op.operands]at R O;simp only [step1,aA,R x (by simp),R i (by simp),eH]
 |typeAssert x a t ok=>simp only [aA,Op.operands]at R O;simp only [step1,aA,R x (by simp),eH]
 |extract x i=>simp only [aA,Op.operands]at R O;simp only [step1,aA,R x (by simp),eH]
 |panic x=>simp only [aA,Op.operands]at R O;simp only [step1,aA,R x (by simp)]
 |call c=>
  simp only [aA,Op.operands,Call.operands]at R O hs;cases hc:c.callee with
  |value x=>
   have hx:=R x (by simp [hc])
   have ha:la (rd g1.env g1.b0 p tt) c.args.toList c.argTypes.toList=la (rd g2.env g2.b0 p tt) c.args.toList c.argTypes.toList:=J6 λy cc t=>R y (by rw [Array.toList_append];exact List.mem_append_right _ cc) p t
   simp only [iv,aA,hc,hx,ha]at eL;simp only [step1,aA,hc,hx,ha];split
   ·rename_i f fb ds Z af;simp only [Z,af]at eL;exact aeG (λt bU=>hs (.tmp t) (by rw [Array.toList_append];exact List.mem_append_right _ bU) t rfl) eH eL
   ·rfl
  |invoke x m=>simp only [step1,aA,hc]
  |builtin b=>
   have ha:mapM' (λy=>rd g1.env g1.b0 p tt o.type y) c.args.toList=mapM' (λy=>rd g2.env g2.b0 p tt o.type y) c.args.toList:=zm λx hx=>R x (by rw [Array.toList_append];exact List.mem_append_right _ hx) _ _
   cases b with
   |len=>simp only [step1,aA,hc,ha,eH]
   |min=>simp only [step1,aA,hc,ha,eH]
   |max=>simp only [step1,aA,hc,ha,eH]
   |append=>
    simp only [step1,aA,hc,eH];split
    ·rename_i t x e fK aoI aoJ _ t2 ag _ _;have hm:∀y,y∈[Operand.tmp t,x]→y∈(match c.callee with|.value f => #[f] |.invoke r _ => #[r] |.builtin _ => #[]:Array Operand).toList++c.args.toList:=λy cc=>by rw [ag];exact List.mem_append_right _ cc
     have jD:∀y,y∈[Operand.tmp t,x]→y∈((match c.callee with|.value f => #[f] |.invoke r _ => #[r] |.builtin _ => #[]:Array Operand)++c.args).toList:=λy cc=>by rw [Array.toList_append];exact hm y cc
     simp only [R (.tmp t) (jD _ (by simp)),R x (jD _ (by simp)),(hs (.tmp t) (jD _ (by simp)) t rfl).1]
    ·rfl
   |_=>simp only [step1,aA,hc]
 |_=>simp only [step1,aA]
end
structure eu where
 dst:Option Nat
 p:Path
 f:kN
 jE:List Nat
 mB:List Nat
 oP:Bool
 rs:List fo
 gD:Nat:=0
 tO:V:=.ew
 oQ:List (Nat×List aZ):=[]
 r2:List (Nat×List aZ):=[]
 nh:Nat:=0
def oR(ops:List Oper)(o:Oper):List Nat:=
 (o.op.operands.toList.filterMap fun|.tmp t=>some t|_=>none)++(match o.guard with
  |some (j,_)=>((ops[j]?).bind (·.dst)).toList
  |none=>[])
def ez(E:eu)(g:di):di:=
 match E.dst with
 |none=>{g with env:=gu E.f.gI g.env,H:=E.f.hs++g.H,a8:=g.a8+E.f.fc}
 |some t=>match E.p with
  |[]=>{g with
   env:=match E.f.e with|some e=>(t,e)::gu E.f.gI g.env|none=>del (gu E.f.gI g.env) t
   b0:=del g.b0 t,H:=E.f.hs++g.H,a8:=g.a8+E.f.fc}
  |_::_=>match E.f.e with
   |some e=>{g with env:=del g.env t,b0:=(t,E.p,e.d)::del g.b0 t}
   |none=>g
def ni(E:eu):List Nat:=E.dst.toList++E.f.gI
def n3(E:eu):List Nat:=E.f.hs.map (·.1)
def wi{α:Type}:∀(a b:List (Nat×α)) (q:Nat),look (a++b) q=(match look a q with|some x=>some x|none=>look b q)
 |[],_,_=>rfl
 |(j,x)::a,b,q=>by
  simp only [List.cons_append,dv,wi a b q];by_cases h:j=q<;>simp [h]
def TQ{α:Type}:∀{a:List (Nat×α)} {q:Nat},q∉a.map (·.1)→look a q=none
 |[],_,_=>rfl
 |(j,x)::a,q,h=>by
  simp only [List.map_cons,List.mem_cons,not_or]at h;rw [dv,if_neg (Ne.symm h.1)];exact TQ h.2
section
variable {E:eu} {g g1 g2:di}
def l9(g1 g2:di)(t:Nat):Prop:=look g1.env t=look g2.env t∧look g1.b0 t=look g2.b0 t
def tP(g1 g2:di)(q:Nat):Prop:=look g1.H q=look g2.H q
def tQ{t:Nat}(h:t∉ni E):l9 (ez E g) g t:=by
 simp only [ni,List.mem_append,not_or]at h;unfold l9 ez;cases hd:E.dst with
 |none=>simp only [mw,if_neg h.2,and_self]
 |some u=>
  have hu:u≠t:=by rintro rfl;simp [hd]at h
  cases hp:E.p with
  |nil=>
   dsimp only
   cases he:E.f.e with
   |some e=>simp only [dv,if_neg hu,mw,if_neg h.2,pE,and_self]
   |none=>simp only [mw,if_neg h.2,pE,if_neg hu,and_self]
  |cons x p=>
   dsimp only
   cases he:E.f.e with
   |some e=>simp only [dv,if_neg hu,pE,and_self]
   |none=>exact⟨rfl,rfl⟩
def J'{t:Nat}(h:l9 g1 g2 t):l9 (ez E g1) (ez E g2) t:=by
 obtain⟨Z,af⟩:=h;unfold l9 ez;cases hd:E.dst with
 |none=>simp only [mw,Z,af,and_self]
 |some u=>
  cases hp:E.p with
  |nil=>
   dsimp only
   cases he:E.f.e with
   |some e=>simp only [dv,mw,Z,af,pE,and_self]
   |none=>simp only [mw,pE,Z,af,and_self]
  |cons x p=>
   dsimp only
   cases he:E.f.e with
   |some e=>simp only [dv,pE,Z,af,and_self]
   |none=>exact⟨Z,af⟩
def J_:(ez E g).H=E.f.hs++g.H∨(ez E g).H=g.H:=by
 unfold ez;cases E.dst with
 |none=>exact .inl rfl
 |some u=>
  cases E.p with
  |nil=>exact .inl rfl
  |cons x p=>dsimp only;cases E.f.e<;>exact .inr rfl
def wj{q:Nat}(h:q∉n3 E):tP (ez E g) g q:=by
 unfold tP;rcases J_ (E:=E) (g:=g)with Z|Z<;>rw [Z]
 rw [wi,TQ h]
def Ka{q:Nat}(h:tP g1 g2 q):tP (ez E g1) (ez E g2) q:=by
 unfold tP at *;unfold ez;cases E.dst with
 |none=>simp only [wi,h]
 |some u=>
  cases E.p with
  |nil=>simp only [wi,h]
  |cons x p=>dsimp only;cases E.f.e<;>exact h
def wk(E:eu):Nat:=
 match E.dst with
 |none=>E.f.fc
 |some _=>match E.p with
  |[]=>E.f.fc
  |_::_=>0
def Dv:(ez E g).a8=g.a8+wk E:=by
 unfold ez wk;cases E.dst with
 |none=>rfl
 |some u=>
  cases E.p with
  |nil=>rfl
  |cons x p=>dsimp only;cases E.f.e<;>rfl
structure Alike(g1 g2:di):Prop where
 slot:∀t,l9 g1 g2 t
 box:∀q,tP g1 g2 q
 a8:g1.a8=g2.a8
 ids:g1.ids=g2.ids
def Dw:(ez E g).ids=g.ids:=by
 unfold ez;cases E.dst with
 |none=>rfl
 |some u=>
  cases E.p with
  |nil=>rfl
  |cons x p=>dsimp only;cases E.f.e<;>rfl
def Alike.refl:Alike g g:=⟨λ_=>⟨rfl,rfl⟩,λ_=>rfl,rfl,rfl⟩
def Alike.symm(h:Alike g1 g2):Alike g2 g1:=⟨λt=>⟨(h.slot t).1.symm,(h.slot t).2.symm⟩,λq=>(h.box q).symm,h.a8.symm,h.ids.symm⟩
def Alike.trans{g3:di}(h:Alike g1 g2)(dp:Alike g2 g3):Alike g1 g3:=⟨λt=>⟨(h.slot t).1.trans (dp.slot t).1,(h.slot t).2.trans (dp.slot t).2⟩,λq=>(h.box q).trans (dp.box q),h.a8.trans dp.a8,h.ids.trans dp.ids⟩
def Alike.ap(h:Alike g1 g2):Alike (ez E g1) (ez E g2):=
 ⟨λt=>J' (h.slot t),λq=>Ka (h.box q),(by simp only [Dv,h.a8]),by simp only [Dw,h.ids]⟩
def sep(a b:List Nat):Bool:=a.all λx=>!b.any (Nat.beq x)
def tR{a b:List Nat}(h:sep a b=true){x:Nat}(ha:x∈a):x∉b:=by
 intro hb;have:=List.all_eq_true.1 h x ha
 simp only [Bool.not_eq_true',List.any_eq_false]at this;exact this x hb (by simp)
def zn(E dm:eu):Bool:=
 sep (ni E) dm.mB&&sep (ni E) (ni dm)&&sep (ni dm) E.mB&&(sep (n3 E) dm.jE||Nat.beq E.nh 2&&Nat.beq dm.nh 1)&&sep (n3 E) (n3 dm)&&(sep (n3 dm) E.jE||Nat.beq dm.nh 2&&Nat.beq E.nh 1)&&(!E.oP||Nat.beq (wk dm) 0)&&(!dm.oP||Nat.beq (wk E) 0)
def aeH{E dm:eu}(Z:sep (ni E) (ni dm)=true)(af:sep (n3 E) (n3 dm)=true):Alike (ez E (ez dm g)) (ez dm (ez E g)):=by
 refine⟨λt=>?_,λq=>?_,?_,by simp only [Dw]⟩
 ·by_cases bU:t∈ni E
  ·have nV:=tR Z bU;have a:l9 (ez E (ez dm g)) (ez E g) t:=J' (tQ nV);have b:l9 (ez dm (ez E g)) (ez E g) t:=tQ nV;exact⟨a.1.trans b.1.symm,a.2.trans b.2.symm⟩
  ·have a:l9 (ez E (ez dm g)) (ez dm g) t:=tQ bU;have b:l9 (ez dm (ez E g)) (ez dm g) t:=J' (tQ bU);exact⟨a.1.trans b.1.symm,a.2.trans b.2.symm⟩
 ·by_cases bU:q∈n3 E
  ·have nV:=tR af bU;exact(Ka (E:=E) (wj (E:=dm) (g:=g) nV)).trans (wj (E:=dm) (g:=ez E g) nV).symm
  ·exact(wj (E:=E) (g:=ez dm g) bU).trans (Ka (E:=dm) (wj (E:=E) (g:=g) bU)).symm
 ·simp only [Dv];omega
end
section
variable {tt:dx} {ops:List Oper} {cn:gg} {o:Oper} {E:eu} {g g1 g2:di}
def TR(h:∀t,t∈oR ops o→l9 g1 g2 t):oE ops g1 o=oE ops g2 o:=by
 unfold oE;split
 ·rfl
 ·rename_i j w hg;cases bU:(ops[j]?).bind (·.dst) with
  |none=>rfl
  |some t=>
   have:=h t (by simp [oR,hg,bU])
   simp only [this.1,this.2]
def Dx:∀{p:Path} {q:Prop},(∀x,x∈p→l9 g1 g2 x.1)→under g1 p q=under g2 p q
 |[],_,_=>rfl
 |(t,w)::p,q,h=>by
  have bU:=h (t,w) (by simp)
  have bc:=Dx (p:=p) (q:=q) λx hx=>h x (by simp [hx])
  have:yE g1.env g1.b0 t=yE g2.env g2.b0 t:=by unfold yE;rw [bU.1,bU.2]
  simp only [under,this,bc]
def aeI{p:Path}(hs:∀x,x∈o.op.operands.toList→∀t,x = .tmp t→look g1.env t=look g2.env t∧look g1.b0 t=look g2.b0 t)(pX:g1.ids=g2.ids)(eL:∀q,q∈iv tt g1 p o→look g1.H q=look g2.H q):iv tt g1 p o=iv tt g2 p o:=by
 have R:∀x,x∈o.op.operands.toList→∀p ty,rd g1.env g1.b0 p tt ty x=rd g2.env g2.b0 p tt ty x:=λx hx p ty=>J5 (hs x hx) p ty
 cases aA:o.op with
 |alloc t=>simp only [iv,aA,pX]
 |box t x=>simp only [iv,aA,pX]
 |load t a=>simp only [aA,Op.operands]at R;simp only [iv,aA,R a (by simp)]
 |store t a x=>simp only [aA,Op.operands]at R;simp only [iv,aA,R a (by simp)]
 |call c=>
  simp only [aA,Op.operands,Call.operands]at R;cases hc:c.callee with
  |value x=>
   have hx:=R x (by simp [hc])
   have ha:la (rd g1.env g1.b0 p tt) c.args.toList c.argTypes.toList=la (rd g2.env g2.b0 p tt) c.args.toList c.argTypes.toList:=J6 λy cc t=>R y (by rw [Array.toList_append];exact List.mem_append_right _ cc) p t
   simp only [iv,aA,hc,hx,ha]at eL ⊢;split
   ·rename_i f fb ds Z af;simp only [Z,af]at eL;exact J7 eL
   ·rfl
  |_=>simp only [iv,aA,hc]
 |_=>simp only [iv,aA]
structure Kb(cn:gg)(tt:dx)(ops:List Oper)(o:Oper)(E:eu)(g:di):Prop where
 Dy:oE ops g o=some E.p
 st:step1 cn tt ops {g with rs:=E.rs} E.p o=some (bif Nat.beq E.gD 0 then .go E.f else .bl E.tO E.oQ E.f.bb)
 bb:∀q,q∈E.f.bb→under g E.p q
 jE:∀q,q∈iv tt g E.p o→q∈E.jE
 fin:E.gD=1→∀q,q∈E.jE→look g.H q=look E.r2 q
def Can(cn:gg)(tt:dx)(ops:List Oper)(o:Oper)(E:eu)(g:di):Prop:=E.gD=2∨Kb cn tt ops o E g
def Can.congr(h:Can cn tt ops o E g1)(tS:∀t,t∈oR ops o++E.p.map (·.1)→t∈E.mB)(pL:pW o=E.oP)(hs:∀t,t∈E.mB→l9 g1 g2 t)(hb:∀q,q∈E.jE→tP g1 g2 q)(hn:E.oP=true→g1.a8=g2.a8)(pX:g1.ids=g2.ids):Can cn tt ops o E g2:=by
 rcases h with h|h
 ·exact .inl h
 right
 have gX:∀x,x∈o.op.operands.toList→∀t,x = .tmp t→look g1.env t=look g2.env t∧look g1.b0 t=look g2.b0 t:=by
  rintro x hx t rfl
  exact hs t (tS t (List.mem_append_left _ (by simp only [oR,List.mem_append,List.mem_filterMap];exact .inl ⟨_,hx,rfl⟩)))
 have lk:iv tt g1 E.p o=iv tt g2 E.p o:=aeI gX pX (λq aE=>hb q (h.jE q aE))
 refine⟨?_,?_,λq aE=>?_,(by rw [←lk];exact h.jE),λhk q aE=>(hb q aE).symm.trans (h.fin hk q aE)⟩
 ·rw [←TR (g1:=g1) (g2:=g2) λt bU=>hs t (tS t (List.mem_append_left _ bU))];exact h.Dy
 ·rw [←h.st];refine(J8 (g1:={g1 with rs:=E.rs}) (g2:={g2 with rs:=E.rs}) gX rfl pX (λhm=>hn (by rw [←pL];exact hm)) (λq aE=>hb q ?_)).symm
  exact h.jE q aE
 ·rw [←Dx (g1:=g1) (g2:=g2) λx hx=>hs x.1 (tS _ (List.mem_append_right _ (List.mem_map.2 ⟨x,hx,rfl⟩)))]
  exact h.bb q aE
def tT(o:Oper)(rs:List fo):Nat:=
 match o.op with
 |.load _ _=>match rs with
  |.own::_=>2
  |.marks _::_=>0
  |_=>1
 |_=>0
def r3(g1 g2:di)(q:Nat):Prop:=(look g1.H q).map (·.map (·.d))=(look g2.H q).map (·.map (·.d))
def TS:∀(cs:List aZ) (off:Nat) (e:aZ),cs[off]? = some e→(setAt cs off [{d:=e.d}]).map (·.d)=cs.map (·.d)
 |[],off,e,h=>by simp at h
 |c::cs,0,e,h=>by
  simp only [List.getElem?_cons_zero,Option.some.injEq]at h;subst h;simp [setAt]
 |c::cs,off+1,e,h=>by
  simp only [List.getElem?_cons_succ]at h;simp only [setAt,List.map_cons,TS cs off e h]
def aeJ(h:Kb cn tt ops o E g)(ag:tT o E.rs=2)(hk:E.gD=0)(q:Nat):r3 (ez E g) g q:=by
 have dS:=h.st;rw [hk]at dS;unfold tT at ag;split at ag
 case h_2=>cases ag
 rename_i t a aA;simp only [step1,aA,show Nat.beq 0 0=true from rfl,cond_true]at dS
 have nil:E.f.hs=[]→r3 (ez E g) g q:=by
  intro bz;unfold r3;rcases J_ (E:=E) (g:=g)with Z|Z<;>rw [Z]
  rw [bz];rfl
 split at dS
 ·rename_i aeK off aI ak c';split at dS
  ·rename_i cs ee;rw [Bool.cond_eq_ite]at dS;split at dS
   ·rw [Bool.cond_eq_ite]at dS;split at dS
    ·split at dS
     ·rename_i eH;rw [eH]at ag;cases ag
     ·simp only [Option.map_some,Option.some.injEq,m6.go.injEq]at dS;exact nil (by rw [←dS])
    ·cases dS
   ·split at dS
    ·rename_i e he;split at dS
     ·rw [Bool.cond_eq_ite]at dS;split at dS
      ·simp only [Option.some.injEq,m6.go.injEq]at dS;unfold r3;rcases J_ (E:=E) (g:=g)with Z|Z<;>rw [Z]
       rw [←dS];simp only [List.cons_append,List.nil_append,dv];split
       ·rename_i aE;subst aE;rw [ee];simp only [Option.map_some,TS cs off e he]
       ·rfl
      ·cases dS
     ·simp only [Option.map_some,Option.some.injEq,m6.go.injEq]at dS;exact nil (by rw [←dS])
    ·cases dS
  ·cases dS
 ·rename_i x aI ak c';rw [Bool.cond_eq_ite]at dS;split at dS
  ·simp only [Option.map_some,Option.some.injEq,m6.go.injEq]at dS;exact nil (by rw [←dS])
  ·cases dS
 ·cases dS
def aeL{p:Path}{rs:List fo}{t:TypeId}{a:Operand}(aA:o.op = .load t a)(eH:∀l,rs ≠ .own::l)(Dz:∀c l,rs ≠ .marks c::l)(R:rd g1.env g1.b0 p tt o.type a=rd g2.env g2.b0 p tt o.type a)(aeM:∀q off,rd g2.env g2.b0 p tt o.type a=some (.ptr q off)→r3 g1 g2 q):
 step1 cn tt ops {g1 with rs:=rs} p o=step1 cn tt ops {g2 with rs:=rs} p o:=by
 simp only [step1,aA,R];split
 ·rename_i q off aI ak c';have hd:=aeM q off ak;unfold r3 at hd;cases Z:look g1.H q with
  |none=>
   rw [Z]at hd;cases af:look g2.H q with
   |none=>rfl
   |some c2=>rw [af]at hd;cases hd
  |some c1=>
   rw [Z]at hd;cases af:look g2.H q with
   |none=>rw [af]at hd;cases hd
   |some c2=>
    rw [af]at hd;simp only [Option.map_some,Option.some.injEq]at hd;have hlen:c1.length=c2.length:=by have:=congrArg List.length hd;simpa using this
    have aeN:((c1.drop off).take aI.size).map (·.d)=((c2.drop off).take aI.size).map (·.d):=by rw [List.map_take,List.map_drop,hd,←List.map_drop,←List.map_take]
    have iq:(c1[off]?).map (·.d)=(c2[off]?).map (·.d):=by rw [←List.getElem?_map,hd,List.getElem?_map]
    simp only [hlen,aeN];cases aI.k.isAgg with
    |true=>
     cases rs with
     |nil=>rfl
     |cons x l=>
      cases x with
      |marks=>exact absurd rfl (Dz _ l)
      |_=>rfl
    |false=>
     simp only [cond_false];cases TT:c1[off]? with
     |none=>
      rw [TT]at iq;cases DA:c2[off]? with
      |none=>rfl
      |some e2=>rw [DA]at iq;cases iq
     |some e1=>
      rw [TT]at iq;cases DA:c2[off]? with
      |none=>rw [DA]at iq;cases iq
      |some e2=>
       rw [DA]at iq;simp only [Option.map_some,Option.some.injEq]at iq;cases rs with
       |nil=>cases e1.own<;>cases e2.own<;>simp [iq]
       |cons r l=>
        cases r with
        |own=>exact absurd rfl (eH l)
        |val x=>cases e1.own<;>cases e2.own<;>simp [iq]
        |raw=>cases e1.own<;>cases e2.own<;>simp [iq]
        |marks=>exact absurd rfl (Dz _ l)
        |call u v z=>cases e1.own<;>cases e2.own<;>simp [iq]
 ·rfl
 ·rfl
def Can.TU(h:Can cn tt ops o E g1)(ag:tT o E.rs=1)(hk:E.gD=0)(tS:∀t,t∈oR ops o++E.p.map (·.1)→t∈E.mB)(hs:∀t,t∈E.mB→l9 g1 g2 t)(hb:∀q,r3 g1 g2 q):Can cn tt ops o E g2:=by
 rcases h with h|h
 ·exact .inl h
 right
 have gX:∀x,x∈o.op.operands.toList→∀t,x = .tmp t→look g1.env t=look g2.env t∧look g1.b0 t=look g2.b0 t:=by
  rintro x hx t rfl
  exact hs t (tS t (List.mem_append_left _ (by simp only [oR,List.mem_append,List.mem_filterMap];exact .inl ⟨_,hx,rfl⟩)))
 unfold tT at ag;split at ag
 case h_2=>cases ag
 rename_i t a aA
 have eH:∀l,E.rs ≠ .own::l:=by
  intro l e;rw [e]at ag;cases ag
 have Dz:∀c l,E.rs ≠ .marks c::l:=by
  intro c l e;rw [e]at ag;cases ag
 have R:rd g1.env g1.b0 E.p tt o.type a=rd g2.env g2.b0 E.p tt o.type a:=J5 (gX a (by simp [aA,Op.operands])) _ _
 have lk:iv tt g1 E.p o=iv tt g2 E.p o:=by simp only [iv,aA,R]
 refine⟨?_,?_,λq aE=>?_,(by rw [←lk];exact h.jE),λtH=>by rw [hk]at tH;cases tH⟩
 ·rw [←TR (g1:=g1) (g2:=g2) λt bU=>hs t (tS t (List.mem_append_left _ bU))];exact h.Dy
 ·rw [←h.st];exact(aeL aA eH Dz R λq off _=>hb q).symm
 ·rw [←Dx (g1:=g1) (g2:=g2) λx hx=>hs x.1 (tS _ (List.mem_append_right _ (List.mem_map.2 ⟨x,hx,rfl⟩)))]
  exact h.bb q aE
end
def h4(ops:List Oper)(o:Oper)(E:eu):Bool:=aeO (oR ops o++E.p.map (·.1)) E.mB&&(pW o == E.oP)&&decide (E.dst=o.dst)&&(match E.f.rs with|[]=>true|_=>false)&&(Nat.beq E.nh 0||Nat.beq E.nh (tT o E.rs)&&Nat.beq E.gD 0)
where aeO (a b:List Nat):Bool:=a.all λx=>b.any (Nat.beq x)
def DB{ops:List Oper}{o:Oper}{E:eu}(h:h4 ops o E=true):(∀t,t∈oR ops o++E.p.map (·.1)→t∈E.mB)∧pW o=E.oP∧E.dst=o.dst∧E.f.rs=[]:=by
 simp only [h4,Bool.and_eq_true,beq_iff_eq,decide_eq_true_eq]at h;obtain⟨⟨⟨⟨Z,af⟩,au⟩,aQ⟩,_⟩:=h;refine⟨λt bU=>?_,af,au,?_⟩
 ·obtain⟨y,cc,gC⟩:=List.any_eq_true.1 (List.all_eq_true.1 Z t bU);have:t=y:=by simpa using gC
  rw [this];exact cc
 ·split at aQ
  ·assumption
  ·cases aQ
def waits(ops:List Oper)(i:Nat):Nat→Nat→Bool
 | 0,_=>false
 |n+1,j=>match ops[j]? with
  |some o=>o.after.toList.any λe=>Region.binds .any e&&(Nat.beq e.on i||waits ops i n e.on)
  |none=>false
def nj(opsA:Array Oper)(listed:Array Bool):Prop:=∀(j:Nat) o,opsA[j]? = some o→listed.getD j false=true→∀e,e∈o.after→Region.binds .any e=true→listed.getD e.on false=true
def DC{opsA:Array Oper}{listed:Array Bool}(hc:nj opsA listed){i:Nat}:∀{n j:Nat},waits opsA.toList i n j=true→listed.getD j false=true→listed.getD i false=true
 | 0,_,h,_=>by simp [waits]at h
 |n+1,j,h,hj=>by
  simp only [waits]at h;split at h
  ·rename_i o aA;obtain⟨e,he,hb⟩:=List.any_eq_true.1 h;simp only [Bool.and_eq_true,Bool.or_eq_true,Nat.beq_eq]at hb;have Z:=hc j o (by simpa using aA) hj e (by simpa using he) hb.1
   rcases hb.2 with rfl|af
   ·exact Z
   ·exact DC hc af Z
  ·cases h
def nj.set{opsA:Array Oper}{listed:Array Bool}(hc:nj opsA listed){i:Nat}(ak:i∈Region.ready .any opsA listed):nj opsA (listed.setIfInBounds i true):=by
 intro j o aA hj e he hb;by_cases oS:i=j
 ·subst oS;obtain⟨_,o',kt,nS⟩:=mem_ready.1 ak;rw [aA]at kt;cases kt;exact getD_set_true (nS e he hb)
 ·rw [getD_set_ne false oS]at hj;exact getD_set_true (hc j o aA hj e he hb)
section
variable {cn:gg} {tt:dx} {opsA:Array Oper} {cO:List eu} {Fi:di→Prop} {g g1 g2:di}
def iU(cn:gg)(tt:dx)(opsA:Array Oper)(cO:List eu)(Fi:di→Prop):Nat→Array Bool→di→Prop
 | 0,listed,g=>Region.ready .any opsA listed=[]∧Fi g
 |n+1,listed,g=>(Region.ready .any opsA listed=[]→Fi g)∧∀i,i∈Region.ready .any opsA listed→∃o E,opsA[i]? = some o∧cO[i]? = some E∧Can cn tt opsA.toList o E g∧
  iU cn tt opsA cO Fi n (listed.setIfInBounds i true) (ez E g)
def iU.alike(e0:∀(i:Nat) o E,opsA[i]? = some o→cO[i]? = some E→h4 opsA.toList o E=true)(dC:∀g1 g2,Alike g1 g2→Fi g1→Fi g2):∀{n:Nat} {listed:Array Bool} {g1 g2:di},Alike g1 g2→iU cn tt opsA cO Fi n listed g1→iU cn tt opsA cO Fi n listed g2
 | 0,_,_,_,ha,h=>⟨h.1,dC _ _ ha h.2⟩
 |n+1,_,_,_,ha,h=>⟨λak=>dC _ _ ha (h.1 ak),λi hi=>by
  obtain⟨o,E,aA,cI,jm,hn⟩:=h.2 i hi;obtain⟨cS,al,_,_⟩:=DB (e0 i o E aA cI);exact⟨o,E,aA,cI,jm.congr cS al (λt _=>ha.slot t) (λq _=>ha.box q) (λ_=>ha.a8) ha.ids,iU.alike e0 dC ha.ap hn⟩⟩
def zo{ops:List Oper}{o:Oper}{E:eu}{n:Nat}(h:h4 ops o E=true)(ag:E.nh=n+1):tT o E.rs=n+1∧E.gD=0:=by
 simp only [h4,Bool.and_eq_true,Bool.or_eq_true,Nat.beq_eq]at h;rcases h.2 with h|h
 ·rw [ag]at h;cases h
 ·exact⟨h.1.symm.trans ag,h.2⟩
def Can.data{cn:gg}{tt:dx}{ops:List Oper}{o:Oper}{E:eu}{g:di}(h:Can cn tt ops o E g)(e0:h4 ops o E=true)(ag:E.nh=2)(q:Nat):r3 (ez E g) g q:=by
 obtain⟨Z,af⟩:=zo e0 ag;rcases h with h|h
 ·rw [af]at h;cases h
 ·exact aeJ h Z af q
def aeP{E dm:eu}(h:zn E dm=true):sep (ni E) dm.mB=true∧sep (ni E) (ni dm)=true∧sep (ni dm) E.mB=true∧(sep (n3 E) dm.jE=true∨E.nh=2∧dm.nh=1)∧sep (n3 E) (n3 dm)=true∧(sep (n3 dm) E.jE=true∨dm.nh=2∧E.nh=1)∧(E.oP=true→wk dm=0)∧(dm.oP=true→wk E=0):=by
 simp only [zn,Bool.and_eq_true,Bool.or_eq_true,Bool.not_eq_true',Nat.beq_eq]at h;obtain⟨⟨⟨⟨⟨⟨⟨Z,af⟩,au⟩,aQ⟩,bj⟩,cb⟩,de⟩,dR⟩:=h;exact⟨Z,af,au,aQ,bj,cb,λhm=>de.resolve_left (by simp [hm]),λhm=>dR.resolve_left (by simp [hm])⟩
def iU.first(e0:∀(i:Nat) o E,opsA[i]? = some o→cO[i]? = some E→h4 opsA.toList o E=true)(dC:∀g1 g2,Alike g1 g2→Fi g1→Fi g2){i:Nat}{o:Oper}{E:eu}(hi:opsA[i]? = some o)(cI:cO[i]? = some E):
 ∀(fuel:Nat) (listed:Array Bool) (g:di),
  (∀(j:Nat) oT lF,opsA[j]? = some oT→cO[j]? = some lF→j≠i→listed.getD j true=false→waits opsA.toList i 3 j=false→zn E lF=true)→nj opsA listed→
  i∈Region.ready .any opsA listed→Can cn tt opsA.toList o E g→iU cn tt opsA cO Fi fuel (listed.setIfInBounds i true) (ez E g)→iU cn tt opsA cO Fi (fuel+1) listed g:=by
 intro fuel;induction fuel with
 |zero=>
  intro listed g _ _ ak jm H;refine⟨λh=>(by rw [h]at ak;cases ak),λj hj=>?_⟩
  by_cases oS:j=i
  ·subst oS;exact⟨o,E,hi,cI,jm,H⟩
  ·have:=ready_mono hj oS
   rw [H.1]at this;cases this
 |succ fuel bc=>
  intro listed g jT hJ ak jm H;refine⟨λh=>(by rw [h]at ak;cases ak),λj hj=>?_⟩
  by_cases oS:j=i
  ·subst oS;exact⟨o,E,hi,cI,jm,H⟩
  obtain⟨oT,lF,oU,r4,TV,aeQ⟩:=H.2 j (ready_mono hj oS);obtain⟨TW,aoK,TX,nS⟩:=mem_ready.1 hj;rw [oU]at TX;cases TX
  have nk:listed.getD i false=false:=by
   have h0:=(mem_ready.1 ak).1;rcases Nat.lt_or_ge i listed.size with dp|dp
   ·simpa [Array.getD_eq_getD_getElem?,dp]using h0
   ·simp [Array.getD_eq_getD_getElem?,Array.getElem?_eq_none dp]
  have aeR:waits opsA.toList i 3 j=false:=by
   rw [Bool.eq_false_iff];intro hw;rw [waits]at hw;have ag:opsA.toList[j]? = some oT:=by simpa using oU
   simp only [ag]at hw;obtain⟨e,he,hb⟩:=List.any_eq_true.1 hw;simp only [Bool.and_eq_true,Bool.or_eq_true,Nat.beq_eq]at hb;have Z:=nS e (by simpa using he) hb.1
   rcases hb.2 with rfl|af
   ·rw [nk]at Z;cases Z
   ·rw [DC hJ af Z]at nk;cases nk
  obtain⟨d1,d2,d3,d4,d5,d6,d7,d8⟩:=aeP (jT j oT lF oU r4 oS TW aeR);obtain⟨cS,al,_,_⟩:=DB (e0 i o E hi cI);obtain⟨gv,ir,_,_⟩:=DB (e0 j oT lF oU r4)
  have c1:Can cn tt opsA.toList oT lF g:=by
   rcases d4 with d4|⟨e1,e2⟩
   ·exact TV.congr gv ir (λt bU=>tQ λhw=>tR d1 hw bU) (λq aE=>wj λhw=>tR d4 hw aE) (λhm=>by rw [Dv,d8 hm];rfl) Dw
   ·exact TV.TU (zo (e0 j oT lF oU r4) e2).1 (zo (e0 j oT lF oU r4) e2).2 gv (λt bU=>tQ λhw=>tR d1 hw bU) (jm.data (e0 i o E hi cI) e1)
  have c2:Can cn tt opsA.toList o E (ez lF g):=by
   have TY:∀t,t∈E.mB→l9 g (ez lF g) t:=λt bU=>by have:=tQ (E:=lF) (g:=g) (t:=t) λhw=>tR d3 hw bU;exact⟨this.1.symm,this.2.symm⟩
   rcases d6 with d6|⟨e1,e2⟩
   ·exact jm.congr cS al TY (λq aE=>(wj (E:=lF) (g:=g) (q:=q) λhw=>tR d6 hw aE).symm) (λhm=>by rw [Dv,d7 hm];rfl) Dw.symm
   ·exact jm.TU (zo (e0 i o E hi cI) e2).1 (zo (e0 i o E hi cI) e2).2 cS TY (λq=>(c1.data (e0 j oT lF oU r4) e1 q).symm)
  refine⟨oT,lF,oU,r4,c1,bc (listed.setIfInBounds j true) (ez lF g) ?_ (hJ.set hj) (ready_mono ak (Ne.symm oS)) c2 ?_⟩
  ·intro k ok aeS hk aeT DD nk nY;refine jT k ok aeS hk aeT DD ?_ nY;by_cases r5:j=k
   ·subst r5;exact TW
   ·rw [getD_set_ne true r5]at nk;exact nk
  ·rw [Array.setIfInBounds_comm _ _ oS];exact iU.alike e0 dC (aeH d2 d5).symm aeQ
structure DE(n k:Nat)(listed:Array Bool):Prop where
 size:listed.size=n
 at':∀j,j<n→listed[j]? = some (decide (j<k))
def DE.set{n k:Nat}{listed:Array Bool}(h:DE n k listed):DE n (k+1) (listed.setIfInBounds k true):=by
 refine⟨by simp [h.size],λj hj=>?_⟩
 by_cases r5:k=j
 ·subst r5;simp [h.size,hj]
 ·rw [Array.getElem?_setIfInBounds_ne r5,h.at' j hj]
  congr 1
  have:(j<k)=(j<k+1):=by apply propext;omega
  simp [this]
def aeU(o:Oper)(k:Nat):Bool:=o.after.toList.all λe=>!Region.binds .any e||Nat.blt e.on k
def DF(ops:List Oper)(E:eu)(k:Nat):Nat→List (Oper×eu)→Bool
 |_,[]=>true
 |j,(_,dm)::l=>(zn E dm||waits ops k 3 j)&&DF ops E k (j+1) l
def DG(ops:List Oper):Nat→List (Oper×eu)→Bool
 |_,[]=>true
 |k,(o,E)::l=>aeU o k&&DF ops E k (k+1) l&&DG ops (k+1) l
def DH(cn:gg)(tt:dx)(ops:List Oper)(Fi:di→Prop):List (Oper×eu)→di→Prop
 |[],g=>Fi g
 |(o,E)::l,g=>Can cn tt ops o E g∧DH cn tt ops Fi l (ez E g)
def TZ{ops:List Oper}{E:eu}{k:Nat}:∀{l:List (Oper×eu)} {n:Nat},DF ops E k n l=true→∀(j:Nat) o dm,l[j]? = some (o,dm)→waits ops k 3 (n+j)=false→zn E dm=true
 |[],_,_,j,o,dm,hj,_=>by simp at hj
 |(c6,a6)::l,n,h,j,o,dm,hj,nY=>by
  simp only [DF,Bool.and_eq_true,Bool.or_eq_true]at h;cases j with
  |zero=>
   simp at hj
   obtain⟨rfl,rfl⟩:=hj;exact h.1.resolve_right (by rw [Nat.add_zero]at nY;rw [nY];simp)
  |succ j=>exact TZ h.2 j o dm (by simpa using hj) (by rwa [show n+1+j=n+(j+1)by omega])
def iU.text(e0:∀(i:Nat) o E,opsA[i]? = some o→cO[i]? = some E→h4 opsA.toList o E=true)(dC:∀g1 g2,Alike g1 g2→Fi g1→Fi g2):
 ∀(l:List (Oper×eu)) (k:Nat) (listed:Array Bool) (g:di),(∀j:Nat,(l[j]?).map (·.1)=opsA[k+j]?)→(∀j:Nat,(l[j]?).map (·.2)=cO[k+j]?)→DE opsA.size k listed→nj opsA listed→DG opsA.toList k l=true→DH cn tt opsA.toList Fi l g→
  iU cn tt opsA cO Fi l.length listed g
 |[],k,listed,g,Z,_,mC,_,_,hc=>by
  refine⟨?_,hc⟩
  have hk:opsA[k]? = none:=by have:=Z 0;simpa using this.symm
  have tH:opsA.size≤k:=by simpa using hk
  refine List.eq_nil_iff_forall_not_mem.2 λj hj=>?_
  obtain⟨hu,o,aA,_⟩:=mem_ready.1 hj;have c':j<opsA.size:=(Array.getElem?_eq_some_iff.1 aA).1;have:=mC.at' j c'
  rw [Array.getD_eq_getD_getElem?,this]at hu;have r5:j<k:=by omega
  simp [r5]at hu
 |(o,E)::l,k,listed,g,Z,af,mC,hJ,hx,hc=>by
  have aA:opsA[k]? = some o:=by have:=Z 0;simpa using this.symm
  have cI:cO[k]? = some E:=by have:=af 0;simpa using this.symm
  have c':k<opsA.size:=(Array.getElem?_eq_some_iff.1 aA).1;simp only [DG,Bool.and_eq_true]at hx;obtain⟨⟨ak,a'⟩,hx⟩:=hx
  have T0:k∈Region.ready .any opsA listed:=by
   refine mem_ready.2 ⟨?_,o,aA,λe he hb=>?_⟩
   ·rw [Array.getD_eq_getD_getElem?,mC.at' k c'];simp
   ·have:=List.all_eq_true.1 ak e (by simpa using he)
    simp only [hb,Bool.not_true,Bool.false_or,Nat.blt_eq]at this;rw [Array.getD_eq_getD_getElem?,mC.at' e.on (by omega)]
    simp [this]
  refine iU.first e0 dC aA cI l.length listed g ?_ hJ T0 hc.1 (iU.text e0 dC l (k+1) _ _ (λj=>?_) (λj=>?_) mC.set (hJ.set T0) hx hc.2)
  ·intro j oT lF oU r4 ef nk nY;have tu:j<opsA.size:=(Array.getElem?_eq_some_iff.1 oU).1
   have r5:k<j:=by
    rw [Array.getD_eq_getD_getElem?,mC.at' j tu]at nk;simp at nk
    omega
   have e1:=Z (j-k);have e2:=af (j-k);have T1:k+(j-k)=j:=by omega
   rw [T1,oU]at e1;rw [T1,r4]at e2
   have e3:(((o,E)::l)[j-k]?)=l[j-k-1]? := by
    have:j-k=(j-k-1)+1:=by omega
    rw [this];simp
   rw [e3]at e1 e2;cases ag:l[j-k-1]? with
   |none=>rw [ag]at e1;simp at e1
   |some x=>
    rw [ag]at e1 e2;simp at e1 e2
    obtain⟨fh,gw⟩:=x;simp only at e1 e2
    subst e1;subst e2;exact TZ a' _ _ _ ag (by rwa [show k+1+(j-k-1)=j by omega])
  ·have:=Z (j+1);simpa [Nat.add_assoc,Nat.add_comm 1 j]using this
  ·have:=af (j+1);simpa [Nat.add_assoc,Nat.add_comm 1 j]using this
end
def pY(N:Nat)(E:eu):Bool:=
 match E.dst with
 |none=>E.p.isEmpty
 |some t=>Nat.blt t N&&match E.p with
  |[]=>true
  |p=>E.f.e.isSome&&E.f.hs.isEmpty&&E.f.gI.isEmpty&&p.all (λy=>!Nat.beq y.1 t)&&Nat.beq E.f.fc 0
def zp(ops:List Oper)(i:Nat)(t:Nat):Nat→List eu→Bool
 |_,[]=>true
 |j,dm::l=>(match dm.p with
  |[]=>true
  |p=>(match dm.dst with |some jf=>Nat.beq jf t |none=>false)||p.all (λy=>!Nat.beq y.1 t)||waits ops i 3 j)&&zp ops i t (j+1) l
def DI(ops:List Oper)(cO:List eu):Nat→List eu→Bool
 |_,[]=>true
 |i,E::l=>(match E.dst with
  |none=>true
  |some t=>zp ops i t 0 cO)&&DI ops cO (i+1) l
def zq(ops:List Oper)(cO:List eu):Bool:=DI ops cO 0 cO
def T2{ops:List Oper}{i t:Nat}:∀{l:List eu} {k:Nat},zp ops i t k l=true→∀(j:Nat) (dm:eu),l[j]? = some dm→dm.p≠[]→
 ((match dm.dst with|some jf=>Nat.beq jf t|none=>false)||dm.p.all (λy=>!Nat.beq y.1 t))=true∨waits ops i 3 (k+j)=true
 |[],_,_,j,dm,h,_=>by simp at h
 |a6::l,k,h,j,dm,hj,ef=>by
  simp only [zp,Bool.and_eq_true]at h;cases j with
  |zero=>
   simp at hj
   subst hj;have Z:=h.1;split at Z
   ·rename_i oF;exact absurd oF ef
   ·rw [Bool.or_eq_true]at Z;exact Z
  |succ j=>
   have:=T2 h.2 j dm (by simpa using hj) ef
   rwa [show k+(j+1)=k+1+j by omega]
def T3{ops:List Oper}{cO:List eu}:∀{l:List eu} {k:Nat},DI ops cO k l=true→∀(i:Nat) (E:eu) (t:Nat),l[i]? = some E→E.dst=some t→zp ops (k+i) t 0 cO=true
 |[],_,_,i,E,t,h,_=>by simp at h
 |a6::l,k,h,i,E,t,hi,hd=>by
  simp only [DI,Bool.and_eq_true]at h;cases i with
  |zero=>
   simp at hi
   subst hi;have Z:=h.1;rw [hd]at Z;exact Z
  |succ i=>
   have:=T3 h.2 i E t (by simpa using hi) hd
   rwa [show k+(i+1)=k+1+i by omega]
section
variable {P:Program} {K:Ctx} {N:Nat} {M:Mem} {β:Nat→Option Nat} {tt:dx} {opsA:Array Oper} {cO:List eu} {g:di} {w:World} {tmps:Array Value}
def r6(cO:List eu)(listed:Array Bool)(g:di):Prop:=∀x,x∈g.b0→∃(i:Nat) (E:eu),cO[i]? = some E∧listed.getD i false=true∧E.dst=some x.1∧E.p=x.2.1∧E.p≠[]
def DJ{α:Type}:∀{l:List (Nat×α)} {t:Nat} {x:Nat×α},x∈del l t→x∈l
 |[],_,_,h=>by simp [del]at h
 |(j,y)::l,t,x,h=>by
  simp only [del]at h;rw [Bool.cond_eq_ite]at h;split at h
  ·exact List.mem_cons_of_mem _ (DJ h)
  ·rcases List.mem_cons.1 h with rfl|h
   ·simp
   ·exact List.mem_cons_of_mem _ (DJ h)
def r6.ap{listed:Array Bool}{i:Nat}{E:eu}(cI:cO[i]? = some E)(hi:i<listed.size)(h:r6 cO listed g):r6 cO (listed.setIfInBounds i true) (ez E g):=by
 have dp:r6 cO (listed.setIfInBounds i true) g:=λx hx=>by
  obtain⟨j,dm,Z,af,au⟩:=h x hx;exact⟨j,dm,Z,getD_set_true af,au⟩
 intro x hx;unfold ez at hx;cases hd:E.dst with
 |none=>simp only [hd]at hx;exact dp x hx
 |some t=>
  simp only [hd]at hx;cases hp:E.p with
  |nil=>simp only [hp]at hx;exact dp x (DJ hx)
  |cons y p=>
   simp only [hp]at hx;cases he:E.f.e with
   |none=>simp only [he]at hx;exact dp x hx
   |some e=>
    simp only [he]at hx;rcases List.mem_cons.1 hx with rfl|hx
    ·exact⟨i,E,cI,by simp [hi],by simp [hd],by simp [hp],by simp [hp]⟩
    ·exact dp x (DJ hx)
def aeV{listed:Array Bool}{i:Nat}{E:eu}{t:Nat}(jT:zq opsA.toList cO=true)(cI:cO[i]? = some E)(hd:E.dst=some t)(hc:nj opsA listed)(hi:listed.getD i false=false)(h:r6 cO listed g):vE g.b0 t=true:=by
 unfold vE;rw [List.all_eq_true];intro x hx;obtain⟨j,dm,qZ,ag,jO,wb,ef⟩:=h x hx;have Z:=T3 jT i E t cI hd;rw [Nat.zero_add]at Z;rcases T2 Z j dm qZ ef with af|af
 ·rw [jO,wb]at af;exact af
 ·rw [Nat.zero_add]at af;have:=DC hc af ag
  rw [hi]at this;cases this
def T4{listed:Array Bool}{cn:gg}{o:Oper}{E:eu}{i:Nat}(iJ:E.gD=0)(jm:Kb cn tt opsA.toList o E g)(cI:cO[i]? = some E)(e0:h4 opsA.toList o E=true)(bB:pY N E=true)(jT:zq opsA.toList cO=true)(hc:nj opsA listed)(hi:listed.getD i false=false)(iE:r6 cO listed g):
 jx cn tt N opsA.toList {g with rs:=E.rs,bb:=[]} o=some (.go {ez E g with rs:=[],bb:=E.f.bb.map (under g E.p)}):=by
 obtain⟨_,_,eP,dD⟩:=DB e0;have hg:oE opsA.toList {g with rs:=E.rs,bb:=[]} o=some E.p:=jm.Dy
 have hs:step1 cn tt opsA.toList {g with rs:=E.rs,bb:=[]} E.p o=some (.go E.f):=by
  have dS:=jm.st;rw [iJ]at dS;refine Eq.trans ?_ dS;exact J8 (g1:={g with rs:=E.rs,bb:=[]}) (g2:={g with rs:=E.rs}) (λ_ _ _ _=>⟨rfl,rfl⟩) rfl rfl (λ_=>rfl) (λ_ _=>rfl)
 have hu:∀q,under {g with rs:=E.rs,bb:=[]} E.p q=under g E.p q:=λq=>Dx λ_ _=>⟨rfl,rfl⟩
 unfold jx;rw [hg]
 dsimp only
 rw [hs]
 dsimp only
 rw [←eP];have cC:E.f.bb.map (under {g with rs:=E.rs,bb:=[]} E.p)++[]=E.f.bb.map (under g E.p):=by rw [List.append_nil];exact List.map_congr_left λq _=>hu q
 rw [cC,dD];unfold pY at bB;unfold ez;cases hd:E.dst with
 |none=>
  rw [hd]at bB
  dsimp only at bB ⊢
  rw [bB];rfl
 |some t=>
  rw [hd]at bB;have a':=aeV jT cI hd hc hi iE;simp only [Bool.and_eq_true]at bB;obtain⟨c',bB⟩:=bB
  dsimp only
  rw [c',a'];cases hp:E.p with
  |nil=>rfl
  |cons x p=>
   rw [hp]at bB;simp only [Bool.and_eq_true,List.isEmpty_iff,Nat.beq_eq,Option.isSome_iff_exists]at bB;obtain⟨⟨⟨⟨⟨e,he⟩,bz⟩,hc⟩,nS⟩,hn⟩:=bB;simp only [he,bz,hc,hn,nS];rfl
def iU.sound(cj:e7 P tt=true)(iJ:∀(i:Nat) E,cO[i]? = some E→E.gD=0)(e0:∀(i:Nat) o E,opsA[i]? = some o→cO[i]? = some E→h4 opsA.toList o E=true)(bB:∀(i:Nat) E,cO[i]? = some E→pY N E=true)(jT:zq opsA.toList cO=true){Fi:di→Prop}{Q:Exit→Act→World→Prop}
 (ea:∀g ej w' M' β',Fi g→fx P K N M' β' g ej w'→Q .normal ⟨ej,K.ds⟩ w'):
 ∀(n:Nat) (listed:Array Bool) (g:di) (tmps:Array Value) (w:World) (M:Mem) (β:Nat→Option Nat),iU (gW P) tt opsA cO Fi n listed g→listed.size=opsA.size→nj opsA listed→r6 cO listed g→fx P K N M β g tmps w→wpAny P .any opsA Q n listed ⟨tmps,K.ds⟩ w
 | 0,_,g,tmps,w,M,β,h,_,_,_,hs=>⟨h.1,ea g tmps w M β h.2 hs⟩
 |n+1,listed,g,tmps,w,M,β,h,el,hJ,iE,hs=>by
  refine⟨λak=>ea g tmps w M β (h.1 ak) hs,λi hi=>?_⟩
  obtain⟨o,E,aA,cI,DK,hn⟩:=h.2 i hi;have jm:=DK.resolve_left (by rw [iJ i E cI];simp)
  have c':i<listed.size:=by rw [el];exact(Array.getElem?_eq_some_iff.1 aA).1
  have nk:listed.getD i false=false:=by have:=(mem_ready.1 hi).1;simpa [Array.getD_eq_getD_getElem?,c']using this
  have Kc:=T4 (N:=N) (iJ i E cI) jm cI (e0 i o E aA cI) (bB i E cI) jT hJ nk iE;have fY:fx P K N M β {g with rs:=E.rs,bb:=[]} tmps w:=⟨hs.bu,hs.size,hs.fresh,hs.cond⟩;unfold wpOp;simp only [aA];refine zj fY cj (opsA:=opsA) rfl Kc (λq aE=>?_) (λej w' M' β' dp=>?_)
  ·obtain⟨q',oK,rfl⟩:=List.mem_map.1 aE;exact jm.bb q' oK
  ·exact iU.sound cj iJ e0 bB jT ea n _ (ez E g) ej w' M' β' hn (by simpa using el) (hJ.set hi) (iE.ap cI c') ⟨dp.bu,dp.size,dp.fresh,dp.cond⟩
end
def findD(cn:gg)(tt:dx)(ops:List Oper)(g:di)(o:Oper)(rs:List fo):Option eu:=
 match oE ops g o with
 |none=>none
 |some p=>match step1 cn tt ops {g with rs:=rs} p o with
  |some (.go f)=>some {dst:=o.dst,p,f,jE:=iv tt g p o,mB:=oR ops o++p.map (·.1),oP:=pW o,rs,nh:=tT o rs}
  |_=>none
def tU(cn:gg)(tt:dx)(ops:List Oper):List Oper→List (List fo)→di→Option (List eu×di×List Prop)
 |[],[],g=>some ([],g,[])
 |o::l,rs::jn,g=>match findD cn tt ops g o rs with
  |some E=>match tU cn tt ops l jn (ez E g) with
   |some (cO,fe,bb)=>some (E::cO,fe,bb++E.f.bb.map (under g E.p))
   |none=>none
  |none=>none
 |_,_,_=>none
def kZ:List Oper→List eu→List (Oper×eu)
 |o::l,E::m=>(o,E)::kZ l m
 |_,_=>[]
def DL(N:Nat)(ops:List Oper)(cO:List eu):Bool:=
 (kZ ops cO).all (λx=>h4 ops x.1 x.2)&&cO.all (pY N)&&zq ops cO&&DG ops 0 (kZ ops cO)
section
variable {cn:gg} {tt:dx} {ops:List Oper}
def T6{Fi:di→Prop}:∀{l:List Oper} {jn:List (List fo)} {g:di} {cO:List eu} {fe:di} {bb:List Prop},tU cn tt ops l jn g=some (cO,fe,bb)→(∀q,q∈bb→q)→Fi fe→
 cO.length=l.length∧(∀E,E∈cO→E.gD=0)∧DH cn tt ops Fi (kZ l cO) g
 |[],[],g,cO,fe,bb,h,_,dC=>by
  simp only [tU,Option.some.injEq,Prod.mk.injEq]at h;obtain⟨rfl,rfl,rfl⟩:=h;exact⟨rfl,by simp,dC⟩
 |o::l,rs::jn,g,cO,fe,bb,h,cC,dC=>by
  simp only [tU]at h;split at h
  case h_2=>cases h
  rename_i E cI;split at h
  case h_2=>cases h
  rename_i tV g1 DM Z;simp only [Option.some.injEq,Prod.mk.injEq]at h;obtain⟨rfl,rfl,rfl⟩:=h;obtain⟨af,aeW,au⟩:=T6 Z (λq aE=>cC q (List.mem_append_left _ aE)) dC
  have aeX:E.gD=0:=by
   unfold findD at cI;split at cI
   ·cases cI
   split at cI
   ·cases cI;rfl
   ·cases cI
  refine⟨by simp [af],λdm qZ=>?_,?_,au⟩
  ·rcases List.mem_cons.1 qZ with rfl|qZ
   ·exact aeX
   ·exact aeW dm qZ
  have Kd:∀q,q∈E.f.bb→under g E.p q:=λq aE=>cC _ (List.mem_append_right _ (List.mem_map.2 ⟨q,aE,rfl⟩))
  unfold findD at cI;split at cI
  ·cases cI
  rename_i p hp;split at cI
  ·rename_i f a';cases cI;exact .inr ⟨hp,a',Kd,λ_ h=>h,λh=>by cases h⟩
  ·cases cI
 |[],_::_,_,_,_,_,h,_,_=>by simp [tU]at h
 |_::_,[],_,_,_,_,h,_,_=>by simp [tU]at h
def tW:∀{l:List Oper} {m:List eu},m.length=l.length→∀(j:Nat),((kZ l m)[j]?).map (·.1)=l[j]? ∧ ((kZ l m)[j]?).map (·.2)=m[j]?
 |[],[],_,j=>by simp [kZ]
 |o::l,E::m,h,j=>by
  cases j with
  |zero=>simp [kZ]
  |succ j=>simpa [kZ]using tW (by simpa using h) j
 |[],_::_,h,_=>by simp at h
 |_::_,[],h,_=>by simp at h
def Ke:∀{l:List Oper} {m:List eu},m.length=l.length→(kZ l m).length=l.length
 |[],[],_=>rfl
 |_::l,_::m,h=>by simp [kZ,Ke (l:=l) (m:=m) (by simpa using h)]
 |[],_::_,h=>by simp at h
 |_::_,[],h=>by simp at h
end
section
variable {P:Program} {N E:Nat} {st:aJ} {tt:dx}
def Alike.bu{K:Ctx}{M:Mem}{β:Nat→Option Nat}{g1 g2:di}{tmps:Array Value}{w:World}(ha:Alike g1 g2)(h:bN P K M β {env:=g1.env,H:=g1.H,a8:=g1.a8} tmps w):bN P K M β {env:=g2.env,H:=g2.H,a8:=g2.a8} tmps w:=by
 have ff:∀l,({env:=g2.env,H:=g2.H,a8:=g2.a8}:aJ).at l=({env:=g1.env,H:=g1.H,a8:=g1.a8}:aJ).at l:=by
  intro l;cases l with
  |slot s=>exact(ha.slot s).1.symm
  |cell r i=>simp only [aJ.at];rw [←ha.box r]
 have hb:∀r,look g2.H r=look g1.H r:=λr=>(ha.box r).symm
 constructor
 ·intro l e ag;rw [ff]at ag;exact h.eW l e ag
 ·intro l e T ag;rw [ff]at ag;exact h.own l e T ag
 ·intro l cL e a_ T T' b ag aS cR;rw [ff]at ag cR;exact h.uniq l cL e a_ T T' b ag aS cR
 ·intro l e T b r cs ag aS mx ak;rw [ff]at ag;exact h.unbox l e T b r cs ag aS mx (by rw [←hb r];exact ak)
 ·intro r cs ak;exact h.box r cs (by rw [←hb r];exact ak)
 ·intro r cM b cs cs' ak e6;exact h.inj r cM b cs cs' (by rw [←hb r];exact ak) (by rw [←hb cM];exact e6)
 ·intro r b ak;exact(by have:=h.lt r b ak;simpa [ha.a8]using this)
 ·exact h.mem
 ·exact h.m0
 ·exact h.frame
 ·exact h.h2
 ·exact h.iD
 ·exact h.hq
def bN.drew{K:Ctx}{M:Mem}{β:Nat→Option Nat}{tmps:Array Value}{w:World}(h:bN P K M β st tmps w)(k:Nat):bN P K M β st tmps {w with drawn:=k}:=
 ⟨h.eW,h.own,h.uniq,h.unbox,h.box,h.inj,h.lt,h.mem,h.m0,h.frame,h.h2,h.iD,h.hq⟩
end
def bf.scope{P:Program}{N E:Nat}{c:Code}{Q:cv→aJ→Prop}{st:aJ}(h:bf P N E c Q st):bf P N E (.scope c) Q st:=by
 intro K ek a w hs;refine wp_scope_straight (wp_mono (h K ek a w hs) ?_)
 rintro e dU w' ⟨fg,bZ,Z,af⟩
 cases fg with
 |normal=>obtain⟨rfl,au⟩:=Z;exact⟨.normal,bZ,⟨rfl,au⟩,af⟩
 |exit i=>obtain⟨rfl,au⟩:=Z;exact⟨.exit i,bZ,⟨rfl,au⟩,af⟩
 |ret=>obtain⟨rfl,au⟩:=Z;exact⟨.ret,bZ,⟨rfl,au⟩,af⟩
 |bl x=>obtain⟨v,rfl,au⟩:=Z;exact⟨.bl x,bZ,⟨v,rfl,au⟩,af⟩
def hS.on{α β dJ:Type}(x:α ⊕ β)(f:α→dJ)(g:β→dJ):dJ:=
 match x with
 |.inl a=>f a
 |.inr b=>g b
def DN.on{α β dJ:Type}(x:α×β)(f:α→β→dJ):dJ:=f x.1 x.2
def DO(P:Program)(w:World):Prop:=(∀g,g∈IE P→∃fF,w.cell? ⟨g,0,none⟩=some fF∧(fF = .nilIface∨∃ct qJ,fF = .iface ct qJ))∧
 ∀ g, P.globalNamed "internal/strconv.uint64pow10" = some g → ∃ t kq, w.heap[g]? = some (.cells IF t kq)
section
variable {P:Program}
def bN.aeY{K:Ctx}{M:Mem}{β:Nat→Option Nat}{st:aJ}{tmps:Array Value}{w:World}(h:bN P K M β st tmps w):DO P w:=⟨λg hg=>by
 obtain⟨cs,t,kq,fF,Z,af,au⟩:=h.iD.1 g hg;refine⟨fF,?_,au⟩
 have:=(h.frame g _ Z).1
 unfold World.cell?;rw [this];exact af,λg hg=>by
 obtain⟨t,kq,Z⟩:=h.iD.2 g hg;exact⟨t,kq,(h.frame g _ Z).1⟩⟩
def T7 {f : FuncId} {args : List D} {vsOf : World → List Value → Prop} {d : D} {fd : Func} (l4 : P.funcs[f]? = some fd) (hb : fd.body.isSome = true) (hn : decide (fd.name = "runtime.NumGoroutine") = false)
 (eZ:∀(w:World) (M:Mem) (β:Nat→Option Nat) (vs:List Value),(∀b o v,M b o=some v→w.cell? ⟨b,o,none⟩=some v)→vs.length=args.length→(∀(i:Nat) v a,vs[i]? = some v→args[i]? = some a→cz M β v a)→vsOf w vs)
 (tL:∀(vs:List Value) (w:World),vsOf w vs→DO P w→Calls P f ⟨vs⟩ w λe w'=>∃v,e = .returned v∧(∀M β,cz M β v d)∧(∀(b:Nat) (bb:Obj),w.heap[b]? = some bb→w'.heap[b]? = some bb)∧(w'.os,w'.output)=(w.os,w.output)):
 gl P f args [] [] (.ret d none) []:=by
 refine⟨⟨fd,l4,hb,by simpa using hn⟩,λK w vs M β hlen hs gQ=>?_⟩
 have ay:vsOf w vs:=eZ w M β vs hs.mem hlen λi v a hi ha=>by
  have Z:=hs.eW (.slot i) ⟨a,none⟩ (by
   simp only [aJ.at,hA,mz,y0,ha,Option.map_some,look])
  have af:ci (⟨vs⟩:Array Value) w β (.slot i)=v:=by
   simp [ci,hi]
  rw [af]at Z;exact Z
 refine(tL vs w ay hs.aeY).mono ?_
 rintro e w' ⟨v,rfl,fM,pJ,nP⟩
 refine⟨.ret d none,[],v,M,β,⟨rfl,rfl⟩,rfl,?_⟩
 have hQ:∀b o v,w.cell? ⟨b,o,none⟩=some v→w'.cell? ⟨b,o,none⟩=some v:=by
  intro b o v h;unfold World.cell? at h ⊢;cases hb:w.heap[b]? with
  |none=>simp [hb]at h
  |some bb=>rw [pJ b bb hb];rw [hb]at h;exact h
 constructor
 ·intro l e ag;cases l with
  |slot s=>
   simp only [aJ.at,hF,dv]at ag;split at ag
   ·rename_i h0;subst h0;cases ag;exact fM M β
   ·simp [look]at ag
  |cell r i=>simp [aJ.at,c8,look]at ag
 ·intro l e T ag aS;cases l with
  |slot s=>
   simp only [aJ.at,hF,dv]at ag;split at ag
   ·cases ag;cases aS
   ·simp [look]at ag
  |cell r i=>simp [aJ.at,c8,look]at ag
 ·intro l cL e a_ T T' b ag aS;cases l with
  |slot s=>
   simp only [aJ.at,hF,dv]at ag;split at ag
   ·cases ag;cases aS
   ·simp [look]at ag
  |cell r i=>simp [aJ.at,c8,look]at ag
 ·intro l e T b r cs ag aS hb ak;simp [c8,look]at ak
 ·intro r cs ak;simp [c8,look]at ak
 ·intro r cM b cs cs' ak;simp [c8,look]at ak
 ·exact hs.lt
 ·exact λb o v h=>hQ b o v (hs.mem b o v h)
 ·exact hs.m0
 ·exact λb bb h=>⟨pJ b bb (hs.frame b bb h).1,(hs.frame b bb h).2⟩
 ·exact hs.h2
 ·exact hs.iD
 ·exact nP.trans hs.hq
def tX {f : FuncId} {args : List D} {vsOf : List Value → Prop} {d : D} {fd : Func} (l4 : P.funcs[f]? = some fd) (hb : fd.body.isSome = true) (hn : decide (fd.name = "runtime.NumGoroutine") = false)
 (eZ:∀(M:Mem) (β:Nat→Option Nat) (vs:List Value),vs.length=args.length→(∀(i:Nat) v a,vs[i]? = some v→args[i]? = some a→cz M β v a)→vsOf vs)
 (tL:∀(vs:List Value) (w:World),vsOf vs→DO P w→Calls P f ⟨vs⟩ w λe w'=>∃v,e = .returned v∧(∀M β,cz M β v d)∧(∀(b:Nat) (bb:Obj),w.heap[b]? = some bb→w'.heap[b]? = some bb)∧(w'.os,w'.output)=(w.os,w.output)):
 gl P f args [] [] (.ret d none) []:=
 T7 (vsOf:=λ_ vs=>vsOf vs) l4 hb hn (λ_ M β vs _=>eZ M β vs) tL
end
def tY(cn:gg)(tt:dx)(N:Nat)(ops:List Oper)(rs:List fo)(st:aJ):Option Fin:=
 match rJ cn tt N ops ops {env:=st.env,b0:=[],H:=st.H,a8:=st.a8,rs,bb:=[]} with
 |some (.go g)=>match g.rs with
  |[]=>some (.go {env:=g.env,H:=g.H,a8:=g.a8} g.bb)
  |_=>none
 |some (.bl x st bb)=>some (.bl x st bb)
 |none=>none
def tZ:List Oper→Nat→List (Nat×Nat)
 |[],_=>[]
 |o::l,n=>match pW o,o.dst with
  |true,some t=>(t,n)::tZ l (n+1)
  |_,_=>tZ l n
def DP(ops:List Oper)(st:aJ):di:=
 {env:=st.env,b0:=[],H:=st.H,a8:=st.a8+(tZ ops st.a8).length,rs:=[],bb:=[],ids:=tZ ops st.a8}
def DQ(cn:gg)(tt:dx)(N:Nat)(ops:List Oper)(jn:List (List fo))(st:aJ):Option Fin:=
 match tU cn tt ops ops jn (DP ops st) with
 |some (cO,g,bb)=>bif DL N ops cO then some (.go {env:=g.env,H:=g.H,a8:=g.a8} bb)else none
 |none=>none
def jo:Option Fin→aJ
 |some (.go st _)=>st
 |some (.bl _ st _)=>st
 |none=>{env:=[],H:=[],a8:=0}
def lG:Option Fin→Option (List Prop)
 |some (.go _ bb)=>some bb
 |_=>none
def Kf:Option Fin→Option (V×List Prop)
 |some (.bl x _ bb)=>some (x,bb)
 |_=>none
def spread:Nat→Nat→List (Nat×List fo)→List (List fo)
 | 0,_,_=>[]
 |n+1,i,l=>(look l i).getD []::spread n (i+1) l
def DR:∀(l:List Oper) (n:Nat) (x:Nat×Nat),x∈tZ l n→n≤x.2∧True
 |[],n,x,h=>by simp [tZ]at h
 |o::l,n,x,h=>by
  unfold tZ at h;split at h
  ·rcases List.mem_cons.1 h with h|h
   ·subst h;exact⟨Nat.le_refl _,trivial⟩
   ·have:=(DR l (n+1) x h).1;exact⟨by omega,trivial⟩
  ·exact DR l n x h
def bN.up{P:Program}{K:Ctx}{M:Mem}{β:Nat→Option Nat}{st:aJ}{tmps:Array Value}{w:World}(h:bN P K M β st tmps w)(k:Nat):bN P K M β {env:=st.env,H:=st.H,a8:=st.a8+k} tmps w:=
 ⟨h.eW,h.own,h.uniq,h.unbox,h.box,h.inj,(λr b hb=>Nat.lt_of_lt_of_le (h.lt r b hb) (Nat.le_add_right _ _)),h.mem,h.m0,h.frame,h.h2,h.iD,h.hq⟩
section
variable {P:Program} {N E:Nat} {st:aJ} {tt:dx}
def bf.rg{id:Nat}{opsA:Array Oper}{Q:cv→aJ→Prop}(cj:e7 P tt=true)(rs:List fo){cJ:List Prop}(ak:lG (tY (gW P) tt N opsA.toList rs st)=some cJ)(cC:kz cJ)
 (ea:Q .normal (jo (tY (gW P) tt N opsA.toList rs st))):bf P N E (.region id opsA false) Q st:=by
 rintro K ek a w ⟨_,hd,el,M,β,cW⟩
 obtain⟨tmps,ds⟩:=a;simp only at hd el
 subst hd;have t6:fx P K N M β {env:=st.env,b0:=[],H:=st.H,a8:=st.a8,rs:=rs,bb:=[]} tmps w:=⟨cW,el,(λ_ _ h=>by simp [look]at h),λ_ _ _ h=>by simp [look]at h⟩
 refine wp_region ?_;unfold tY at ak ea;have hlen:List.range opsA.size=List.range' 0 opsA.toList.length:=by rw [List.range_eq_range'];simp
 rw [hlen];split at ak
 ·rename_i g eM;split at ak
  case h_2=>cases ak
  rename_i eH;simp only [lG,Option.some.injEq]at ak;subst ak;rw [eM]at ea;simp only [eH,jo]at ea;refine JZ cj rfl (fin:=.go g) cC.mem ?_ opsA.toList 0 _ tmps w M β (λj=>by simp) t6 eM
  intro ej w' M' β' dp;exact⟨.normal,_,⟨rfl,rfl,dp.size,M',β',dp.bu⟩,ea⟩
 ·cases ak
 ·cases ak
def bf.Kg{id:Nat}{opsA:Array Oper}{Q:cv→aJ→Prop}(cj:e7 P tt=true)(rs:List fo){x:V}{cJ:List Prop}(ak:Kf (tY (gW P) tt N opsA.toList rs st)=some (x,cJ))(cC:kz cJ)
 (ea:Q (.bl x) (jo (tY (gW P) tt N opsA.toList rs st))):bf P N E (.region id opsA false) Q st:=by
 rintro K ek a w ⟨_,hd,el,M,β,cW⟩
 obtain⟨tmps,ds⟩:=a;simp only at hd el
 subst hd;have t6:fx P K N M β {env:=st.env,b0:=[],H:=st.H,a8:=st.a8,rs:=rs,bb:=[]} tmps w:=⟨cW,el,(λ_ _ h=>by simp [look]at h),λ_ _ _ h=>by simp [look]at h⟩
 refine wp_region ?_;unfold tY at ak ea;have hlen:List.range opsA.size=List.range' 0 opsA.toList.length:=by rw [List.range_eq_range'];simp
 rw [hlen];split at ak
 ·split at ak<;>cases ak
 ·rename_i y bZ bb eM;simp only [Kf,Option.some.injEq,Prod.mk.injEq]at ak;obtain⟨rfl,rfl⟩:=ak;rw [eM]at ea;refine JZ cj rfl (fin:=.bl y bZ bb) cC.mem ?_ opsA.toList 0 _ tmps w M β (λj=>by simp) t6 eM
  intro e dU w' dp;exact⟨.bl y,_,dp,ea⟩
 ·cases ak
def bf.DS{id:Nat}{opsA:Array Oper}{Q:cv→aJ→Prop}(cj:e7 P tt=true)(hm:P.follows .mixedOrders=true)(jn:List (Nat×List fo)){cJ:List Prop}(ak:lG (DQ (gW P) tt N opsA.toList (spread opsA.toList.length 0 jn) st)=some cJ)(cC:kz cJ)
 (ea:Q .normal (jo (DQ (gW P) tt N opsA.toList (spread opsA.toList.length 0 jn) st))):bf P N E (.region id opsA true) Q st:=by
 rintro K ek a w ⟨_,hd,el,M,β,cW⟩
 obtain⟨tmps,ds⟩:=a;simp only at hd el
 subst hd;refine wp_region_any hm ?_;unfold DQ at ak ea;split at ak
 case h_2=>cases ak
 rename_i cO g rZ eM;rw [eM]at ea
 dsimp only at ea
 rw [Bool.cond_eq_ite]at ak ea;split at ak
 case isFalse=>cases ak
 rename_i hc;rw [if_pos hc]at ea;simp only [lG,Option.some.injEq]at ak;subst ak;simp only [jo]at ea;obtain⟨hlen,iJ,Kh⟩:=T6 (Fi:=λg1=>Alike g g1) eM cC.mem Alike.refl
 simp only [DL,Bool.and_eq_true]at hc;obtain⟨⟨⟨c1,c2⟩,c3⟩,c4⟩:=hc
 have e0:∀(i:Nat) o E,opsA[i]? = some o→cO[i]? = some E→h4 opsA.toList o E=true:=by
  intro i o E aA cI;obtain⟨kw,z2⟩:=tW hlen i;have kt:opsA.toList[i]? = some o:=by simpa using aA
  rw [kt]at kw;rw [cI]at z2;cases dQ:(kZ opsA.toList cO)[i]? with
  |none=>rw [dQ]at kw;simp at kw
  |some x=>
   rw [dQ]at kw z2;simp at kw z2
   subst kw;subst z2;exact List.all_eq_true.1 c1 x (List.mem_of_getElem? dQ)
 have bB:∀(i:Nat) E,cO[i]? = some E→pY N E=true:=λi E cI=>List.all_eq_true.1 c2 E (List.mem_of_getElem? cI)
 have zr:nj opsA (Array.replicate opsA.size false):=λj o aA hj=>by have c':j<opsA.size:=(Array.getElem?_eq_some_iff.1 aA).1;simp [Array.getD_eq_getD_getElem?,c']at hj
 have zt:=iU.text e0 (λg1 g2 gn Z=>Alike.trans Z gn) (kZ opsA.toList cO) 0 (Array.replicate opsA.size false) _ (λj=>by have:=(tW hlen j).1;simpa using this) (λj=>by have:=(tW hlen j).2;simpa using this)
  ⟨by simp,λj hj=>by simp [hj]⟩ zr c4 Kh
 have tp:(kZ opsA.toList cO).length=opsA.size:=by rw [Ke hlen];simp
 rw [tp]at zt;refine iU.sound (K:=K) cj (λi E cI=>iJ E (List.mem_of_getElem? cI)) e0 bB c3 ?_ _ _ _ tmps _ M β zt (by simp) zr (λx hx=>by cases hx) ⟨(cW.drew _).up _,el,(λs id h _ b hb=>by have Z:=cW.lt _ _ hb;have af:=(DR _ _ _ (qM h)).1;simp only at af;omega),λ_ _ _ h=>by simp [DP,look]at h⟩
 intro g1 ej w' M' β' aeZ dp;exact⟨.normal,_,⟨rfl,rfl,dp.size,M',β',Alike.bu aeZ.symm dp.bu⟩,ea⟩
def bf.Ki{α:Type}{b:Bool}{x y:Option α}{r:Option α}(h:(bif b then x else y)=r){c:Nat}{t7 t8:Code}{Q:cv→aJ→Prop}(hc:(look st.env c).map (·.d)=some (.v (.bool b)))
 (bU:x=r→bf P N E t7 Q st) (a':y=r→bf P N E t8 Q st):bf P N E (.cond (.tmp c) t7 t8) Q st:=by
 simp only [Option.map_eq_some_iff]at hc;obtain⟨⟨d,own⟩,he,rfl⟩:=hc;exact bf.cond b own he (λhb=>bU (by subst hb;exact h)) (λhb=>a' (by subst hb;exact h))
def bf.T8{c:Nat}{t7 t8:Code}{Q:cv→aJ→Prop}(hc:(look st.env c).map (·.d)=some (.v (.bool true)))(bU:bf P N E t7 Q st):bf P N E (.cond (.tmp c) t7 t8) Q st:=by
 simp only [Option.map_eq_some_iff]at hc;obtain⟨⟨d,own⟩,he,rfl⟩:=hc;exact bf.cond true own he (λ_=>bU) (λhb=>by cases hb)
def bf.Kj{c:Nat}{t7 t8:Code}{Q:cv→aJ→Prop}(hc:(look st.env c).map (·.d)=some (.v (.bool false)))(a':bf P N E t8 Q st):bf P N E (.cond (.tmp c) t7 t8) Q st:=by
 simp only [Option.map_eq_some_iff]at hc;obtain⟨⟨d,own⟩,he,rfl⟩:=hc;exact bf.cond false own he (λhb=>by cases hb) (λ_=>a')
end
def bM{P:Program}{f:FuncId}{args:List D}{en:List (Nat×TypeId)}{H cH:List (List aZ)}{out:Out}(_:gl P f args en H out cH)(os:List Nat):fo:=.call out (some cH) os
def aU{P:Program}{f:FuncId}{args:List D}{en:List (Nat×TypeId)}{H cH:List (List aZ)}{out:Out}(_:gl P f args en H out cH)(os:List Nat):fo:=.call out none os
def dt{c:Prop}{P:Program}{f:FuncId}{args:List D}{en:List (Nat×TypeId)}{H cH:List (List aZ)}{out:Out}(_:c→gl P f args en H out cH):fo:=.call out none []
def wm{c c2:Prop}{P:Program}{f:FuncId}{args:List D}{en:List (Nat×TypeId)}{H cH:List (List aZ)}{out:Out}(_:c→c2→gl P f args en H out cH):fo:=.call out none []
def f'{raw x:V}(_:gH raw x):fo:=.val x
def eA{α:Type}[Inhabited α]{k:Nat}{e:α→V}(l:List α):gH (.bL k l.length λi=>(l.map e).getD i .ew) (ae k e l):=aeA rfl _ rfl
def lH(l:List Int):Bool:=l.all λx=>decide (0≤x)&&decide (x<256)
def hL(l:List Int):ap0:=l.map λx=>UInt8.ofNat x.toNat
def t'{l:List Int}(h:lH l=true):(hL l).length=l.length∧∀i,i<l.length→V.int .u8 (l.getD i default) = .int .u8 (((hL l).getD i 0).toNat:Int):=by
 refine⟨by simp [hL],λi hi=>?_⟩
 unfold lH at h;rw [List.all_eq_true]at h;have:=h l[i] (List.getElem_mem hi)
 simp only [Bool.and_eq_true,decide_eq_true_eq]at this;simp only [hL,List.getD,List.getElem?_map,List.getElem?_eq_getElem hi,Option.getD_some,Option.map_some,UInt8.toNat_ofNat'];rw [Nat.mod_eq_of_lt (by omega)]
 congr 1
 omega
def DT(T:TypeId):V→Option (Int×Int)
 |.iface t (.agg [.int .i64 a,.int .i64 b])=>bif Nat.beq t T then some (a,b)else none
 |_=>none
def T9{T:TypeId}{x:V}{r:Int×Int}(h:DT T x=some r):x = .iface T (.agg [.int .i64 r.1,.int .i64 r.2]):=by
 unfold DT at h;split at h
 ·rw [Bool.cond_eq_ite]at h;split at h
  ·rename_i hb;cases h;rw [Nat.beq_eq]at hb;subst hb;rfl
  ·cases h
 ·cases h
def t_(M:Mem):Option V→FrameMode→Prop
 |none,m=>m = .returning
 |some x,m=>∃v,m = .panicking [{v,recovered:=false}]∧dl M v x
def r7(P:Program)(fd:FuncId)(args:List D)(H:List (List aZ))(x:Option V)(R:List (List aZ)→Prop):Prop:=
 ∀(K:Ctx) (w:World) (vs:List Value) (M:Mem) (β:Nat→Option Nat) (mode:FrameMode),vs.length=args.length→
  bN P K M β {env:=hA args [],H:=c8 0 H,a8:=H.length} ⟨vs⟩ w→(∀r b,β r=some b→K.jg r=some b)→t_ M x mode→
  CallsD P fd ⟨vs⟩ mode w λe mD w'=>∃v H' M' β',e = .returned v∧settle mD = .returning∧R H'∧bN P K M' β' {env:=hF (.ret (.cp []) none),H:=c8 0 H',a8:=H.length} #[v] w'
section
variable {P:Program} {K:Ctx} {M:Mem} {β:Nat→Option Nat} {st:aJ} {tmps:Array Value} {w:World} {tt:dx}
def t_.ae0{x:Option V}{m:FrameMode}(h:t_ M x m):m ≠ .run:=by
 cases x with
 |none=>intro hm;rw [hm]at h;cases h
 |some x=>obtain⟨v,Z,_⟩:=h;intro hm;rw [hm]at Z;cases Z
def t_.mono{M':Mem}(c7:M.le M'){x:Option V}{m:FrameMode}(h:t_ M x m):t_ M' x m:=by
 cases x with
 |none=>exact h
 |some x=>obtain⟨v,Z,af⟩:=h;exact⟨v,Z,af.mono c7⟩
def pZ(P:Program)(tt:dx)(E:Nat)(rs:List ResultVar)(fd:FuncId)(ds:List D)(R:Out→List (List aZ)→Prop)(x:Option V)(st:aJ):Prop:=
 ∃(ρ:List Nat) (bs H1:List (List aZ)) (je:List D) (Kk:List (List aZ)→Prop),mu ρ=true∧boxes st.H ρ=some bs∧jv (idx ρ) bs=some H1∧kO (idx ρ) ds=some je∧r7 P fd je H1 x Kk∧
  ∀cH,Kk cH→∃ik o H',cH.length=ρ.length∧jv (λj=>ρ[j]?) cH=some ik∧Ab.leave tt E rs {env:=st.env,H:=kP ρ ik++st.H,a8:=st.a8}=some (o,H')∧R o (ng H')
def Kl{fn:Func}{E:Nat}(cj:e7 P tt=true)(ek:∀r b,K.jg r=some b→r<E)(hs:bN P K M β st tmps w){fd:FuncId}{ds:List D}{vs:List Value}(hlen:vs.length=ds.length)(ay:∀(i:Nat) v d,vs[i]? = some v→ds[i]? = some d→cz M β v d)
 {x : Option V} {mode : FrameMode} (hm : t_ M x mode) {f : Func} (a' : P.funcs[fd]? = some f) (hb : f.body.isSome = true) (jl : decide (f.name = "runtime.NumGoroutine") = false) {R : Out → List (List aZ) → Prop} (ky : pZ P tt E fn.results.toList fd ds R x st) :
 Leaves P fn tmps (λe w'=>∃o H' v M' β',R o H'∧e=pO o v∧bN P K M' β' {env:=hF o,H:=c8 0 H',a8:=E} #[v] w') [{target:=.fn (.func fd) ⟨vs⟩,args := #[]}] mode w:=by
 obtain⟨ρ,bs,H1,je,Kk,hn,kv,lC,eZ,hd,r0⟩:=ky;have pU:f.body≠none:=by intro bz;rw [bz]at hb;cases hb
 have zu : f.name ≠ "runtime.NumGoroutine" := by simpa using jl
 refine leaves_cons (f:=fd) (args:=⟨vs⟩) hm.ae0 (by simp [invoke,callFunc,a',pU,zu]) ?_
 have hc:=SO (hd:=[]) hs hn kv lC hlen ay eZ ⟨by simp,by simp,by simp⟩
 have fr:H1.length=ρ.length:=by rw [(vX lC).1,(tq kv).1]
 refine(hd (jU M β st tmps w ρ []) w vs M _ mode (by rw [hlen,Tf eZ]) hc (λr b h=>h) hm).mono ?_
 rintro e mD w' ⟨v,H',M',β',rfl,hu,ae1,cW⟩
 obtain⟨ik,o,T_,Z,af,au,aQ⟩:=r0 H' ae1;rw [fr]at cW;obtain⟨c7,Km,_,_⟩:=Jx hs hn kv af Z cW
 dsimp only
 rw [hu];obtain⟨v2,bj,jk,M2,q0,cb,de⟩:=Ds cj ek Km au;exact⟨v2,bj,o,ng T_,jk,M2,q0,aQ,cb,de.era⟩
def oV(P:Program)(_tt:dx)(fn:Func)(E:Nat)(c:Code)(R:Out→List (List aZ)→Prop)(st:aJ):Prop:=
 ∀(K:Ctx),K.ds=[]→(∀r b,K.jg r=some b→r<E)→∀(a:Act) (w:World),pV P K fn.ntmps .normal st .normal a w→
  c.wp P (bodyPostD P fn λe w'=>∃o H' v M' β',R o H'∧e=pO o v∧bN P K M' β' {env:=hF o,H:=c8 0 H',a8:=E} #[v] w') a w
def Kn(P:Program)(tt:dx)(fn:Func)(E:Nat)(y:Code)(R:Out→List (List aZ)→Prop):cv→aJ→Prop
 |.normal,st=>oV P tt fn E y R st
 |.ret,st=>∃o H',Ab.leave tt E fn.results.toList st=some (o,H')∧R o (ng H')
 |_,_=>False
def oV.seq{fn:Func}{E:Nat}{x y:Code}{R:Out→List (List aZ)→Prop}(cj:e7 P tt=true)(h:bf P fn.ntmps E x (Kn P tt fn E y R) st):oV P tt fn E (.seq x y) R st:=by
 intro K hG ek a w hs;refine wp_seq (wp_mono (h K ek a w hs) ?_)
 rintro e dU w' ⟨fg,bZ,Z,af⟩
 cases fg with
 |normal=>obtain⟨rfl,au⟩:=Z;exact af K hG ek dU w' ⟨rfl,au⟩
 |ret=>
  obtain⟨rfl,hd,_,M',β',cW⟩:=Z;obtain⟨o,H',au,aQ⟩:=af;obtain⟨v,bj,jk,M2,q0,cb,de⟩:=Ds cj ek cW au;show Leaves P fn dU.tmps _ dU.defers .returning w'
  rw [hd,hG];exact⟨v,bj,o,ng H',jk,M2,q0,aQ,cb,de.era⟩
 |exit i=>exact af.elim
 |bl x=>exact af.elim
def Ko(P:Program)(tt:dx)(E:Nat)(rs:List ResultVar)(fd:FuncId)(ds:List D)(R:Out→List (List aZ)→Prop):cv→aJ→Prop
 |.normal,st |.ret,st=>pZ P tt E rs fd ds R none st
 |.bl x,st=>pZ P tt E rs fd ds R (some x) st
 |.exit _,_=>False
def oV.defer{fn:Func}{E:Nat}{id:Nat}{opsA:Array Oper}{c6 hT:Oper}{y:Code}{R:Out→List (List aZ)→Prop}(cj:e7 P tt=true)(mA:opsA = #[c6,hT]){t:Nat}{fd:FuncId}{fb:Array Operand}{c:Call}
 (Z:c6.op = .makeFunc (.func fd) #[] fb) (af:c6.dst=some t) (au:c6.guard=none) (aQ:hT.op = .defer c) (bj:hT.dst=none) (cb:hT.guard=none) (de:c.callee = .value (.tmp t)) (dR:c.args = #[]) (bU:Nat.blt t fn.ntmps=true)
 {ds : List D} (ae2 : mapM' (rd st.env [] [] tt 0) fb.toList = some ds) (_hE : Nat.ble E st.a8 = true) {f : Func} (a' : P.funcs[fd]? = some f) (hb : f.body.isSome = true) (jl : decide (f.name = "runtime.NumGoroutine") = false)
 (hG:s5 st.a8 ds=true)
 (h:bf P fn.ntmps st.a8 y (Ko P tt E fn.results.toList fd ds R) {env:=del st.env t,H:=st.H,a8:=st.a8}):oV P tt fn E (.seq (.region id opsA false) y) R st:=by
 rintro K ae3 ek a w ⟨_,hd,el,M,β,cW⟩
 obtain⟨tmps,defers⟩:=a;simp only at hd el
 rw [ae3]at hd;subst hd;have c':t<tmps.size:=by rw [el];simpa using bU
 -- lg captured values
 obtain⟨fr,eG⟩:=rO ae2;have t6:fx P K fn.ntmps M β {env:=st.env,b0:=[],H:=st.H,a8:=st.a8,rs:=[],bb:=[]} tmps w:=⟨cW,el,(λ_ _ h=>by simp [look]at h),λ_ _ _ h=>by simp [look]at h⟩
 have my:∀(i:Nat) v d,(fb.toList.map (⟨tmps,[]⟩:Act).eval)[i]? = some v→ds[i]? = some d→cz M β v d:=by
  intro i v d ay hd;rw [List.getElem?_map,Option.map_eq_some_iff]at ay;obtain⟨x,hx,rfl⟩:=ay;exact d_ (ds:=[]) (p:=[]) t6 (λx hx=>by cases hx) (eG i x d hx hd)
 have hlen:(fb.toList.map (⟨tmps,[]⟩:Act).eval).length=ds.length:=by simp at fr ⊢;omega
 -- lg frame behind lg region
 have oW:bN P K M β {env:=del st.env t,H:=st.H,a8:=st.a8} (tmps.setIfInBounds t (.func (.func fd) #[] ⟨fb.toList.map (⟨tmps,[]⟩:Act).eval⟩)) w:=cW.drop
 let p0:Ctx:={s7:=M,F:=K.F,jg:=λr=>if r<st.a8 then β r else none,hq:=K.hq,ds:=[{target:=.fn (.func fd) ⟨fb.toList.map (⟨tmps,[]⟩:Act).eval⟩,args := #[]}]}
 have Km:bN P p0 M β {env:=del st.env t,H:=st.H,a8:=st.a8} (tmps.setIfInBounds t (.func (.func fd) #[] ⟨fb.toList.map (⟨tmps,[]⟩:Act).eval⟩)) w:=
  ⟨oW.eW,oW.own,oW.uniq,oW.unbox,oW.box,oW.inj,oW.lt,oW.mem,Mem.le_refl _,(λb bb dC=>⟨(oW.frame b bb dC).1,λ_=>rfl⟩),(λr b hb=>by
   simp only [p0]at hb;split at hb
   ·exact hb
   ·cases hb),oW.iD,oW.hq⟩
 have Kp:∀{M':Mem} {β':Nat→Option Nat} {bZ:aJ} {ej:Array Value} {w':World},bN P p0 M' β' bZ ej w'→bN P K M' β' bZ ej w':=by
  intro M' β' bZ ej w' dp
  exact⟨dp.eW,dp.own,dp.uniq,dp.unbox,dp.box,dp.inj,dp.lt,dp.mem,Mem.le_trans cW.m0 dp.m0,(λb bb dC=>⟨(dp.frame b bb dC).1,λo=>((dp.frame b bb dC).2 o).trans ((cW.frame b bb dC).2 o)⟩),(λr b hb=>dp.h2 r b (by
   have gS:=cW.h2 r b hb;have mE:=cW.lt r b gS;simp only [p0];rw [if_pos mE];exact gS)),dp.iD,dp.hq⟩
 have gQ:∀{M':Mem} {β':Nat→Option Nat} {bZ:aJ} {ej:Array Value} {w':World},bN P p0 M' β' bZ ej w'→∀r,r<st.a8→∀b,β r=some b→β' r=some b:=λdp r ak b hb=>dp.h2 r b (by simp only [p0];rw [if_pos ak];exact hb)
 refine wp_seq (wp_region ?_);subst mA
 have e1:(execOp (Act.eval ⟨tmps,[]⟩) c6).run P w = .ok (.value (.func (.func fd) #[] ⟨fb.toList.map (⟨tmps,[]⟩:Act).eval⟩)) w:=by
  simp only [execOp,Z,Instr.makeFunc];refine iF _ ?_;simp
  congr 1
  apply Array.ext';simp
 have e2:(execOp (Act.eval ⟨tmps.setIfInBounds t (.func (.func fd) #[] ⟨fb.toList.map (⟨tmps,[]⟩:Act).eval⟩),[]⟩) hT).run P w = .ok (.defer {target:=.fn (.func fd) ⟨fb.toList.map (⟨tmps,[]⟩:Act).eval⟩,args := #[]}) w:=by
  simp [execOp,aQ,resolve,de,dR,Deferred.ofValue,Act.eval,c']
 show wpOps P #[c6,hT] _ (List.range 2) ⟨tmps,[]⟩ w
 simp only [List.range,List.range.loop,wpOps];have wn:∀jY,Region.wanted c6 (yielded #[c6,hT] jY)=true:=λjY=>by simp [Region.wanted,au]
 have zv:∀jY,Region.wanted hT (yielded #[c6,hT] jY)=true:=λjY=>by simp [Region.wanted,cb]
 simp only [show(#[c6,hT]:Array Oper)[0]? = some c6 from rfl,show(#[c6,hT]:Array Oper)[1]? = some hT from rfl,wn,zv,if_true]
 refine .inl ?_;unfold Oper.wp;rw [e1,Oper.upon_value,af];refine .inl ?_;have ae4:(execOp ((⟨tmps,[]⟩:Act).put (some t) (.func (.func fd) #[] ⟨fb.toList.map (⟨tmps,[]⟩:Act).eval⟩)).eval hT).run P w = .ok (.defer {target:=.fn (.func fd) ⟨fb.toList.map (⟨tmps,[]⟩:Act).eval⟩,args := #[]}) w:=e2;rw [ae4,Oper.upon_defer,bj];show y.wp P _ ⟨tmps.setIfInBounds t _,[_]⟩ w
 have qZ:∀r b,p0.jg r=some b→r<st.a8:=by
  intro r b hb;simp only [p0]at hb;split at hb
  ·assumption
  ·cases hb
 refine wp_mono (h p0 qZ _ w ⟨rfl,rfl,by simpa using el,M,β,Km⟩) ?_
 rintro e dU w' ⟨fg,bZ,g1,g2⟩
 have nU:∀{M':Mem} {β':Nat→Option Nat} {bZ:aJ} {ej:Array Value} {w':World},bN P p0 M' β' bZ ej w'→∀(i:Nat) v d,(fb.toList.map (⟨tmps,[]⟩:Act).eval)[i]? = some v→ds[i]? = some d→cz M' β' v d:=by
  intro M' β' bZ ej w' dp i v d ay hd;have c7:M.le M':=dp.m0;exact((my i v d ay hd).mono c7).aca (λr ak b hb=>gQ dp r ak b hb) (rK hG hd)
 cases fg with
 |normal=>
  obtain⟨rfl,hd,_,M',β',hs⟩:=g1;show Leaves P fn dU.tmps _ dU.defers .returning w'
  rw [hd];exact Kl cj ek (Kp hs) hlen (nU hs) (x:=none) rfl a' hb jl g2
 |ret=>
  obtain⟨rfl,hd,_,M',β',hs⟩:=g1;show Leaves P fn dU.tmps _ dU.defers .returning w'
  rw [hd];exact Kl cj ek (Kp hs) hlen (nU hs) (x:=none) rfl a' hb jl g2
 |exit i=>exact g2.elim
 |bl x=>
  obtain⟨v,rfl,hd,M',β',fM,hs⟩:=g1;show Leaves P fn dU.tmps _ dU.defers (.panicking _) w'
  rw [hd];exact Kl cj ek (Kp hs) hlen (nU hs) (x:=some x) ⟨v,rfl,fM⟩ a' hb jl g2
def pP.ae5 {f : FuncId} {fn : Func} {c : Code} {args : List D} {en : List (Nat × TypeId)} {H : List (List aZ)} {R : Out → List (List aZ) → Prop} (a' : P.funcs[f]? = some fn) (hb : fn.body = some c) (jl : decide (fn.name = "runtime.NumGoroutine") = false)
 (eZ:Nat.ble args.length fn.ntmps=true) (h:oV P tt fn H.length c R {env:=hA args en,H:=c8 0 H,a8:=H.length}):pP P f args en H R:=by
 refine⟨⟨fn,a',by rw [hb];rfl,by simpa using jl⟩,?_⟩
 intro cF w vs M β hlen J1 J2
 suffices key:∀K:Ctx,K.ds=[]→bN P K M β {env:=hA args en,H:=c8 0 H,a8:=H.length} ⟨vs⟩ w→(∀r b,β r=some b→K.jg r=some b)→
  Calls P f ⟨vs⟩ w λe w'=>∃o H' v M' β',R o H'∧e=pO o v∧bN P K M' β' {env:=hF o,H:=c8 0 H',a8:=H.length} #[v] w' from
  (key {cF with ds:=[]} rfl (J1.tN []) J2).mono λe w' ⟨o,H',v,M',β',Z,af,au⟩=>⟨o,H',v,M',β',Z,af,au.tN cF.ds⟩
 intro K hG cW gQ;have ek:∀r b,K.jg r=some b→r<H.length:=λr b hb=>cW.lt r b (cW.h2 r b hb)
 simp only [Nat.ble_eq]at eZ;exact calls_of_wp_defers a' hb (h K hG ek {tmps:=(⟨vs⟩:Array Value)++Array.replicate (fn.ntmps-(⟨vs⟩:Array Value).size) undef,defers:=[]} w ⟨rfl,hG.symm,by simp;omega,M,β,J0 hlen cW⟩)
def r7.Ua{fd:FuncId}{fn:Func}{i0:Nat}{opsA:Array Oper}{c6 hT:Oper}{rest:Code}{r t2:Nat}{c:Call}(cj:e7 P tt=true)(a':P.funcs[fd]? = some fn)(hb:fn.body=some (.seq (.region i0 opsA false) rest))(mA:opsA = #[c6,hT])
 (Z:c6.op = .call c) (af:c6.dst=some r) (au:c6.guard=none) (aQ:c.callee = .builtin .recover) (bj:c.args = #[]) (cb:hT.op = .assign (.tmp r)) (de:hT.dst=some t2) (dR:hT.guard=none)
 {args:List D} {H:List (List aZ)} {x:Option V} {R:List (List aZ)→Prop} (ak:Nat.blt r fn.ntmps=true) (zi:Nat.blt t2 fn.ntmps=true) (eZ:Nat.ble args.length fn.ntmps=true)
 (h:bf P fn.ntmps H.length rest (qW tt H.length fn.results.toList λo H'=>o = .ret (.cp []) none∧R H') {env:=(t2,{d:=.v (x.getD .h1)})::del (hA args []) r,H:=c8 0 H,a8:=H.length}):r7 P fd args H x R:=by
 intro K w vs M β mode hlen cW gQ hm;have ek:∀r b,K.jg r=some b→r<H.length:=λr b hb=>cW.lt r b (cW.h2 r b hb)
 simp only [Nat.ble_eq]at eZ;simp only [Nat.blt_eq]at ak zi;refine callsD_of_wpS a' hb λr8 cs hu=>?_
 apply wpS_seq;apply wpS_region;subst mA;have wn:∀jY,Region.wanted c6 (yielded #[c6,hT] jY)=true:=λjY=>by simp [Region.wanted,au]
 have zv:∀jY,Region.wanted hT (yielded #[c6,hT] jY)=true:=λjY=>by simp [Region.wanted,dR]
 have e1:∀a:Act,(execOp a.eval c6).run P w = .ok .recover w:=λa=>by
  simp [execOp,Z,resolve,aQ,bj,invoke,builtin]
 have dS:=J0 (n:=fn.ntmps-(⟨vs⟩:Array Value).size) hlen cW
 -- C2 'recover' ad5
 have key:∃(v:Value) (mD:FrameMode),dl M v (x.getD .h1)∧settle mD = .returning∧(recoverD (r8::cs)=some (v,{r8 with mode:=mD}::cs)∨(recoverD (r8::cs)=none∧v = .nilIface∧({r8 with mode:=mD}:Frame)=r8)):=by
  cases x with
  |none=>
   have jD:mode = .returning:=hm;subst jD;exact⟨.nilIface,.returning,.h1,rfl,.inr ⟨by simp [recoverD,hu],rfl,by rw [←hu]⟩⟩
  |some y=>
   obtain⟨v,jD,ay⟩:=hm;subst jD;exact⟨v,.panicking [{v,recovered:=true}],ay,by simp [settle],.inl (by simp [recoverD,hu])⟩
 obtain⟨v,mD,ay,kS,zw⟩:=key;show wpOpsS P #[c6,hT] _ (List.range 2) _ (r8::cs) w
 simp only [List.range,List.range.loop,wpOpsS,show(#[c6,hT]:Array Oper)[0]? = some c6 from rfl,show(#[c6,hT]:Array Oper)[1]? = some hT from rfl,wn,zv,if_true,e1]
 have e2:∀jY:Array Value,r<jY.size→(execOp (Act.eval ⟨jY.setIfInBounds r v,[]⟩) hT).run P w = .ok (.value v) w:=λjY bU=>by
  simp [execOp,cb,Act.eval,bU]
 have el:((⟨vs⟩:Array Value)++Array.replicate (fn.ntmps-(⟨vs⟩:Array Value).size) undef).size=fn.ntmps:=by simp;omega
 generalize aoL:(⟨vs⟩:Array Value)++Array.replicate (fn.ntmps-(⟨vs⟩:Array Value).size) undef=jY at dS el
 have ky:∀cs',cs'={r8 with mode:=mD}::cs→rest.wpS P (bodyPostS P fn r8 cs λe mD w'=>∃v H' M' β',e = .returned v∧settle mD = .returning∧R H'∧bN P K M' β' {env:=hF (.ret (.cp []) none),H:=c8 0 H',a8:=H.length} #[v] w')
  ⟨(jY.setIfInBounds r v).setIfInBounds t2 v,[]⟩ cs' w:=by
  intro cs' ee
  have zx:bN P {K with ds:=[]} M β {env:=(t2,{d:=.v (x.getD .h1)})::del (hA args []) r,H:=c8 0 H,a8:=H.length} ((jY.setIfInBounds r v).setIfInBounds t2 v) w:=
   ((dS.drop (t:=r) (v:=v)).put (t:=t2) (v:=v) (e:={d:=.v (x.getD .h1)}) (by rw [Array.size_setIfInBounds,el];exact zi) (.v _ _ ay) (λT aS=>by cases aS)).tN []
  refine wpS_of_wp (wp_mono (h {K with ds:=[]} ek _ w ⟨rfl,rfl,by simpa using el,M,β,zx⟩) ?_)
  rintro e dU w' ⟨fg,bZ,g1,g2⟩
  cases fg with
  |normal=>
   obtain⟨rfl,hd,_,M',β',hs⟩:=g1;obtain⟨o,H',g3,rfl,g4⟩:=g2;obtain⟨v2,g5,jk,M2,q0,g6,g7⟩:=TH cj (K:={K with ds:=[]}) ek hs g3;cases g6;exact⟨hd,mD,ee,v2,g5,v2,H',M2,q0,rfl,kS,g4,g7.tN K.ds⟩
  |ret=>
   obtain⟨rfl,hd,_,M',β',hs⟩:=g1;obtain⟨o,H',g3,rfl,g4⟩:=g2;obtain⟨v2,g5,jk,M2,q0,g6,g7⟩:=TH cj (K:={K with ds:=[]}) ek hs g3;cases g6;exact⟨hd,mD,ee,v2,g5,v2,H',M2,q0,rfl,kS,g4,g7.tN K.ds⟩
  |exit i=>exact g2.elim
  |bl y=>
   obtain⟨H',_,g4,_⟩:=g2;cases g4
 have e3:(execOp ((({tmps:=jY,defers:=[]}:Act).put c6.dst v).eval) hT).run P w = .ok (.value v) w:=by
  rw [af];exact e2 jY (by omega)
 rcases zw with zw|⟨zw,rfl,hc0⟩
 ·simp only [zw,e3];rw [Oper.upon_value,af,de];exact ky _ rfl
 ·simp only [zw,e3];rw [Oper.upon_value,af,de];exact ky _ (by rw [hc0])
end
def oX(H:List (Nat×List aZ)):Nat→List (Nat×List aZ)
 | 0=>[]
 |n+1=>match look H n with
  |some cs=>(n,cs)::oX H n
  |none=>oX H n
def Kq{H:List (Nat×List aZ)}:∀{n q:Nat} {cs:List aZ},look (oX H n) q=some cs→q<n∧look H q=some cs
 | 0,q,cs,h=>by simp [oX,look]at h
 |n+1,q,cs,h=>by
  unfold oX at h;split at h
  ·rename_i c hc;rw [dv]at h;split at h
   ·rename_i aE;subst aE;cases h;exact⟨by omega,hc⟩
   ·obtain⟨Z,af⟩:=Kq h;exact⟨by omega,af⟩
  ·obtain⟨Z,af⟩:=Kq h;exact⟨by omega,af⟩
def Ub(mk:Nat)(ops:List Oper)(o:Oper)(x:V)(hs:List (Nat×List aZ))(bb:List Prop)(jE:List Nat)(rs:List fo)(r2:List (Nat×List aZ)):eu:=
 {dst:=o.dst,p:=[],f:={e:=none,rs:=[],hs:=[(mk,[])],bb},jE,mB:=oR ops o,oP:=pW o,rs,gD:=1,tO:=x,oQ:=hs,r2}
def Uc(ops:List Oper)(o:Oper):eu:=
 {dst:=o.dst,p:=[],f:={e:=none,rs:=[]},jE:=[],mB:=oR ops o,oP:=pW o,rs:=[],gD:=2}
def q1(cn:gg)(tt:dx)(ops:List Oper)(f_ mk:Nat):Nat→List Oper→List (List fo)→di→Option (List eu×di×List Prop×List (V×List (Nat×List aZ)))
 |_,[],[],g=>some ([],g,[],[])
 |i,o::l,rs::jn,g=>bif Nat.beq i f_ then match oE ops g o with
  |some []=>match step1 cn tt ops {g with rs:=rs} [] o with
   |some (.bl x hs bb)=>match q1 cn tt ops f_ mk (i+1) l jn (ez (Ub mk ops o x hs bb (iv tt g [] o++List.range mk) rs g.H) g) with
    |some (cO,fe,rZ,xs)=>some (Ub mk ops o x hs bb (iv tt g [] o++List.range mk) rs g.H::cO,fe,rZ++bb,(x,hs++oX g.H mk)::xs)
    |none=>none
   |_=>none
  |_=>none
  else bif waits ops f_ 3 i then match q1 cn tt ops f_ mk (i+1) l jn (ez (Uc ops o) g) with
   |some (cO,fe,rZ,xs)=>some (Uc ops o::cO,fe,rZ,xs)
   |none=>none
  else match findD cn tt ops g o rs with
   |some E=>bif E.f.hs.all (λy=>!Nat.beq y.1 mk)then match q1 cn tt ops f_ mk (i+1) l jn (ez E g) with
    |some (cO,fe,rZ,xs)=>some (E::cO,fe,rZ++E.f.bb.map (under g E.p),xs)
    |none=>none
    else none
   |none=>none
 |_,_,_,_=>none
def zy(cn:gg)(tt:dx)(N:Nat)(ops:List Oper)(f_ mk:Nat)(jn:List (List fo))(st:aJ):Option (V×List (Nat×List aZ)×List Prop):=
 match q1 cn tt ops f_ mk 0 ops jn (DP ops st) with
 |some (cO,g,bb,[(x,hs)])=>bif DL N ops cO&&(look g.H mk).isSome&&(look st.H mk).isNone then some (x,hs,bb)else none
 |_=>none
def Kr:Option (V×List (Nat×List aZ)×List Prop)→Option (V×List Prop)
 |some (x,_,cJ)=>some (x,cJ)
 |none=>none
def Ks:Option (V×List (Nat×List aZ)×List Prop)→List (Nat×List aZ)
 |some (_,H,_)=>H
 |none=>[]
section
variable {P:Program} {K:Ctx} {N E:Nat} {st:aJ} {tt:dx} {opsA:Array Oper} {cn:gg}
structure Ud(opsA:Array Oper)(cO:List eu)(f_ mk:Nat)(x:V)(hs:List (Nat×List aZ)):Prop where
 dead:∀(i:Nat) E,cO[i]? = some E→E.gD=2→waits opsA.toList f_ 3 i=true
 bl:∀(i:Nat) E,cO[i]? = some E→E.gD=1→E.p=[]∧E.tO=x∧E.oQ++oX E.r2 mk=hs∧∀q,q<mk→q∈E.jE
 go:∀(i:Nat) E,cO[i]? = some E→E.gD=0→i≠f_∧(E.f.hs.all (λy=>!Nat.beq y.1 mk))=true
 gD:∀(i:Nat) E,cO[i]? = some E→E.gD=0∨E.gD=1∨E.gD=2
def ae6{listed:Array Bool}(hJ:nj opsA listed){i f_:Nat}(hi:i∈Region.ready .any opsA listed){n:Nat}(hw:waits opsA.toList f_ n i=true):listed.getD f_ false=true:=by
 cases n with
 |zero=>simp [waits]at hw
 |succ n=>
  obtain⟨_,o,aA,nS⟩:=mem_ready.1 hi;rw [waits]at hw;have ag:opsA.toList[i]? = some o:=by simpa using aA
  simp only [ag]at hw;obtain⟨e,he,hb⟩:=List.any_eq_true.1 hw;simp only [Bool.and_eq_true,Bool.or_eq_true,Nat.beq_eq]at hb;have Z:=nS e (by simpa using he) hb.1
  rcases hb.2 with rfl|af
  ·exact Z
  ·exact DC hJ af Z
def Kt{mk:Nat}:∀{l H:List (Nat×List aZ)},(l.all λy=>!Nat.beq y.1 mk)=true→look H mk=none→look (l++H) mk=none
 |[],_,_,h=>h
 |(a,b)::l,H,ag,h=>by
  simp only [List.all_cons,Bool.and_eq_true,Bool.not_eq_true']at ag;rw [List.cons_append,dv];have:a≠mk:=by intro e;subst e;simp at ag
  rw [if_neg this];exact Kt ag.2 h
def ae7{E:eu}{g:di}{mk:Nat}(h:(E.f.hs.all λy=>!Nat.beq y.1 mk)=true)(hg:look g.H mk=none):look (ez E g).H mk=none:=by
 unfold ez;cases E.dst with
 |none=>exact Kt h hg
 |some t=>
  cases E.p with
  |nil=>exact Kt h hg
  |cons x p=>dsimp only;cases E.f.e<;>exact hg
def iU.Ue(cj:e7 P tt=true){cO:List eu}{f_ mk:Nat}{x:V}{hs:List (Nat×List aZ)}(kx:Ud opsA cO f_ mk x hs)(e0:∀(i:Nat) o E,opsA[i]? = some o→cO[i]? = some E→h4 opsA.toList o E=true)(bB:∀(i:Nat) E,cO[i]? = some E→pY N E=true)(jT:zq opsA.toList cO=true){Q:Exit→Act→World→Prop}
 (ea:∀n e dU w',pV P K N (.bl x) {env:=[],H:=hs,a8:=n} e dU w'→Q e dU w'):
 ∀(n:Nat) (listed:Array Bool) (g:di) (tmps:Array Value) (w:World) (M:Mem) (β:Nat→Option Nat),iU (gW P) tt opsA cO (λg=>(look g.H mk).isSome=true) n listed g→listed.size=opsA.size→nj opsA listed→r6 cO listed g→listed.getD f_ false=false→look g.H mk=none→fx P K N M β g tmps w→wpAny P .any opsA Q n listed ⟨tmps,K.ds⟩ w
 | 0,_,g,tmps,w,M,β,h,_,_,_,_,eL,_=>by have:(look g.H mk).isSome=true:=h.2;rw [eL]at this;cases this
 |n+1,listed,g,tmps,w,M,β,h,el,hJ,iE,Uf,eL,fY=>by
  refine⟨(λak=>by have:(look g.H mk).isSome=true:=h.1 ak;rw [eL]at this;cases this),λi hi=>?_⟩
  obtain⟨o,E,aA,cI,DK,hn⟩:=h.2 i hi;have c':i<listed.size:=by rw [el];exact(Array.getElem?_eq_some_iff.1 aA).1
  have nk:listed.getD i false=false:=by have:=(mem_ready.1 hi).1;simpa [Array.getD_eq_getD_getElem?,c']using this
  have oN:fx P K N M β {g with rs:=E.rs,bb:=[]} tmps w:=⟨fY.bu,fY.size,fY.fresh,fY.cond⟩;unfold wpOp;simp only [aA];rcases kx.gD i E cI with hk|hk|hk
  ·have jm:=DK.resolve_left (by rw [hk];simp)
   obtain⟨DU,tK⟩:=kx.go i E cI hk;have Kc:=T4 (N:=N) hk jm cI (e0 i o E aA cI) (bB i E cI) jT hJ nk iE;refine zj oN cj (opsA:=opsA) rfl Kc (λq aE=>?_) (λej w' M' β' dp=>?_)
   ·obtain⟨q',oK,rfl⟩:=List.mem_map.1 aE;exact jm.bb q' oK
   ·exact iU.Ue cj kx e0 bB jT ea n _ (ez E g) ej w' M' β' hn (by simpa using el) (hJ.set hi) (iE.ap cI c') (by rw [getD_set_ne false DU];exact Uf) (ae7 tK eL) ⟨dp.bu,dp.size,dp.fresh,dp.cond⟩
  ·have jm:=DK.resolve_left (by rw [hk];simp)
   obtain⟨hp,hx,ae8,nZ⟩:=kx.bl i E cI hk
   have dS:step1 (gW P) tt opsA.toList {g with rs:=E.rs,bb:=[]} [] o=some (.bl x E.oQ E.f.bb):=by
    have Z:=jm.st;rw [hk,hp,hx]at Z;refine Eq.trans ?_ Z;exact J8 (g1:={g with rs:=E.rs,bb:=[]}) (g2:={g with rs:=E.rs}) (λ_ _ _ _=>⟨rfl,rfl⟩) rfl rfl (λ_=>rfl) (λ_ _=>rfl)
   have Ku:oE opsA.toList {g with rs:=E.rs,bb:=[]} o=some []:=by rw [←hp];exact jm.Dy
   have ae9:jx (gW P) tt N opsA.toList {g with rs:=E.rs,bb:=[]} o=some (.bl x {env:=oD g.env,H:=E.oQ++g.H,a8:=g.a8} (E.f.bb++[])):=by
    unfold jx;rw [Ku]
    dsimp only
    rw [dS];rfl
   refine Tv oN cj (opsA:=opsA) rfl ae9 (λq aE=>?_) (λe dU w' qZ=>?_)
   ·rw [List.append_nil]at aE;have:=jm.bb q aE
    rw [hp]at this;exact this
   ·obtain⟨v,Z,af,th,qP,au,aQ⟩:=qZ;have ky:=jm.fin hk
    have lj:∀q cs,look hs q=some cs→look (E.oQ++g.H) q=some cs:=by
     intro q cs aE;rw [←ae8,wi]at aE;rw [wi];cases ag:look E.oQ q with
     |some c=>rw [ag]at aE;exact aE
     |none=>
      rw [ag]at aE;obtain⟨bj,cb⟩:=Kq aE;rw [←cb];exact ky q (nZ q bj)
    refine ea g.a8 e dU w' ⟨v,Z,af,th,qP,au,(aQ.zg _).sub rfl (λl a_ ag=>?_) (λq cs aE=>⟨cs,lj q cs aE,rfl⟩)⟩
    cases l with
    |slot s=>simp [aJ.at,look]at ag
    |cell q i=>
     simp only [aJ.at]at ag ⊢;cases aE:look hs q with
     |none=>rw [aE]at ag;simp at ag
     |some cs=>
      rw [aE]at ag;rw [lj q cs aE];exact⟨a_,ag,rfl,λ_ h=>h⟩
  ·have:=ae6 hJ hi (kx.dead i E cI hk)
   rw [Uf]at this;cases this
def DV{ops:List Oper}{f_ mk:Nat}{Fi:di→Prop}:∀{l:List Oper} {i:Nat} {jn:List (List fo)} {g:di} {cO:List eu} {fe:di} {bb:List Prop} {xs:List (V×List (Nat×List aZ))},q1 cn tt ops f_ mk i l jn g=some (cO,fe,bb,xs)→(∀q,q∈bb→q)→Fi fe→
 cO.length=l.length∧DH cn tt ops Fi (kZ l cO) g∧
 (∀(j:Nat) E,cO[j]? = some E→(E.gD=0∧i+j≠f_∧(E.f.hs.all (λy=>!Nat.beq y.1 mk))=true)∨(E.gD=1∧E.p=[]∧(E.tO,E.oQ++oX E.r2 mk)∈xs∧∀q,q<mk→q∈E.jE)∨(E.gD=2∧waits ops f_ 3 (i+j)=true))
 |[],i,[],g,cO,fe,bb,xs,h,_,dC=>by
  simp only [q1,Option.some.injEq,Prod.mk.injEq]at h;obtain⟨rfl,rfl,rfl,rfl⟩:=h;exact⟨rfl,dC,by simp⟩
 |[],_,_::_,_,_,_,_,_,h,_,_=>by simp [q1]at h
 |_::_,_,[],_,_,_,_,_,h,_,_=>by simp [q1]at h
 |o::l,i,rs::jn,g,cO,fe,bb,xs,h,cC,dC=>by
  have next:∀{E:eu} {tV:List eu} {wo:List (V×List (Nat×List aZ))},(∀(j:Nat) E,tV[j]? = some E→(E.gD=0∧i+1+j≠f_∧(E.f.hs.all (λy=>!Nat.beq y.1 mk))=true)∨(E.gD=1∧E.p=[]∧(E.tO,E.oQ++oX E.r2 mk)∈wo∧∀q,q<mk→q∈E.jE)∨(E.gD=2∧waits ops f_ 3 (i+1+j)=true))→(∀z,z∈wo→z∈xs)→
   ((E.gD=0∧i≠f_∧(E.f.hs.all (λy=>!Nat.beq y.1 mk))=true)∨(E.gD=1∧E.p=[]∧(E.tO,E.oQ++oX E.r2 mk)∈xs∧∀q,q<mk→q∈E.jE)∨(E.gD=2∧waits ops f_ 3 i=true))→
   ∀(j:Nat) dm,(E::tV)[j]? = some dm→(dm.gD=0∧i+j≠f_∧(dm.f.hs.all (λy=>!Nat.beq y.1 mk))=true)∨(dm.gD=1∧dm.p=[]∧(dm.tO,dm.oQ++oX dm.r2 mk)∈xs∧∀q,q<mk→q∈dm.jE)∨(dm.gD=2∧waits ops f_ 3 (i+j)=true):=by
   intro E tV wo Z hx af j dm hj;cases j with
   |zero=>simp at hj;subst hj;exact af
   |succ j=>
    have:=Z j dm (by simpa using hj)
    rw [show i+1+j=i+(j+1)by omega]at this
    rcases this with au|⟨au,aQ,bj,cb⟩|au
    ·exact .inl au
    ·exact .inr (.inl ⟨au,aQ,hx _ bj,cb⟩)
    ·exact .inr (.inr au)
  simp only [q1]at h;rw [Bool.cond_eq_ite]at h;split at h
  ·rename_i DU;split at h
   case h_2=>cases h
   rename_i Ku;split at h
   case h_2=>cases h
   rename_i x hs DM dS;split at h
   case h_2=>cases h
   rename_i tV g1 Ug wo Z;simp only [Option.some.injEq,Prod.mk.injEq]at h;obtain⟨rfl,rfl,rfl,rfl⟩:=h;obtain⟨af,au,aQ⟩:=DV Z (λq aE=>cC q (List.mem_append_left _ aE)) dC
   refine⟨by simp [af],⟨.inr ⟨Ku,dS,(λq aE=>cC q (List.mem_append_right _ aE)),(λq aE=>List.mem_append_left _ aE),λ_ q _=>rfl⟩,au⟩,next aQ (λz dQ=>List.mem_cons_of_mem _ dQ) (.inr (.inl ⟨rfl,rfl,List.mem_cons_self ..,λq aE=>List.mem_append_right _ (List.mem_range.2 aE)⟩))⟩
  ·rename_i DU;rw [Bool.cond_eq_ite]at h;split at h
   ·rename_i hw;split at h
    case h_2=>cases h
    rename_i tV g1 Ug wo Z;simp only [Option.some.injEq,Prod.mk.injEq]at h;obtain⟨rfl,rfl,rfl,rfl⟩:=h;obtain⟨af,au,aQ⟩:=DV Z cC dC;exact⟨by simp [af],⟨.inl rfl,au⟩,next aQ (λz dQ=>dQ) (.inr (.inr ⟨rfl,hw⟩))⟩
   ·split at h
    case h_2=>cases h
    rename_i E cI;rw [Bool.cond_eq_ite]at h;split at h
    case isFalse=>cases h
    rename_i oF;split at h
    case h_2=>cases h
    rename_i tV g1 Ug wo Z;simp only [Option.some.injEq,Prod.mk.injEq]at h;obtain⟨rfl,rfl,rfl,rfl⟩:=h;obtain⟨af,au,aQ⟩:=DV Z (λq aE=>cC q (List.mem_append_left _ aE)) dC
    have Kd:∀q,q∈E.f.bb→under g E.p q:=λq aE=>cC _ (List.mem_append_right _ (List.mem_map.2 ⟨q,aE,rfl⟩))
    have tK:=oF;unfold findD at cI;split at cI
    ·cases cI
    rename_i p hp;split at cI
    ·rename_i f a';cases cI;exact⟨by simp [af],⟨.inr ⟨hp,a',Kd,λ_ h=>h,λh=>by cases h⟩,au⟩,next aQ (λz dQ=>dQ) (.inl ⟨rfl,(by simpa using DU),tK⟩)⟩
    ·cases cI
def bf.ae'{id:Nat}{Q:cv→aJ→Prop}(cj:e7 P tt=true)(hm:P.follows .mixedOrders=true)(f_:Nat)(jn:List (Nat×List fo)){x:V}{cJ:List Prop}(ak:Kr (zy (gW P) tt N opsA.toList f_ (st.a8+opsA.toList.length) (spread opsA.toList.length 0 jn) st)=some (x,cJ))(cC:kz cJ)
 (ea:∀n,Q (.bl x) {env:=[],H:=Ks (zy (gW P) tt N opsA.toList f_ (st.a8+opsA.toList.length) (spread opsA.toList.length 0 jn) st),a8:=n}):bf P N E (.region id opsA true) Q st:=by
 rintro K ek a w ⟨_,hd,el,M,β,cW⟩
 obtain⟨tmps,ds⟩:=a;simp only at hd el
 subst hd;refine wp_region_any hm ?_;cases lk:zy (gW P) tt N opsA.toList f_ (st.a8+opsA.toList.length) (spread opsA.toList.length 0 jn) st with
 |none=>rw [lk]at ak;cases ak
 |some res=>
 obtain⟨fq,p1,Kv⟩:=res;rw [lk]at ak ea;simp only [Kr,Option.some.injEq,Prod.mk.injEq]at ak;obtain⟨rfl,rfl⟩:=ak;simp only [Ks]at ea;unfold zy at lk;split at lk
 case h_2=>cases lk
 rename_i cO g rZ fH fY eM;rw [Bool.cond_eq_ite]at lk;split at lk
 case isFalse=>cases lk
 rename_i hc;simp only [Option.some.injEq,Prod.mk.injEq]at lk;obtain⟨rfl,rfl,rfl⟩:=lk;simp only [Bool.and_eq_true,Option.isNone_iff_eq_none]at hc;obtain⟨⟨hc,pL⟩,Uh⟩:=hc;generalize aoM:st.a8+opsA.toList.length=mk at eM pL Uh
 obtain⟨hlen,Kh,DW⟩:=DV (Fi:=λg=>(look g.H mk).isSome=true) eM cC.mem pL
 simp only [DL,Bool.and_eq_true]at hc;obtain⟨⟨⟨c1,c2⟩,c3⟩,c4⟩:=hc
 have e0:∀(i:Nat) o E,opsA[i]? = some o→cO[i]? = some E→h4 opsA.toList o E=true:=by
  intro i o E aA cI;obtain⟨kw,z2⟩:=tW hlen i;have kt:opsA.toList[i]? = some o:=by simpa using aA
  rw [kt]at kw;rw [cI]at z2;cases dQ:(kZ opsA.toList cO)[i]? with
  |none=>rw [dQ]at kw;simp at kw
  |some x=>
   rw [dQ]at kw z2;simp at kw z2
   subst kw;subst z2;exact List.all_eq_true.1 c1 x (List.mem_of_getElem? dQ)
 have bB:∀(i:Nat) E,cO[i]? = some E→pY N E=true:=λi E cI=>List.all_eq_true.1 c2 E (List.mem_of_getElem? cI)
 have zr:nj opsA (Array.replicate opsA.size false):=λj o aA hj=>by have c':j<opsA.size:=(Array.getElem?_eq_some_iff.1 aA).1;simp [Array.getD_eq_getD_getElem?,c']at hj
 have zt:=iU.text e0 (λg1 g2 gn Z=>by rw [←gn.box mk];exact Z) (kZ opsA.toList cO) 0 (Array.replicate opsA.size false) _ (λj=>by have:=(tW hlen j).1;simpa using this) (λj=>by have:=(tW hlen j).2;simpa using this)
  ⟨by simp,λj hj=>by simp [hj]⟩ zr c4 Kh
 have tp:(kZ opsA.toList cO).length=opsA.size:=by rw [Ke hlen];simp
 rw [tp]at zt
 have kx:Ud opsA cO f_ mk fH fY:=by
  constructor
  ·intro i E cI hk;rcases DW i E cI with⟨Z,_⟩|⟨Z,_⟩|⟨_,Z⟩
   ·omega
   ·omega
   ·simpa using Z
  ·intro i E cI hk;rcases DW i E cI with⟨Z,_⟩|⟨_,Z,af,au⟩|⟨Z,_⟩
   ·omega
   ·simp only [List.mem_singleton,Prod.mk.injEq]at af;exact⟨Z,af.1,af.2,au⟩
   ·omega
  ·intro i E cI hk;rcases DW i E cI with⟨_,Z,af⟩|⟨Z,_⟩|⟨Z,_⟩
   ·exact⟨by simpa using Z,af⟩
   ·omega
   ·omega
  ·intro i E cI;rcases DW i E cI with⟨Z,_⟩|⟨Z,_⟩|⟨Z,_⟩
   ·exact .inl Z
   ·exact .inr (.inl Z)
   ·exact .inr (.inr Z)
 refine iU.Ue (K:=K) (mk:=mk) cj kx e0 bB c3 (λn e dU w' dp=>⟨_,_,dp,ea n⟩) _ _ _ tmps _ M β zt (by simp) zr (λx hx=>by cases hx) ?_ Uh ⟨(cW.drew _).up _,el,(λs id h _ b hb=>by have Z:=cW.lt _ _ hb;have af:=(DR _ _ _ (qM h)).1;simp only at af;omega),λ_ _ _ h=>by simp [DP,look]at h⟩
 rw [Array.getD_eq_getD_getElem?];by_cases Ui:f_<opsA.size
 ·simp [Ui]
 ·simp [Ui]
end
section
variable {P:Program} {tt:dx} {fn:Func} {E:Nat} {st:aJ}
def Kw{y:Code}{R:Out→List (List aZ)→Prop}(h:oV P tt fn E y R st):Kn P tt fn E y R .normal st:=h
def ae_{y:Code}{out:Out}{zz:List (List aZ)}(h:(Ab.leave tt E fn.results.toList st).map (λx=>(x.1,ng x.2))=some (out,zz)):Kn P tt fn E y (λo H'=>o=out∧H'=zz) .ret st:=by
 rw [Option.map_eq_some_iff]at h;obtain⟨⟨o,H'⟩,Z,af⟩:=h;cases af;exact⟨o,H',Z,rfl,rfl⟩
def Uj(tt:dx)(E:Nat)(rs:List ResultVar)(ds:List D)(ρ:List Nat)(cH:List (List aZ))(st:aJ):Option (List (List aZ)×List D×Out×List (List aZ)):=
 bif !mu ρ then none else match boxes st.H ρ,kO (idx ρ) ds,jv (λj=>ρ[j]?) cH with
  |some bs,some je,some ik=>bif Nat.beq cH.length ρ.length then match jv (idx ρ) bs,Ab.leave tt E rs {env:=st.env,H:=kP ρ ik++st.H,a8:=st.a8} with
   |some H1,some (o,H')=>some (H1,je,o,ng H')
   |_,_=>none
   else none
  |_,_,_=>none
def pZ.of{rs:List ResultVar}{fd:FuncId}{ds je:List D}{x:Option V}(ρ:List Nat){H1 cH zz:List (List aZ)}{o:Out}(d:r7 P fd je H1 x λH'=>H'=cH)(hc:Uj tt E rs ds ρ cH st=some (H1,je,o,zz)):
 pZ P tt E rs fd ds (λo' H'=>o'=o∧H'=zz) x st:=by
 unfold Uj at hc;rw [Bool.cond_eq_ite]at hc;split at hc
 ·cases hc
 rename_i hn;split at hc
 case h_2=>cases hc
 rename_i bs a ik kv ha tz;rw [Bool.cond_eq_ite]at hc;split at hc
 case isFalse=>cases hc
 rename_i ag;split at hc
 case h_2=>cases hc
 rename_i afa o' H' lC jW;simp only [Option.some.injEq,Prod.mk.injEq]at hc;obtain⟨rfl,rfl,rfl,rfl⟩:=hc;refine⟨ρ,bs,afa,a,_,(by simpa using hn),kv,lC,ha,d,λT_ au=>?_⟩
 subst au;exact⟨ik,o',H',(by simpa using ag),tz,jW,rfl,rfl⟩
def afb{rs:List ResultVar}{fd:FuncId}{ds:List D}{R:Out→List (List aZ)→Prop}(h:pZ P tt E rs fd ds R none st):Ko P tt E rs fd ds R .ret st:=h
def Uk{rs:List ResultVar}{fd:FuncId}{ds:List D}{R:Out→List (List aZ)→Prop}{x:V}(h:pZ P tt E rs fd ds R (some x) st):Ko P tt E rs fd ds R (.bl x) st:=h
end
section
variable {P:Program}
def afc{w:World}{b off:Nat}{vs:List Value}{T:TypeId}{nO:Nat×Nat}(h:w.heap[b]? = some (.cells ⟨vs⟩ T nO))(u:Value):
 (w.setCell ⟨b,off,none⟩ u).heap[b]? = some (.cells ⟨vs.set off u⟩ T nO):=by
 have c':=lt_of_heap h;have dp:w.heap[b] = .cells ⟨vs⟩ T nO:=by simpa [Array.getElem?_eq_getElem c']using h
 show(w.heap.modify b _)[b]? = _
 rw [Array.getElem?_eq_getElem (by simpa using c'),Array.getElem_modify_self,dp]
 simp
def afd{w:World}{b off:Nat}{u:Value}(k:Nat)(h:k≠b):(w.setCell ⟨b,off,none⟩ u).heap[k]? = w.heap[k]? := Go.RowKit.Below.heap_setCell w ⟨b,off,none⟩ u k h
def Ul {f : FuncId} {fd : Func} {off : Nat} {u : TypeId} (l4 : P.funcs[f]? = some fd) (Kx : fd.body.isSome = true) (hn : decide (fd.name = "runtime.NumGoroutine") = false)
 (afe:∀(b:Nat) (w:World),w.cell? ⟨b,off,none⟩=some (.pointer (some ⟨b,off,none⟩))→Calls P f #[.pointer (some ⟨b,off,none⟩)] w λe w'=>e = .returned (.tuple #[])∧w'=w)
 (aff:∀(b:Nat) (w:World) (T:TypeId) (k:Nat),w.cell? ⟨b,off,none⟩=some (.pointer none)→w.shape? b=some (T,k)→off<k→liesAt P P.depth T (k / P.cellsOf T) off u 1=true→w.frozen? ⟨b,off,none⟩=false→
  Calls P f #[.pointer (some ⟨b,off,none⟩)] w λe w'=>e = .returned (.tuple #[])∧w'=w.setCell ⟨b,off,none⟩ (.pointer (some ⟨b,off,none⟩)))
 {cs:List aZ} (ee:cs[off]? = some ⟨.cx 0 off u,none⟩):gl P f [.ptr 0 off] [] [cs] (.ret (.cp []) none) [cs]:=by
 refine⟨⟨fd,l4,Kx,by simpa using hn⟩,λK w vs M β hlen hs gQ=>?_⟩
 obtain⟨v,rfl⟩:∃v,vs=[v]:=by
  match vs,hlen with
  |[v],_=>exact⟨v,rfl⟩
 have qQ:=hs.eW (.slot 0) ⟨.ptr 0 off,none⟩ (by simp [aJ.at,hA,qS,c8,look])
 have tE:ci (⟨[v]⟩:Array Value) w β (.slot 0)=v:=by simp [ci]
 rw [tE]at qQ;obtain⟨b,hb,rfl⟩:∃b,β 0=some b∧v = .pointer (some ⟨b,off,none⟩):=by cases qQ with|ptr r o b h=>exact⟨b,h,rfl⟩
 have hl0:look (c8 0 [cs]) 0=some cs:=by simp [c8,look]
 obtain⟨bK,ws,T,bT,bz,Um,afg,afh,gi,hlies⟩:=hs.box 0 cs hl0;rw [hb]at bT;cases bT;have rX:off<cs.length:=(List.getElem?_eq_some_iff.1 ee).1;have zA:ws[off]? = some ws[off]:=List.getElem?_eq_getElem (by omega)
 have hQ:w.cell? ⟨b,off,none⟩=some ws[off]:=by rw [cell_of_heap bz,zA]
 have fM:=hs.eW (.cell 0 off) ⟨.cx 0 off u,none⟩ (by simp [aJ.at,hl0,ee])
 have ck:ci (⟨[.pointer (some ⟨b,off,none⟩)]⟩:Array Value) w β (.cell 0 off)=ws[off]:=by simp [ci,hb,hQ]
 rw [ck]at fM
 have fin:∀w',bN P K M β {env:=[],H:=c8 0 [cs],a8:=[cs].length} #[.tuple #[]] w'→bN P K M β {env:=hF (.ret (.cp []) none),H:=c8 0 [cs],a8:=[cs].length} #[.tuple #[]] w':=λw' h=>by
  have:=h.put (t:=0) (v:=.tuple #[]) (e:=⟨.cp [],none⟩) (by simp) (.cp [] [] rfl λi v c ay=>by simp at ay) (λT aS=>by cases aS)
  exact this
 generalize hx:ws[off]=x at hQ fM zA
 cases fM with
 |ld r o mD=>
  have hsh:w.shape? b=some (T,ws.length):=by simp [World.shape?,bz]
  have hfz:w.frozen? ⟨b,off,none⟩=false:=by simp [World.frozen?,bz]
  have kr:=hlies _ (List.mem_of_getElem? ee) 0 off u rfl;refine(aff b w T ws.length hQ hsh (by omega) kr hfz).mono ?_
  rintro e w' ⟨rfl,rfl⟩
  refine⟨_,_,.tuple #[],M,β,⟨rfl,rfl⟩,rfl,fin _ ?_⟩
  have Z:=(hs.zg #[.tuple #[]]).CQ (r:=0) (b:=b) (cs:=cs) (w':=w.setCell ⟨b,off,none⟩ (.pointer (some ⟨b,off,none⟩))) hl0 hb bz (vs':=ws.set off (.pointer (some ⟨b,off,none⟩))) (cs':=cs) (by simpa using Um)
   (λy cc=>by
    rcases List.mem_or_eq_of_mem_set cc with h|rfl
    ·exact gi y h
    ·rfl) (λh=>by rw [List.length_set];exact h) rfl (afc bz _) (λk hk=>afd k hk) cs.length (λi y e cc he=>by
    by_cases hi:off=i
    ·subst hi;rw [List.getElem?_set_self (by omega)]at cc
     cases cc;rw [ee]at he;cases he;exact⟨.cx 0 off b u hb,λT aS=>by cases aS⟩
    ·rw [List.getElem?_set_ne hi]at cc;have vR:=(List.getElem?_eq_some_iff.1 he).1;refine⟨?_,λT aS=>.inl ⟨by omega,⟨e,he,aS⟩,cc⟩⟩
     have:=hs.eW (.cell 0 i) e (by simp [aJ.at,hl0,he])
     simpa [ci,hb,cell_of_heap bz,cc]using this)
  refine Z.sub rfl (λl e ag=>⟨e,?_,rfl,λ_ h=>h⟩) (λr c ak=>⟨c,?_,rfl⟩)
  ·cases l with
   |slot s=>exact ag
   |cell r i=>
    simp only [aJ.at,dv]at ag ⊢;by_cases ak:r=0
    ·subst ak;rw [hl0]at ag;simpa using ag
    ·simp [c8,dv,Ne.symm ak,look]at ag
  ·simp only [dv]at ak ⊢;by_cases ly:r=0
   ·subst ly;rw [hl0]at ak;simpa using ak
   ·simp [c8,dv,Ne.symm ly,look]at ak
 |cx r o hR mD fp=>
  rw [hb]at fp;cases fp;refine(afe b w hQ).mono ?_
  rintro e w' ⟨rfl,rfl⟩
  exact⟨_,_,.tuple #[],M,β,⟨rfl,rfl⟩,rfl,fin _ (hs.zg _)⟩
end
section
variable {P:Program}
def Un {f : FuncId} {fd : Func} {T5 : TypeId} (l4 : P.funcs[f]? = some fd) (Kx : fd.body.isSome = true) (hn : decide (fd.name = "runtime.NumGoroutine") = false) (afi : P.cellsOf T5 = 1)
 (oF:∀(b:Nat) (w:World),w.cell? ⟨b,1,none⟩=some (.slice none 0 0)→Calls P f #[.pointer (some ⟨b,0,none⟩)] w λe w'=>e = .returned (.string ⟨#[]⟩)∧w'=w.drew)
 (tk:∀(b g cap:Nat) (w:World),cap≠0→w.cell? ⟨b,1,none⟩=some (.slice (some ⟨g,0,none⟩) 0 cap)→Calls P f #[.pointer (some ⟨b,0,none⟩)] w λe w'=>e = .returned (.string ⟨#[]⟩)∧w'=w.drew)
 (afj:∀(b g:Nat) (w:World) (vs:List Value),w.cell? ⟨b,1,none⟩=some (.slice (some ⟨g,0,none⟩) 0 0)→b<w.heap.size→w.heap[g]? = some (.cells ⟨vs⟩ T5 (0,0))→
  Calls P f #[.pointer (some ⟨b,0,none⟩)] w λe w'=>e = .returned (.string ⟨#[]⟩)∧w'=(w.drew.alloc (.view ⟨g,0,none⟩ T5)))
 (tx:∀(b g cap:Nat) (w:World) (vs:List Value) (l:ap0),l≠[]→w.cell? ⟨b,1,none⟩=some (.slice (some ⟨g,0,none⟩) l.length cap)→w.heap[g]? = some (.cells ⟨vs⟩ T5 (0,0))→
  l.length≤cap→cap≤vs.length→l.length≤9223372036854775807→(∀(j:Nat) (x:UInt8),l[j]? = some x→vs[j]? = some (Value.int .u8 x.toNat))→
  Calls P f #[.pointer (some ⟨b,0,none⟩)] w λe w'=>e = .returned (.string ⟨l.toArray⟩)∧w'=w.drew.freeze ⟨g,0,none⟩ l.length)
 {d0:aZ} {cs:List aZ} {l:ap0} {n:Nat} {get:Nat→V} (iq:n=l.length∧∀i,i<l.length→get i = .int .u8 ((l.getD i 0).toNat:Int)) (h63:l.length≤9223372036854775807):
 gl P f [.ptr 0 0] [] [d0::⟨.v (.bL 1 n get),some T5⟩::cs] (.ret (.v (.str l)) none) [d0::⟨.v (.bL 1 n get),none⟩::cs]:=by
 obtain⟨rfl,iq⟩:=iq;refine⟨⟨fd,l4,Kx,by simpa using hn⟩,λK w vs M β hlen hs gQ=>?_⟩
 obtain⟨v,rfl⟩:∃v,vs=[v]:=by
  match vs,hlen with
  |[v],_=>exact⟨v,rfl⟩
 have qQ:=hs.eW (.slot 0) ⟨.ptr 0 0,none⟩ (by simp [aJ.at,hA,qS,c8,look])
 have tE:ci (⟨[v]⟩:Array Value) w β (.slot 0)=v:=by simp [ci]
 rw [tE]at qQ;obtain⟨b,hb,rfl⟩:∃b,β 0=some b∧v = .pointer (some ⟨b,0,none⟩):=by cases qQ with|ptr r o b h=>exact⟨b,h,rfl⟩
 generalize lB:d0::(⟨.v (.bL 1 l.length get),some T5⟩:aZ)::cs=mF at hs
 have jB:mF[1]? = some ⟨.v (.bL 1 l.length get),some T5⟩:=by rw [←lB];rfl
 have hl0:look (c8 0 [mF]) 0=some mF:=by simp [c8,look]
 obtain⟨bK,ws,T,bT,bz,Um,afg,afh,gi⟩:=hs.box 0 mF hl0;rw [hb]at bT;cases bT;have rX:1<mF.length:=(List.getElem?_eq_some_iff.1 jB).1;have zA:ws[1]? = some ws[1]:=List.getElem?_eq_getElem (by omega)
 have hQ:w.cell? ⟨b,1,none⟩=some ws[1]:=by rw [cell_of_heap bz,zA]
 have Uo:({env:=hA [.ptr 0 0] [],H:=c8 0 [mF],a8:=[mF].length}:aJ).at (.cell 0 1)=some ⟨.v (.bL 1 l.length get),some T5⟩:=by simp [aJ.at,hl0,jB]
 have fM:=hs.eW _ _ Uo;have fL:=hs.own _ _ T5 Uo rfl;have ck:ci (⟨[.pointer (some ⟨b,0,none⟩)]⟩:Array Value) w β (.cell 0 1)=ws[1]:=by simp [ci,hb,hQ]
 rw [ck]at fM fL
 -- lg state behind it
 have tw:∀(j:Nat) a_,(d0::(⟨.v (.bL 1 l.length get),none⟩:aZ)::cs)[j]? = some a_→∃bR,mF[j]? = some bR∧bR.d=a_.d∧(∀T,a_.own=some T→bR.own=some T∧j≠1):=by
  intro j a_ hj;rw [←lB]
  match j with
  | 0=>simp only [List.getElem?_cons_zero,Option.some.injEq]at hj ⊢;subst hj;exact⟨_,rfl,rfl,λT aS=>⟨aS,by omega⟩⟩
  | 1=>simp only [List.getElem?_cons_succ,List.getElem?_cons_zero,Option.some.injEq]at hj ⊢;subst hj;exact⟨_,rfl,rfl,λT aS=>by cases aS⟩
  |j+2=>simp only [List.getElem?_cons_succ]at hj ⊢;exact⟨a_,hj,rfl,λT aS=>⟨aS,by omega⟩⟩
 obtain⟨oN,nY⟩:=hs.R6 (r:=0) (i:=1) (cs':=d0::⟨.v (.bL 1 l.length get),none⟩::cs) hl0 jB rfl (by rw [←lB];rfl) tw (.slot 0)
 rw [ck]at nY
 have fin:∀w' M',bN P K M' β {env:=hA [.ptr 0 0] [],H:=(0,d0::⟨.v (.bL 1 l.length get),none⟩::cs)::c8 0 [mF],a8:=[mF].length} ⟨[.pointer (some ⟨b,0,none⟩)]⟩ w'→
  bN P K M' β {env:=hF (.ret (.v (.str l)) none),H:=c8 0 [d0::⟨.v (.bL 1 l.length get),none⟩::cs],a8:=[mF].length} #[.string ⟨⟨l⟩⟩] w':=λw' M' h=>by
  have Z:=(h.zg #[.string ⟨⟨l⟩⟩]).put (t:=0) (v:=.string ⟨⟨l⟩⟩) (e:=⟨.v (.str l),none⟩) (by simp) (.v _ _ (.str l)) (λT aS=>by cases aS)
  refine Z.sub rfl (λq e aE=>⟨e,?_,rfl,λ_ h=>h⟩) (λr c ak=>⟨c,?_,rfl⟩)
  ·cases q with
   |slot s=>exact aE
   |cell r i=>
    simp only [aJ.at,dv]at aE ⊢;by_cases ak:r=0
    ·subst ak;simpa [c8,look]using aE
    ·simp [c8,dv,Ne.symm ak,look]at aE
  ·simp only [dv]at ak ⊢;by_cases ly:r=0
   ·subst ly;simpa [c8,look]using ak
   ·simp [c8,dv,Ne.symm ly,look]at ak
 have afk:b<w.heap.size:=lt_of_heap bz;have DX:bN P K M β {env:=hA [.ptr 0 0] [],H:=(0,d0::⟨.v (.bL 1 l.length get),none⟩::cs)::c8 0 [mF],a8:=[mF].length} ⟨[.pointer (some ⟨b,0,none⟩)]⟩ w.drew:=oN.drew _;have Up:[mF].length=1:=rfl;generalize hx:ws[1]=x at hQ fM fL nY zA
 rcases jz.bL fL (fM)with h0|⟨g,n,cap,us,T',Z,af,au,aQ,bj,cb,de⟩
 ·subst h0;obtain⟨_,ag⟩|⟨_,_,_,_,h,_⟩:=rN fM
  ·obtain rfl:=List.eq_nil_of_length_eq_zero ag;refine(oF b w hQ).mono ?_
   rintro e w' ⟨rfl,rfl⟩
   exact⟨_,_,_,M,β,⟨rfl,rfl⟩,rfl,fin _ M DX⟩
  ·cases h
 ·subst de
  have afl:∃(b off cap:Nat) (val:Nat→Nat→Value),x = .slice (some ⟨b,off,none⟩) l.length cap∧l.length≤cap∧(∀i,i<l.length→(get i).cells.length=1)∧(∀i j,i<l.length→j<1→M b (off+i*1+j)=some (val i j))∧
   (∀i j,i<l.length→j<1→(val i j).oneCell'=true)∧(∀(i j:Nat) c,i<l.length→(get i).cells[j]? = some c→dl M (val i j) c):=by
   rcases rN fM with⟨h|⟨a,h⟩,dQ⟩|hx
   ·rw [Z]at h;cases h
   ·rw [Z]at h;simp only [Value.slice.injEq,Option.some.injEq]at h;obtain⟨rfl,rfl,rfl⟩:=h;exact⟨g,0,0,λ_ _=>undef,Z.trans (by rw [dQ]),by omega,λi hi=>by omega,λi j hi=>by omega,λi j hi=>by omega,λi j c hi=>by omega⟩
   ·exact hx
  obtain⟨g2,off,aoN,val,ay,hc,hk,c7,aoO,hr⟩:=afl
  focus
  ·rw [Z]at ay;simp only [Value.slice.injEq,Option.some.injEq,Addr.mk.injEq,and_true]at ay;obtain⟨⟨rfl,rfl⟩,rfl,rfl⟩:=ay;rw [afi,Nat.mul_one]at aQ;subst Z;by_cases ag:l=[]
   ·subst ag;by_cases hcap:cap=0
    ·subst hcap;refine(afj b g w us hQ afk au).mono ?_
     rintro e w' ⟨rfl,rfl⟩
     refine⟨_,_,_,M,β,⟨rfl,rfl⟩,rfl,fin _ M (DX.grow (λk hk=>?_))⟩
     exact Go.Lib.alloc_old _ _ k hk
    ·refine(tk b g cap w hcap hQ).mono ?_
     rintro e w' ⟨rfl,rfl⟩
     exact⟨_,_,_,M,β,⟨rfl,rfl⟩,rfl,fin _ M DX⟩
   ·have yV:∀(j:Nat) (x:UInt8),l[j]? = some x→us[j]? = some (Value.int .u8 x.toNat):=by
     intro j x hx;have hj:j<l.length:=(List.getElem?_eq_some_iff.1 hx).1;have e1:=hs.mem _ _ _ (c7 j 0 hj (by omega))
     have e2:=iq j hj;have e3:=hr j 0 (.int .u8 ((l.getD j 0).toNat:Int)) hj (by rw [e2];rfl)
     rw [cell_of_heap au,show 0+j*1+0=j by omega]at e1
     rw [e1];generalize val j 0=y at e3 ⊢
     cases e3;simp [List.getD,hx]
    refine(tx b g cap w us l ag hQ au hc aQ h63 yV).mono ?_
    rintro e w' ⟨rfl,rfl⟩
    refine⟨_,_,.string ⟨⟨l⟩⟩,M,β,⟨rfl,rfl⟩,rfl,fin _ M ?_⟩
    have hfz:(w.drew.freeze ⟨g,0,none⟩ l.length).os=w.drew.os∧(w.drew.freeze ⟨g,0,none⟩ l.length).output=w.drew.output∧(∀k,k≠g→(w.drew.freeze ⟨g,0,none⟩ l.length).heap[k]? = w.drew.heap[k]?)∧∃nO,(w.drew.freeze ⟨g,0,none⟩ l.length).heap[g]? = some (.cells ⟨us⟩ T' nO):=by
     have hg':w.drew.heap[g]? = some (.cells ⟨us⟩ T' (0,0)):=au;have c':=lt_of_heap hg';have dp:w.drew.heap[g] = .cells ⟨us⟩ T' (0,0):=by simpa [Array.getElem?_eq_getElem c']using hg'
     unfold World.freeze;split
     ·exact⟨rfl,rfl,λ_ _=>rfl,_,hg'⟩
     ·refine⟨rfl,rfl,λk hk=>?_,?_⟩
      ·simp only [Array.getElem?_modify];rw [if_neg (by simpa using(Ne.symm hk))]
      ·simp only [Array.getElem?_modify];rw [if_pos trivial,hg'];exact⟨_,rfl⟩
    obtain⟨f1,f2,f3,nO,f4⟩:=hfz;refine DX.free g cb (λr c ak lD=>nY.unbox g r c rfl ak lD) (λq e gB aE rR afm=>?_) (λk hk _=>f3 k hk) (Mem.le_refl _) (λ_ _ _=>rfl) (λo v ay=>?_) (by rw [f1,f2])
    ·refine nY.apart q e gB g aE rR ?_ rfl afm
     rintro rfl
     simp only [aJ.at,hA,qS,c8,look]at aE;simp at aE;subst aE;cases rR
    ·have:=hs.mem _ _ _ ay
     rw [cell_of_heap au]at this;rw [cell_of_heap f4,this]
end
def r9(w:World):Mem:=λb o=>w.cell? ⟨b,o,none⟩
def fO(w:World)(vs:List Value)(cs:List V):Prop:=
 vs.length=cs.length∧(∀v,v∈vs→v.oneCell'=true)∧∀(i:Nat) v c,vs[i]? = some v→cs[i]? = some c→dl (r9 w) v c
def fO.nil{w:World}:fO w [] []:=⟨rfl,(λv h=>by cases h),λi v c h=>by simp at h⟩
def fO.one{w:World}{v:Value}{c:V}(Z:v.oneCell'=true)(h:dl (r9 w) v c):fO w [v] [c]:=
 ⟨rfl,(λu hu=>by obtain rfl:=List.mem_singleton.1 hu;exact Z),λi u d hu hd=>by
  match i with
  | 0=>cases hu;cases hd;exact h
  |i+1=>simp at hu⟩
def fO.app{w:World}{vs us:List Value}{cs ds:List V}(h:fO w vs cs)(dp:fO w us ds):fO w (vs++us) (cs++ds):=by
 refine⟨by simp [h.1,dp.1],λv ay=>?_,λi v c ay hc=>?_⟩
 ·rcases List.mem_append.1 ay with ay|ay
  ·exact h.2.1 v ay
  ·exact dp.2.1 v ay
 ·by_cases hi:i<vs.length
  ·rw [List.getElem?_append_left hi]at ay;rw [List.getElem?_append_left (by rw [←h.1];exact hi)]at hc
   exact h.2.2 i v c ay hc
  ·rw [List.getElem?_append_right (by omega)]at ay
   rw [List.getElem?_append_right (by rw [←h.1];omega),←h.1]at hc
   exact dp.2.2 _ v c ay hc
def fO.DY{w:World}{vs:List Value}{cs ds:List V}(h:fO w vs cs)(ay:jX cs ds):fO w vs ds:=by
 refine⟨h.1.trans ay.len,h.2.1,λi v c hi hc=>?_⟩
 obtain⟨x,hx,Jc⟩:=ay.at i hc;exact Jc _ _ (h.2.2 i v x hi hx)
def fO.agg{w:World}{vs:List Value}{cs:List V}(h:fO w vs cs):dl (r9 w) (.agg ⟨vs⟩) (.agg cs):=.agg vs cs h.1 h.2.1 h.2.2
def Uq{α:Type}[Inhabited α]:∀(n:Nat) (Q:Nat→α→Prop),(∀i,i<n→∃a,Q i a)→∃l:List α,l.length=n∧∀i,i<n→Q i (l.getD i default)
 | 0,Q,h=>⟨[],rfl,λi hi=>by omega⟩
 |n+1,Q,h=>by
  obtain⟨l,Z,af⟩:=Uq n Q λi hi=>h i (by omega)
  obtain⟨a,ha⟩:=h n (by omega)
  refine⟨l++[a],by simp [Z],λi hi=>?_⟩
  by_cases hin:i<n
  ·have:=af i hin
   simpa [List.getD,List.getElem?_append_left (show i<l.length by omega)]using this
  ·obtain rfl:i=n:=by omega
   simpa [List.getD,←Z]using ha
section
variable {H:Type} {enc:TypeId×Value→H} {P:Program} {w:World}
def h5{fuel:Nat}{t:TypeId}{k:IntKind}{cs:List Value}{x:DataW H×List MemPlace}(bU:P.underlying t=some (.int k))(h:DataW.trod enc P w 0 (λ_=>true) true fuel t cs=some x):
 ∃n:Int,(k.min≤n∧n≤k.max)∧fO w cs [.int k n]:=by
 obtain⟨n,rfl,_,hw⟩:=DataW.trod_int bU h;refine⟨n,by simpa [Lit.wf]using hw,.one rfl (.int _ _)⟩
def Ky{fuel:Nat}{t:TypeId}{cs:List Value}{x:DataW H×List MemPlace}(bU:P.underlying t=some .bool)(h:DataW.trod enc P w 0 (λ_=>true) true fuel t cs=some x):
 ∃b:Bool,fO w cs [.bool b]:=by
 obtain⟨b,rfl,_⟩:=DataW.trod_bool bU h;exact⟨b,.one rfl (.bool _)⟩
def l'{fuel:Nat}{t:TypeId}{cs:List Value}{x:DataW H×List MemPlace}(bU:P.underlying t=some .string)(h:DataW.trod enc P w 0 (λ_=>true) true fuel t cs=some x):
 ∃s:ap0,s.length≤9223372036854775807∧fO w cs [.str s]:=by
 obtain⟨s,rfl,_,hw⟩:=DataW.trod_string bU h;exact⟨s.data.toList,by simpa [maxLen]using hw,.one rfl (.str s.data.toList)⟩
def kA{α:Type}[Inhabited α]{fuel:Nat}{t e:TypeId}{k:Nat}{cs:List Value}{x:DataW H×List MemPlace}{encA:α→V}{ok:α→Prop}(bU:P.underlying t=some (.slice e))(hk:P.cellsOf e=k)(iJ:0<k)
 (h:DataW.trod enc P w 0 (λ_=>true) true fuel t cs=some x)
 (ak:∀n cs' fH,n<fuel→DataW.trod enc P w 0 (λ_=>true) true n e cs'=some fH→∃a:α,ok a∧fO w cs' (encA a).cells):
 ∃l:List α,l.length≤9223372036854775807∧(∀i,i<l.length→ok (l.getD i default))∧fO w cs [ae k encA l]:=by
 rcases DataW.trod_slice bU h with⟨rfl,_⟩|⟨a,len,cap,elems,rest,n,rfl,rfl,_,_,zB,afn,kW,he,afo,_⟩
 ·exact⟨[],by simp,(λi hi=>by simp at hi),.one rfl (.lb _ _)⟩
 ·have oI:∀i,i<len→∃b:α,ok b∧∃cs',w.cells? 0 (a.add (i*k)) k=some cs'∧fO w cs' (encA b).cells:=by
   intro i hi;have Z:=he i hi;rw [List.getElem?_eq_getElem (by omega),Option.bind_eq_some_iff,hk]at Z
   obtain⟨cs',af,au⟩:=Z;obtain⟨b,aQ,bj⟩:=ak n cs' _ (by omega) au
   exact⟨b,aQ,cs',af,bj⟩
  obtain⟨l,ag,ea⟩:=Uq len _ oI;subst ag;refine⟨l,by unfold maxLen at afn;omega,λi hi=>(ea i hi).1,?_⟩
  by_cases hc0:cap=0
  ·obtain rfl:l=[]:=List.eq_nil_of_length_eq_zero (by omega)
   subst hc0;exact .one rfl (.nL _ _ _)
  ·have Ur:a.spot=none:=by
    have h0:∃cs',w.cells? 0 (a.add (0*k)) k=some cs':=by
     by_cases hl0:l.length=0
     ·obtain⟨Z,af⟩:=afo rfl;have au:=af 0 (by omega)
      rw [List.getElem?_eq_getElem (by omega),Option.bind_eq_some_iff,hk,hl0]at au
      obtain⟨cs',aQ,_⟩:=au;exact⟨cs',aQ⟩
     ·obtain⟨_,cs',aQ,_⟩:=ea 0 (by omega)
      exact⟨cs',aQ⟩
    obtain⟨cs',aQ⟩:=h0;obtain⟨_,bj,cb⟩:=World.cells?_some aQ;have de:=cb 0 iJ;rw [List.getElem?_eq_getElem (by omega),Nat.zero_mul]at de
    have:(a.add 0).add 0=a:=by simp [Addr.add]
    rw [this]at de;exact World.cell?_spot de
   obtain⟨b,off,sp⟩:=a;simp only at Ur
   subst Ur
   have ck:∀i j,i<l.length→j<k→∃cs':List Value,cs'.length=k∧fO w cs' (encA (l.getD i default)).cells∧w.cell? ⟨b,off+i*k+j,none⟩=cs'[j]? := by
    intro i j hi hj;obtain⟨_,cs',Z,af⟩:=ea i hi;obtain⟨_,bj,cb⟩:=World.cells?_some Z;refine⟨cs',bj,af,?_⟩
    rw [←cb j hj,addr_add,addr_add]
   have Us:∀i,i<l.length→(encA (l.getD i default)).cells.length=k:=by
    intro i hi;obtain⟨cs',Z,af,_⟩:=ck i 0 hi iJ;rw [←af.1,Z]
   refine .one rfl (.bL b off k l.length cap _ (λi j=>(w.cell? ⟨b,off+i*k+j,none⟩).getD undef) zB Us (λi j hi hj=>?_) (λi j hi hj=>?_) (λi j c hi hc=>?_))
   ·obtain⟨cs',Z,af,au⟩:=ck i j hi hj;unfold r9;rw [au,List.getElem?_eq_getElem (by omega)];rfl
   ·obtain⟨cs',Z,af,au⟩:=ck i j hi hj;rw [au,List.getElem?_eq_getElem (by omega)]
    exact af.2.1 _ (List.getElem_mem _)
   ·have hj:j<k:=by rw [←Us i hi];exact(List.getElem?_eq_some_iff.1 hc).1
    obtain⟨cs',Z,af,au⟩:=ck i j hi hj;rw [au,List.getElem?_eq_getElem (by omega)]
    exact af.2.2 j _ c (List.getElem?_eq_getElem (by omega)) hc
end
section
variable {P:Program} {K:Ctx} {N E:Nat} {M:Mem} {β:Nat→Option Nat} {st bZ:aJ} {tmps:Array Value} {w:World}
mutual
def p2(r:Nat)(x:V):D→D
 |.v y=>.v y
 |.ptr q off=>bif Nat.beq q r&&Nat.beq off 0 then .eY x else .ptr q off
 |.cx q off u=>.cx q off u
 |.eY y=>.eY y
 |.full k n g=>.full k n g
 |.fn f cs=>.fn f (p3 r x cs)
 |.agg cs=>.agg (p3 r x cs)
 |.cp cs=>.cp (p3 r x cs)
def p3(r:Nat)(x:V):List D→List D
 |[]=>[]
 |d::l=>p2 r x d::p3 r x l
end
def DZ(r:Nat)(x:V):∀(l:List D) (i:Nat),(p3 r x l)[i]? = (l[i]?).map (p2 r x)
 |[],i=>by simp [p3]
 |d::l,0=>by simp [p3]
 |d::l,i+1=>by simp only [p3,List.getElem?_cons_succ];exact DZ r x l i
def D0(r:Nat)(x:V):∀l:List D,(p3 r x l).length=l.length
 |[]=>rfl
 |d::l=>by simp only [p3,List.length_cons,D0 r x l]
def cz.nO{M':Mem}(c7:M.le M'){r b:Nat}{x:V}{u:Value}(hb:β r=some b)(hx:x.isAgg=false)(hu:M' b 0=some u)(Z:u.oneCell'=true)(ak:dl M' u x){v:Value}{d:D}(h:cz M β v d):cz M' β v (p2 r x d):=by
 induction h with
 |v u x h=>exact .v u x (h.mono c7)
 |ptr q off bK h=>
  simp only [p2];cases hc:Nat.beq q r&&Nat.beq off 0 with
  |false=>exact .ptr q off bK h
  |true=>
   simp only [Bool.and_eq_true,Nat.beq_eq]at hc;obtain⟨rfl,rfl⟩:=hc;rw [hb]at h;cases h;have wa:=vP hx;refine .eY b 0 x (λ_=>u) (λj hj=>?_) (λj hj=>Z) (λj c hc=>?_)
   ·rw [wa]at hj;simp at hj
    subst hj;exact hu
   ·rw [wa]at hc;cases j with
    |zero=>simp at hc;subst hc;exact ak
    |succ j=>simp at hc
 |ld q off t=>exact .ld q off t
 |cx q off bK t h=>exact .cx q off bK t h
 |eY b off x val hm Z h=>exact .eY b off x val (λj hj=>c7 _ _ _ (hm j hj)) Z (λj c hc=>(h j c hc).mono c7)
 |full base k n get h=>exact .full base k n get (h.mono c7)
 |fn f vs cs hn _ bc=>
  simp only [p2];refine .fn f vs _ (by rw [D0];exact hn) λi v c ay hc=>?_
  rw [DZ]at hc;simp only [Option.map_eq_some_iff]at hc;obtain⟨c0,h0,rfl⟩:=hc;exact bc i v c0 ay h0
 |agg vs cs hn Z _ bc=>
  simp only [p2];refine .agg vs _ (by rw [D0];exact hn) Z λi v c ay hc=>?_
  rw [DZ]at hc;simp only [Option.map_eq_some_iff]at hc;obtain⟨c0,h0,rfl⟩:=hc;exact bc i v c0 ay h0
 |cp vs cs hn _ bc=>
  simp only [p2];refine .cp vs _ (by rw [D0];exact hn) λi v c ay hc=>?_
  rw [DZ]at hc;simp only [Option.map_eq_some_iff]at hc;obtain⟨c0,h0,rfl⟩:=hc;exact bc i v c0 ay h0
def wq(r:Nat)(x:V)(e:aZ):aZ:={d:=p2 r x e.d,own:=e.own}
def D1(r:Nat)(x:V):List (Nat×aZ)→List (Nat×aZ)
 |[]=>[]
 |(t,e)::l=>(t,wq r x e)::D1 r x l
def D2(r:Nat)(x:V):List (Nat×List aZ)→List (Nat×List aZ)
 |[]=>[]
 |(t,cs)::l=>(t,cs.map (wq r x))::D2 r x l
def Ut(r:Nat)(x:V):∀(l:List (Nat×aZ)) (s:Nat),look (D1 r x l) s=(look l s).map (wq r x)
 |[],s=>rfl
 |(t,e)::l,s=>by
  simp only [D1,dv];by_cases h:t=s
  ·simp [h]
  ·simp only [h,if_false];exact Ut r x l s
def Kz(r:Nat)(x:V):∀(l:List (Nat×List aZ)) (s:Nat),look (D2 r x l) s=(look l s).map λcs=>cs.map (wq r x)
 |[],s=>rfl
 |(t,cs)::l,s=>by
  simp only [D2,dv];by_cases h:t=s
  ·simp [h]
  ·simp only [h,if_false];exact Kz r x l s
def r'(r:Nat)(x:V)(st:aJ):aJ:={env:=D1 r x st.env,H:=D2 r x (del st.H r),a8:=st.a8}
def zC{r:Nat}{x:V}{l:Loc}{a_:aZ}(h:(r' r x st).at l=some a_):∃e,aJ.at {env:=st.env,H:=del st.H r,a8:=st.a8} l=some e∧a_=wq r x e:=by
 cases l with
 |slot s=>
  simp only [aJ.at,r',Ut,Option.map_eq_some_iff]at h ⊢;obtain⟨e,Z,af⟩:=h;exact⟨e,Z,af.symm⟩
 |cell q i=>
  simp only [aJ.at,r',Kz,Option.bind_eq_some_iff,Option.map_eq_some_iff]at h ⊢;obtain⟨cs,⟨kX,Z,rfl⟩,af⟩:=h;rw [List.getElem?_map,Option.map_eq_some_iff]at af;obtain⟨e,au,aQ⟩:=af;exact⟨e,⟨kX,Z,au⟩,aQ.symm⟩
def afp{r:Nat}{x:V}{d:D}{q off:Nat}{u:TypeId}(h:p2 r x d = .cx q off u):d = .cx q off u:=by
 cases d<;>simp only [p2]at h
 case ptr q' o'=>cases hc:Nat.beq q' r&&Nat.beq o' 0<;>rw [hc]at h<;>cases h
 all_goals first|exact h|cases h
def bN.freeze(h:bN P K M β st tmps w){r:Nat}{x:V}{own:Option TypeId}(ak:look st.H r=some [⟨.v x,own⟩])(hx:x.isAgg=false):∃M',bN P K M' β (r' r x st) tmps w:=by
 obtain⟨b,vs,T,hb,bz,hlen,Uu,dC,gi,hlies⟩:=h.box r _ ak
 obtain⟨u,rfl⟩:∃u,vs=[u]:=by
  match vs,hlen with
  |[u],_=>exact⟨u,rfl⟩
 have D3:∀q cs,look (del st.H r) q=some cs→q≠r∧look st.H q=some cs:=by
  intro q cs aE;rw [pE]at aE;split at aE
  ·cases aE
  ·rename_i ef;exact⟨λe=>ef e.symm,aE⟩
 have Z:bN P K M β {env:=st.env,H:=del st.H r,a8:=st.a8} tmps w:=h.sub rfl (λl e ag=>by
  cases l with
  |slot s=>exact⟨e,ag,rfl,λ_ h=>h⟩
  |cell q i=>
   simp only [aJ.at,Option.bind_eq_some_iff]at ag ⊢;obtain⟨cs,af,au⟩:=ag;exact⟨e,⟨cs,(D3 _ _ af).2,au⟩,rfl,λ_ h=>h⟩) (λq cs aE=>⟨cs,(D3 _ _ aE).2,rfl⟩)
 have hle:M.le (iG M b 0 [u]):=I5 λo _=>Uu o
 have hQ:iG M b 0 [u] b 0=some u:=by simp [iG]
 have af:bN P K (iG M b 0 [u]) β {env:=st.env,H:=del st.H r,a8:=st.a8} tmps w:=by
  refine Z.free b dC (λq cs aE afq=>?_) (λl e T' ag aS mx=>?_) (λ_ _ _=>rfl) hle (λbK o ef=>by simp [iG,ef]) (λo v ay=>?_)
  ·obtain⟨au,aQ⟩:=D3 _ _ aE;exact au (h.inj q r b _ _ aQ ak afq hb)
  ·have hl0:∃bR,st.at l=some bR∧bR.own=some T':=by
    cases l with
    |slot s=>exact⟨e,ag,aS⟩
    |cell q i=>
     simp only [aJ.at,Option.bind_eq_some_iff]at ag ⊢;obtain⟨cs,au,aQ⟩:=ag;exact⟨e,⟨cs,(D3 _ _ au).2,aQ⟩,aS⟩
   obtain⟨bR,au,aQ⟩:=hl0;exact h.unbox l bR T' b r _ au aQ mx ak hb
  ·rw [cell_of_heap bz];unfold iG at ay;split at ay
   ·rename_i hc;simpa using ay
   ·rw [Uu o]at ay;cases ay
 have fM:dl (iG M b 0 [u]) u x:=by
  have au:=h.eW (.cell r 0) ⟨.v x,own⟩ (by rw [aJ.IG ak];rfl)
  have aQ:ci tmps w β (.cell r 0)=u:=by simp only [ci,hb,cell_of_heap bz];simp
  rw [aQ]at au;cases au with
  |v _ _ bj=>exact bj.mono hle
 refine⟨iG M b 0 [u],?_⟩
 have s8:∀q cs',look (r' r x st).H q=some cs'→∃cs,look (del st.H r) q=some cs∧cs'=cs.map (wq r x):=by
  intro q cs' aE;simp only [r',Kz,Option.map_eq_some_iff]at aE;obtain⟨cs,au,aQ⟩:=aE;exact⟨cs,au,aQ.symm⟩
 constructor
 ·intro l a_ ag;obtain⟨e,au,rfl⟩:=zC ag;exact(af.eW l e au).nO (Mem.le_refl _) hb hx hQ (gi u (by simp)) fM
 ·intro l a_ T' ag aS;obtain⟨e,au,rfl⟩:=zC ag;exact af.own l e T' au aS
 ·intro l cL e a_ T' afr bK ag aS cR d';obtain⟨e1,au,rfl⟩:=zC ag;obtain⟨e2,aQ,rfl⟩:=zC cR;exact af.uniq l cL e1 e2 T' afr bK au aS aQ d'
 ·intro l e T' bK q cs ag aS mx aE;obtain⟨e1,au,rfl⟩:=zC ag;obtain⟨kX,aQ,_⟩:=s8 q cs aE;exact af.unbox l e1 T' bK q kX au aS mx aQ
 ·intro q cs aE;obtain⟨kX,aQ,rfl⟩:=s8 q cs aE;obtain⟨bK,vs',T',g1,g2,g3,g4,g5,g6,g7⟩:=af.box q kX aQ;refine⟨bK,vs',T',g1,g2,by simpa using g3,g4,g5,g6,λe he q' off t hd=>?_⟩
  obtain⟨bR,IK,rfl⟩:=List.mem_map.1 he;exact g7 bR IK q' off t (afp hd)
 ·intro q q' bK cs cs' aE oK cN fp;obtain⟨c1,au,_⟩:=s8 q cs aE;obtain⟨c2,aQ,_⟩:=s8 q' cs' oK;exact af.inj q q' bK c1 c2 au aQ cN fp
 ·exact af.lt
 ·exact af.mem
 ·exact af.m0
 ·exact af.frame
 ·exact af.h2
 ·exact af.iD
 ·exact af.hq
def zD(H:List (Nat×List aZ))(r:Nat):Option V:=
 match look H r with
 |some [⟨.v x,_⟩]=>bif x.isAgg then none else some x
 |_=>none
def bf.freeze{c:Code}{Q:cv→aJ→Prop}(r:Nat)(x:V)(ak:zD st.H r=some x)(h:bf P N E c Q (r' r x st)):bf P N E c Q st:=by
 rintro K ek a w ⟨he,hd,el,M,β,cW⟩
 unfold zD at ak;split at ak
 ·rename_i y own ag;rw [Bool.cond_eq_ite]at ak;split at ak
  ·cases ak
  ·rename_i hx;cases ak;obtain⟨M',hs⟩:=cW.freeze ag (by simpa using hx)
   exact h K ek a w ⟨he,hd,el,M',β,hs⟩
 ·cases ak
def zE(r:Nat)(st:aJ):aJ:=match zD st.H r with
 |some x=>r' r x st
 |none=>st
def KA(r:Nat)(Q:cv→aJ→Prop):cv→aJ→Prop
 |.normal,st=>Q .normal (zE r st)
 |.ret,st=>Q .ret (zE r st)
 |e,st=>Q e st
def Uv{K:Ctx}{M:Mem}{β:Nat→Option Nat}{tmps:Array Value}{w:World}(r:Nat)(h:bN P K M β st tmps w):∃M',bN P K M' β (zE r st) tmps w:=by
 unfold zE;cases hx:zD st.H r with
 |none=>exact⟨M,h⟩
 |some x=>
  unfold zD at hx;split at hx
  ·rename_i y own ag;rw [Bool.cond_eq_ite]at hx;split at hx
   ·cases hx
   ·rename_i afs;cases hx;exact h.freeze ag (by simpa using afs)
  ·cases hx
def bf.nO{x:Code}{Q:cv→aJ→Prop}(r:Nat)(h:bf P N E x (KA r Q) st):bf P N E x Q st:=by
 intro K ek a w hs;refine wp_mono (h K ek a w hs) ?_
 rintro e dU w' ⟨fg,bZ,Z,af⟩
 cases fg with
 |normal=>
  obtain⟨g1,g2,g3,M,β,g4⟩:=Z;obtain⟨M',g5⟩:=Uv r g4;exact⟨.normal,_,⟨g1,g2,g3,M',β,g5⟩,af⟩
 |ret=>
  obtain⟨g1,g2,g3,M,β,g4⟩:=Z;obtain⟨M',g5⟩:=Uv r g4;exact⟨.ret,_,⟨g1,g2,g3,M',β,g5⟩,af⟩
 |exit i=>exact⟨.exit i,bZ,Z,af⟩
 |bl x=>exact⟨.bl x,bZ,Z,af⟩
def zF(s e:aZ):aZ:=match s.own with|none=>{d:=e.d} |some _=>e
def wu:List (Nat×aZ)→List (Nat×aZ)→List (Nat×aZ)
 |(_,s)::l,(t,e)::m=>(t,zF s e)::wu l m
 |_,m=>m
def nl:List aZ→List aZ→List aZ
 |s::l,e::m=>zF s e::nl l m
 |_,m=>m
def wv:List (Nat×List aZ)→List (Nat×List aZ)→List (Nat×List aZ)
 |(_,s)::l,(t,cs)::m=>(t,nl s cs)::wv l m
 |_,m=>m
def fit(s st:aJ):aJ:={env:=wu s.env st.env,H:=wv s.H st.H,a8:=st.a8}
def D4(s e:aZ):(zF s e).d=e.d∧∀T,(zF s e).own=some T→e.own=some T:=by
 unfold zF;split
 ·exact⟨rfl,λT h=>by cases h⟩
 ·exact⟨rfl,λT h=>h⟩
def Uw:∀(l m:List (Nat×aZ)) (t:Nat) (a_:aZ),look (wu l m) t=some a_→∃e,look m t=some e∧e.d=a_.d∧∀T,a_.own=some T→e.own=some T
 |[],m,t,a_,h=>⟨a_,by simpa [wu]using h,rfl,λ_ h=>h⟩
 |(a,s)::l,[],t,a_,h=>by simp [wu,look]at h
 |(a,s)::l,(q,e)::m,t,a_,h=>by
  simp only [wu,dv]at h ⊢;split at h
  ·rename_i aE;rw [if_pos aE];cases h;exact⟨e,rfl,(D4 s e).1.symm,(D4 s e).2⟩
  ·rename_i aE;rw [if_neg aE];exact Uw l m t a_ h
def Ux:∀(l m:List aZ) (i:Nat) (a_:aZ),(nl l m)[i]? = some a_→∃e,m[i]? = some e∧e.d=a_.d∧∀T,a_.own=some T→e.own=some T
 |[],m,i,a_,h=>⟨a_,by simpa [nl]using h,rfl,λ_ h=>h⟩
 |s::l,[],i,a_,h=>by simp [nl]at h
 |s::l,e::m,0,a_,h=>by
  simp only [nl,List.getElem?_cons_zero,Option.some.injEq]at h;subst h;exact⟨e,rfl,(D4 s e).1.symm,(D4 s e).2⟩
 |s::l,e::m,i+1,a_,h=>by
  simp only [nl,List.getElem?_cons_succ]at h ⊢;exact Ux l m i a_ h
def Uy:∀l m:List aZ,(nl l m).length=m.length
 |[],m=>by simp [nl]
 |s::l,[]=>by simp [nl]
 |s::l,e::m=>by simp only [nl,List.length_cons,Uy l m]
def KB:∀(l m:List (Nat×List aZ)) (t:Nat) (cs':List aZ),look (wv l m) t=some cs'→∃cs s,look m t=some cs∧cs'=nl s cs
 |[],m,t,cs',h=>⟨cs',[],by simpa [wv]using h,by simp [nl]⟩
 |(a,s)::l,[],t,cs',h=>by simp [wv,look]at h
 |(a,s)::l,(q,cs)::m,t,cs',h=>by
  simp only [wv,dv]at h ⊢;split at h
  ·rename_i aE;rw [if_pos aE];cases h;exact⟨cs,s,rfl,rfl⟩
  ·rename_i aE;rw [if_neg aE];exact KB l m t cs' h
def bN.fit(h:bN P K M β st tmps w)(s:aJ):bN P K M β (fit s st) tmps w:=
 h.sub rfl (λl a_ ag=>by
  cases l with
  |slot t=>exact Uw _ _ _ _ ag
  |cell q i=>
   simp only [aJ.at,Ab.fit,Option.bind_eq_some_iff]at ag;obtain⟨cs',Z,af⟩:=ag;obtain⟨cs,z,au,rfl⟩:=KB _ _ _ _ Z;obtain⟨e,aQ,bj⟩:=Ux _ _ _ _ af;exact⟨e,by simp only [aJ.at,au,Option.bind_some];exact aQ,bj⟩) (λq cs' aE=>by
   obtain⟨cs,z,au,rfl⟩:=KB _ _ _ _ aE;exact⟨cs,au,(Uy _ _).symm⟩)
def bf.fit{c:Code}{Q:cv→aJ→Prop}(s:aJ)(h:bf P N E c Q (Ab.fit s st)):bf P N E c Q st:=by
 rintro K ek a w ⟨he,hd,el,M,β,cW⟩
 exact h K ek a w ⟨he,hd,el,M,β,cW.fit s⟩
def bf.p4{c:Code}{Q:cv→aJ→Prop}(s:aJ)(live vK:List Nat)(n:Nat)(ak:(s6 live vK n st.env st.H st.a8).map (Ab.fit s)=some bZ)(cI:Nat.ble E n=true)(h:bf P N E c Q bZ):bf P N E c Q st:=by
 simp only [Option.map_eq_some_iff]at ak;obtain⟨aoP,Z,rfl⟩:=ak;exact bf.drop live vK n Z cI (h.fit s)
def forget(n4:List Nat):List (Nat×aZ)→List (Nat×aZ)
 |[]=>[]
 |(t,e)::l=>(t,bif n4.any (Nat.beq t)then {d:=e.d}else e)::forget n4 l
def Uz(n4:List Nat):∀(m:List (Nat×aZ)) (t:Nat) (a_:aZ),look (forget n4 m) t=some a_→∃e,look m t=some e∧e.d=a_.d∧∀T,a_.own=some T→e.own=some T
 |[],t,a_,h=>by simp [forget,look]at h
 |(q,e)::m,t,a_,h=>by
  simp only [forget,dv]at h ⊢;split at h
  ·rename_i aE;rw [if_pos aE];cases h;refine⟨e,rfl,?_⟩
   cases n4.any (Nat.beq q)
   ·exact⟨rfl,λ_ h=>h⟩
   ·exact⟨rfl,λT h=>by cases h⟩
  ·rename_i aE;rw [if_neg aE];exact Uz n4 m t a_ h
def bf.forget{c:Code}{Q:cv→aJ→Prop}(n4:List Nat)(h:bf P N E c Q {env:=Ab.forget n4 st.env,H:=st.H,a8:=st.a8}):bf P N E c Q st:=by
 rintro K ek a w ⟨he,hd,el,M,β,cW⟩
 refine h K ek a w ⟨he,hd,el,M,β,cW.sub rfl (λl a_ ag=>?_) (λq cs aE=>⟨cs,aE,rfl⟩)⟩
 cases l with
 |slot t=>exact Uz _ _ _ _ ag
 |cell q i=>exact⟨a_,ag,rfl,λ_ h=>h⟩
end
def r_(st:aJ):di:={env:=st.env,b0:=[],H:=st.H,a8:=st.a8,rs:=[],bb:=[]}
def sa:Option rI→di
 |some (.go g)=>g
 |_=>{env:=[],b0:=[],H:=[],a8:=0,rs:=[],bb:=[]}
def KC:Option rI→Option (List Prop)
 |some (.go g)=>some g.bb
 |_=>none
def UA(g:di):aJ:={env:=g.env,H:=g.H,a8:=g.a8}
def p5(o:Oper)(b:Bool):Oper:={o with op:=.move (.const (.bool b))}
def UB{x:Option rI}{cJ:List Prop}(h:KC x=some cJ):x=some (.go (sa x))∧(sa x).bb=cJ:=by
 cases x with
 |none=>cases h
 |some f=>
  cases f with
  |go g=>exact⟨rfl,by injection h⟩
  |bl _ _ _=>cases h
section
variable {P:Program} {N E:Nat} {st:aJ} {tt:dx}
def bf.UC{id:Nat}{jZ c6:Oper}{t1:Nat}{ty JT e:TypeId}{k n:Nat}{get:Nat→V}{own:Option TypeId}{Q:cv→aJ→Prop}
 (cj:e7 P tt=true) (Z:c6.op = .binOp .eql ty (.tmp t1) (.const (.slice none 0 0)) JT) (hg:c6.guard=none) (nX:P.underlying ty=some (.slice e))
 (aft:KC (jx (gW P) tt N [jZ,c6] (r_ st) jZ)=some [])
 (ay:look (sa (jx (gW P) tt N [jZ,c6] (r_ st) jZ)).env t1=some ⟨.v (.bL k n get),own⟩)
 (s1:∀b,KC (jx (gW P) tt N [jZ,p5 c6 b] (sa (jx (gW P) tt N [jZ,c6] (r_ st) jZ)) (p5 c6 b))=some [])
 (ea:∀b:Bool,(b=true→n=0)→Q .normal (UA (sa (jx (gW P) tt N [jZ,p5 c6 b] (sa (jx (gW P) tt N [jZ,c6] (r_ st) jZ)) (p5 c6 b))))):
 bf P N E (.region id #[jZ,c6] false) Q st:=by
 rintro K ek a w ⟨_,hd,el,M,β,cW⟩
 obtain⟨tmps,ds⟩:=a;simp only at hd el
 subst hd;have t6:fx P K N M β (r_ st) tmps w:=⟨cW,el,(λ_ _ h=>by simp [r_,look]at h),λ_ _ _ h=>by simp [r_,look]at h⟩
 refine wp_region ?_;obtain⟨bR,Kv⟩:=UB aft;generalize sa (jx (gW P) tt N [jZ,c6] (r_ st) jZ)=g1 at bR Kv ay s1 ea
 show wpOps P #[jZ,c6] _ [0,1] ⟨tmps,K.ds⟩ w
 rw [wpOps];refine zj (ops:=[jZ,c6]) t6 cj (opsA := #[jZ,c6]) rfl bR (λq aE=>by rw [Kv]at aE;cases aE) ?_
 intro ej w' M' β' dp;rw [wpOps];show if Region.wanted c6 (yielded #[jZ,c6] ej)=true then _ else _
 rw [if_pos (by unfold Region.wanted;rw [hg])]
 have ak:=dp.bu.eW (.slot t1) _ ay
 obtain⟨base,len,cap,ck,hb⟩:∃(base:Option Addr) (len cap:Nat),ej.getD t1 undef = .slice base len cap∧(base=none→n=0):=by
  have e6:cz M' β' (ej.getD t1 undef) (.v (.bL k n get)):=ak;generalize ej.getD t1 undef=v at e6
  cases e6 with
  |v _ _ hx=>
   cases hx with
   |lb=>exact⟨none,0,0,rfl,λ_=>rfl⟩
   |nL a=>exact⟨some a,0,0,rfl,λh=>by cases h⟩
   |bL b off _ _ cap=>exact⟨some ⟨b,off,none⟩,_,cap,rfl,λh=>by cases h⟩
 obtain⟨e1,DM⟩:=UB (s1 base.isNone);have ky:=ea base.isNone (λh=>hb (by cases base with|none=>rfl|some _=>cases h))
 generalize sa (jx (gW P) tt N [jZ,p5 c6 base.isNone] g1 (p5 c6 base.isNone))=g2 at e1 DM ky
 have sb:=zj (ops:=[jZ,p5 c6 base.isNone]) dp cj (opsA := #[jZ,p5 c6 base.isNone]) rfl e1 (λq aE=>by rw [DM]at aE;cases aE)
  (Q:=λe dU w'=>∃fg bZ,pV P K N fg bZ e dU w'∧Q fg bZ) (next:=λdU w'=>∃fg bZ,pV P K N fg bZ .normal dU w'∧Q fg bZ)
  (λaoQ D5 M2 q0 af=>⟨.normal,UA g2,⟨rfl,rfl,af.size,M2,q0,af.bu⟩,ky⟩)
 rw [if_pos (by unfold Region.wanted p5;rw [hg])]at sb
 have hx:(execOp (Act.eval ⟨ej,K.ds⟩) c6).run P w' = .ok (.value (.bool base.isNone)) w':=by
  rw [wc];refine pT (a:=.slice base len cap) (b:=.slice none 0 0) Z ck rfl (tB (by simp) (by simp)) ?_
  exact Lib.run_eql_slice_nil w' ty e base len cap 0 0 nX
 refine .inl (show Oper.upon P c6 ⟨ej,K.ds⟩ _ _ ((execOp (Act.eval ⟨ej,K.ds⟩) c6).run P w') from(?_))
 rw [hx,Oper.upon_value,wpOps];rcases sb with sb|⟨sb,_⟩
 ·unfold Oper.wp at sb;rw [show(execOp (Act.eval ⟨ej,K.ds⟩) (p5 c6 base.isNone)).run P w' = .ok (.value (.bool base.isNone)) w' from rfl,Oper.upon_value]at sb
  exact sb
 ·exact absurd sb.1 (by intro bz;have:noRoomEvent∈(#[]:Array Event):=bz;cases this with|mk h=>cases h)
end
end Go.Ab

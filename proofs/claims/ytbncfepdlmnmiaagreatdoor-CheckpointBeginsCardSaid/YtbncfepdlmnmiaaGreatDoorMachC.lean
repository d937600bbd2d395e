/- The abstract machine: a step of code over plain data, proved against the model. -/
import Derived.Orders
import Derived.Scope
import Derived.Recover
import Derived.Lib.Builder
import Derived.Lib.UnsafeStr
import Derived.ChangeSame
import Derived.OpenShut
import Derived.ReadAgain
import Derived.Lib.SliceRun
import Derived.Test.YtbncfepdlmnmiaaGreatDoorMachB
set_option linter.all false
namespace Go.Ab
def k9:List Prop→Prop
 |[]=>True
 |p::l=>p∧k9 l
def k9.mem:∀{l:List Prop},k9 l→∀q,q∈l→q
 |[],_,q,h=>by cases h
 |p::l,hp,q,h=>by
  rcases List.mem_cons.1 h with rfl|h
  ·exact hp.1
  ·exact k9.mem hp.2 q h
section
variable {P:Program} {N E:Nat} {st:aI} {tt:dD}
def be.cut{x y:Code}{Q:cq→aI→Prop}(J:aI→Prop)(Z:be P N E x (cq.then J Q) st)(ab:∀b9,J b9→be P N E y Q b9):be P N E (.seq x y) Q st:=
 be.seq (Z.mono λfA b9 h=>by cases fA<;>first|exact ab b9 h|exact h)
def cq.o9{next:aI→Prop}{Q:cq→aI→Prop}(h:next st):cq.then next Q .normal st:=h
def cq.X9{next:aI→Prop}{Q:cq→aI→Prop}{x:V}(h:Q (.bl x) st):cq.then next Q (.bl x) st:=h
def cq.air{Q:cq→aI→Prop}{i:Nat}(h:Q .normal st):cq.inBlock i Q (.exit i) st:=by simpa [cq.inBlock]using h
def cq.ais{Q:cq→aI→Prop}{i j:Nat}(dk:Nat.beq j i=false)(h:Q (.exit j) st):cq.inBlock i Q (.exit j) st:=by
 have:j≠i:=by rintro rfl;simp at dk
 simpa [cq.inBlock,this]using h
def ait {f : FuncId} {fn : Func} {c : Code} {args : List D} {es : List (Nat × TypeId)} {H cH : List (List aW)} {out : Out} (cf : ff P tt = true) (ba : P.funcs[f]? = some fn) (hb : fn.body = some c) (jS : decide (fn.name = "runtime.NumGoroutine") = false)
 (e9:Nat.ble args.length fn.ntmps=true) (h:be P fn.ntmps H.length c (sA tt H.length fn.results.toList λo H'=>o=out∧H'=cH) {env:=h3 args es,H:=cY 0 H,aY:=H.length}):gX P f args es H out cH:=
 q3.of_wp cf ba hb jS e9 h
def aiu{rs:List ResultVar}{out:Out}{cH:List (List aW)}(h:leave tt E rs st=some (out,cH)):sA tt E rs (λo H'=>o=out∧H'=cH) .ret st:=⟨out,cH,.inl h,rfl,rfl⟩
def Oy{rs:List ResultVar}{out:Out}{cH:List (List aW)}(h:leave tt E rs st=some (out,cH)):sA tt E rs (λo H'=>o=out∧H'=cH) .normal st:=⟨out,cH,.inl h,rfl,rfl⟩
def aiv{rs:List ResultVar}{out:Out}{cH:List (List aW)}{c:Nat}(h:sz tt E c rs st=some (out,cH)):sA tt E rs (λo H'=>o=out∧H'=cH) .ret st:=⟨out,cH,.inr ⟨c,h⟩,rfl,rfl⟩
def aiw{rs:List ResultVar}{x:V}{cH:List (List aW)}(h:(GY E st.H).map oq=some cH):sA tt E rs (λo H'=>o = .bl x∧H'=cH) (.bl x) st:=by
 rw [Option.map_eq_some_iff]at h;obtain⟨H',Z,ab⟩:=h;exact⟨H',Z,rfl,ab⟩
end
def ay{α:Type}(b:Bool)(x:Option α):Option α:=bif b then x else none
def sB{α:Type}{b:Bool}{x:Option α}{r:α}(h:ay b x=some r):b=true∧x=some r:=by
 cases b
 ·cases h
 ·exact⟨rfl,h⟩
def bind_some{α β:Type}{x:Option α}{f:α→Option β}{r:β}(h:Option.bind x f=some r):∃a,x=some a∧f a=some r:=Option.bind_eq_some_iff.1 h
def c_{α:Type}{b:Bool}{x y z:α}(hb:b=true)(h:(bif b then x else y)=z):x=z:=by subst hb;exact h
def gN{c x:Bool}(h:(!c||x)=true)(hc:c=true):x=true:=by subst hc;simpa using h
def e7{c x:Bool}(h:(c||x)=true)(hc:c=false):x=true:=by subst hc;simpa using h
def af{α:Type}[Inhabited α](k:Nat)(e:α→V)(l:List α):V:=.bM k l.length λi=>e (l.getD i default)
def ih(x:V):hv x x:=λ_ _ h=>h
def p1{k n:Nat}{g e4:Nat→V}(h:∀i,i<n→g i=e4 i):hv (.bM k n g) (.bM k n e4):=by
 intro M v av;cases av with
 |l7=>exact .l7 _ _
 |oT=>exact .oT _ _ _
 |bM b off k n cap g val hc hk cX Z ai=>
  exact .bM b off k n cap e4 val hc (λi hi=>by rw [←h i hi];exact hk i hi) cX Z (λi j c hi l_=>ai i j c hi (by rw [h i hi];exact l_))
def aix{α:Type}[Inhabited α]{k:Nat}{e:α→V}{xs:List V}{l:List α}(h:xs=l.map e)(n:Nat)(hn:n=l.length):hv (.bM k n λi=>xs.getD i .gU) (af k e l):=by
 subst h;subst hn;refine p1 λi hi=>?_
 simp [List.getD,List.getElem?_eq_getElem hi]
def gn{α:Type}[Inhabited α]{k:Nat}{e:α→V}(l kp:List α):hv (.bM k (l.length+kp.length) λi=>bif Nat.blt i l.length then e (l.getD i default)else e (kp.getD (i-l.length) default)) (af k e (l++kp)):=by
 rw [af,List.length_append];refine p1 λi hi=>?_
 by_cases h:i<l.length
 ·have hb:Nat.blt i l.length=true:=by simpa using h
  simp [hb,List.getD,List.getElem?_append_left h]
 ·have hb:Nat.blt i l.length=false:=by rw [Bool.eq_false_iff];simpa using h
  simp [hb,List.getD,List.getElem?_append_right (Nat.le_of_not_lt h)]
def X'(l:List Int)(s:av3):hv (.bM 1 (l.length+s.length) λi=>bif Nat.blt i l.length then .int .u8 (l.getD i default)else .int .u8 (s.getD (i-l.length) 0).toNat) (af 1 (λx=>.int .u8 x) (l++s.map λb=>(b.toNat:Int))):=by
 have aa:(l++s.map λb=>(b.toNat:Int)).length=l.length+s.length:=by simp
 rw [af,aa];refine p1 λi hi=>?_
 by_cases h:i<l.length
 ·have hb:Nat.blt i l.length=true:=by simpa using h
  simp [hb,List.getD,List.getElem?_append_left h]
 ·have hb:Nat.blt i l.length=false:=by rw [Bool.eq_false_iff];simpa using h
  have ab:i-l.length<s.length:=by omega
  simp [hb,List.getD,List.getElem?_append_right (Nat.le_of_not_lt h),ab]
def aiy{α:Type}[Inhabited α]{k:Nat}{e:α→V}(l:List α)(a:Int):hv (.bM k (l.length-a.toNat) λi=>e (l.getD (a.toNat+i) default)) (af k e (l.drop a.toNat)):=by
 rw [af,List.length_drop];exact p1 λi hi=>by simp [List.getD]
def Oz{α:Type}[Inhabited α]{k:Nat}{e:α→V}(l:List α)(b:Int)(h:0≤b∧b≤l.length):hv (.bM k b.toNat λi=>e (l.getD i default)) (af k e (l.take b.toNat)):=by
 have:(l.take b.toNat).length=b.toNat:=by simp;omega
 rw [af,this];exact p1 λi hi=>by simp [List.getD,hi]
section
variable {P:Program} {N E:Nat} {st b9:aI}
def be.drop{c:Code}{Q:cq→aI→Prop}(live yd:List Nat)(n:Nat)(ai:vk live yd n st.env st.H st.aY=some b9)(b7:Nat.ble E n=true)(h:be P N E c Q b9):be P N E c Q st:=by
 rintro K eg a w ⟨he,hd,eo,M,β,cT⟩
 obtain⟨CA,hs⟩:=cT.vk ai (λr b hb=>Nat.lt_of_lt_of_le (eg r b hb) (by simpa using b7))
 exact h K eg a w ⟨he,hd,eo,M,CA,hs⟩
end
def all_nil:k9 []:=trivial
def all_cons{p:Prop}{l:List Prop}(h:p)(aa:k9 l):k9 (p::l):=⟨h,aa⟩
inductive aG(α β:Type) where
 |ret (a:α) (b:β)
 |bl (x:V) (b:β)
def aG.on{α β dO:Type}(x:aG α β)(f:α→β→dO)(g:V→β→dO):dO:=
 match x with
 |.ret a b=>f a b
 |.bl x b=>g x b
def f8{b:Bool}(h:b=false):(!b)=true:=by subst h;rfl
def yC{a b:Bool}(h:a=true)(ab:b=true):(a&&b)=true:=by subst h;subst ab;rfl
inductive kJ:List V→List V→Prop where
 |nil:kJ [] []
 |cons {x y:V} {xs ys:List V} (h:hv x y) (aa:kJ xs ys):kJ (x::xs) (y::ys)
def kJ.len:∀{xs ys:List V},kJ xs ys→xs.length=ys.length
 |_,_,.nil=>rfl
 |_,_,.cons _ aa=>by simp [aa.len]
def kJ.at:∀{xs ys:List V},kJ xs ys→∀(i:Nat) {y:V},ys[i]? = some y→∃x,xs[i]? = some x∧hv x y
 |_,_,.nil,i,y,h=>by simp at h
 |_,_,.cons h aa,i,y,b6=>by
  cases i with
  |zero=>simp at b6;subst b6;exact⟨_,rfl,h⟩
  |succ i=>simp at b6;simpa using aa.at i b6
def X_{xs ys:List V}(h:kJ xs ys):hv (.agg xs) (.agg ys):=by
 intro M v av;cases av with
 |agg vs cs hn Z ai=>
  refine .agg vs ys (hn.trans h.len) Z (λi v c av hc=>?_)
  obtain⟨x,hx,hi⟩:=h.at i hc;exact hi M v (ai i v x av hx)
def aiz{k n:Nat}{g e4:Nat→V}(h:∀i,i<n→kJ (g i).cells (e4 i).cells):hv (.bM k n g) (.bM k n e4):=by
 intro M v av;cases av with
 |l7=>exact .l7 _ _
 |oT=>exact .oT _ _ _
 |bM b off k n cap g val hc hk cX Z ai=>
  refine .bM b off k n cap e4 val hc (λi hi=>by rw [←(h i hi).len];exact hk i hi) cX Z (λi j c hi l_=>?_)
  obtain⟨x,hx,aiA⟩:=(h i hi).at j l_;exact aiA M _ (ai i j x hi hx)
inductive mf{α:Type}(e:α→V):List V→List α→Prop where
 |nil:mf e [] []
 |cons {x:V} {y:α} {xs:List V} {ys:List α} (h:kJ x.cells (e y).cells) (aa:mf e xs ys):mf e (x::xs) (y::ys)
def mf.len{α:Type}{e:α→V}:∀{xs:List V} {ys:List α},mf e xs ys→xs.length=ys.length
 |_,_,.nil=>rfl
 |_,_,.cons _ aa=>by simp [aa.len]
def mf.at{α:Type}[Inhabited α]{e:α→V}:∀{xs:List V} {ys:List α},mf e xs ys→∀(i:Nat),i<ys.length→kJ (xs.getD i .gU).cells (e (ys.getD i default)).cells
 |_,_,.nil,i,h=>by simp at h
 |_,_,.cons h aa,i,b6=>by
  cases i with
  |zero=>simpa using h
  |succ i=>simpa using aa.at i (by simpa using b6)
def G0{α:Type}[Inhabited α]{k:Nat}{e:α→V}{xs:List V}{l:List α}(h:mf e xs l)(n:Nat)(hn:n=l.length):hv (.bM k n λi=>xs.getD i .gU) (af k e l):=by
 subst hn;exact aiz λi hi=>h.at i hi
section
variable {tt:dD} {g1 g2:dg} {p:Path} {o:Oper} {ops:List Oper} {cm:gH}
def OA{x:Operand}(h:∀t,x = .tmp t→look g1.env t=look g2.env t∧look g1.b5 t=look g2.b5 t)(p:Path)(ty:TypeId):rd g1.env g1.b5 p tt ty x=rd g2.env g2.b5 p tt ty x:=by
 cases x with
 |tmp t=>
  obtain⟨Z,ab⟩:=h t rfl;simp only [rd,Z,ab]
 |const v=>cases v with
  |slice a n c=>cases a<;>cases n<;>cases c<;>rfl
  |_=>rfl
 |global _=>rfl
 |func _=>rfl
def aiB{x:Operand}(h:∀t,x = .tmp t→look g1.env t=look g2.env t):oV g1 x=oV g2 x:=by
 cases x with
 |tmp t=>simp only [oV,h t rfl]
 |_=>rfl
def CB{α β:Type}{f tW:α→Option β}:∀{l:List α},(∀x,x∈l→f x=tW x)→mapM' f l=mapM' tW l
 |[],_=>rfl
 |x::l,h=>by simp only [mapM',h x (by simp),CB (l:=l) λy b6=>h y (by simp [b6])]
def OB{f tW:TypeId→Operand→Option D}:∀{l:List Operand} {ts:List TypeId},(∀x,x∈l→∀t,f t x=tW t x)→l6 f l ts=l6 tW l ts
 |[],_,_=>by simp [l6]
 |x::l,[],_=>by simp [l6]
 |x::l,t::ts,h=>by simp only [l6,h x (by simp) t,OB (l:=l) (ts:=ts) λy b6=>h y (by simp [b6])]
def iY(tt:dD)(g:dg)(p:Path)(o:Oper):List Nat:=
 match o.op with
 |.alloc _ |.box _ _=>match o.dst.bind (look g.ids)with |some id=>[id] |none=>[]
 |.load _ a=>match rd g.env g.b5 p tt o.type a with |some (.ptr q _)=>[q] |_=>[]
 |.store _ a _=>match rd g.env g.b5 p tt o.type a with |some (.ptr q _)=>[q] |_=>[]
 |.call c=>match c.callee with
  |.value x=>match rd g.env g.b5 p tt o.type x,l6 (rd g.env g.b5 p tt) c.args.toList c.argTypes.toList with
   |some (.fn _ fq),some ds=>oW g.H 2 (dedup ((ds++fq).flatMap refs))
   |_,_=>[]
  |_=>[]
 |_=>[]
def G1{x:Nat}:∀{l:List Nat},x∈l→x∈dedup l
 |y::l,h=>by
  simp only [dedup];rw [Bool.cond_eq_ite];split
  ·rename_i b6;rcases List.mem_cons.1 h with rfl|h
   ·obtain⟨z,dG,aiC⟩:=List.any_eq_true.1 b6;have:x=z:=by simpa using aiC
    subst this;exact dG
   ·exact G1 h
  ·rcases List.mem_cons.1 h with rfl|h
   ·simp
   ·exact List.mem_cons_of_mem _ (G1 h)
def Ya{H:List (Nat×List aW)}:∀{n:Nat} {l:List Nat} {x:Nat},x∈l→x∈oW H n l
 | 0,_,_,h=>h
 |n+1,_,_,h=>Ya (n:=n) (G1 (List.mem_append_left _ h))
def Yb{α β:Type}{f tW:α→List β}:∀{l:List α},(∀x,x∈l→f x=tW x)→l.flatMap f=l.flatMap tW
 |[],_=>rfl
 |x::l,h=>by simp only [List.flatMap_cons,h x (by simp),Yb (l:=l) λy b6=>h y (by simp [b6])]
def OC{H1 cH:List (Nat×List aW)}:∀{n:Nat} {l:List Nat},(∀q,q∈oW H1 n l→look H1 q=look cH q)→oW H1 n l=oW cH n l
 | 0,_,_=>rfl
 |n+1,l,h=>by
  simp only [oW]at h ⊢
  have:(l.flatMap λr=>((look H1 r).getD []).flatMap λe=>refs e.d)=l.flatMap λr=>((look cH r).getD []).flatMap λe=>refs e.d:=
   Yb λr ai=>by rw [h r (Ya (G1 (List.mem_append_left _ ai)))]
  rw [←this];exact OC h
def Yc{H1 cH:List (Nat×List aW)}:∀{l:List Nat},(∀q,q∈l→look H1 q=look cH q)→boxes H1 l=boxes cH l
 |[],_=>rfl
 |r::l,h=>by simp only [boxes,h r (by simp),Yc (l:=l) λq au=>h q (by simp [au])]
def Yd{xs:List Operand}{ts:List TypeId}(hs:∀t,Operand.tmp t∈xs→look g1.env t=look g2.env t∧look g1.b5 t=look g2.b5 t):∀os:List Nat,handed tt g1 xs ts os=handed tt g2 xs ts os
 |[]=>rfl
 |i::os=>by
  simp only [handed,Yd hs os];split
  ·rename_i t l hx aa;obtain⟨Z,ab⟩:=hs t (List.mem_of_getElem? hx);rw [Z,ab]
  ·rfl
  ·rfl
def aiD{xs:List Operand}{ts:List TypeId}{f:FuncId}{args:List D}(hs:∀t,Operand.tmp t∈xs→look g1.env t=look g2.env t∧look g1.b5 t=look g2.b5 t)(eI:g1.rs=g2.rs)(eL:∀q,q∈oW g1.H 2 (dedup (args.flatMap refs))→look g1.H q=look g2.H q):x6 cm tt g1 p xs ts f args=x6 cm tt g2 p xs ts f args:=by
 have Z:oW g1.H 2 (dedup (args.flatMap refs))=oW g2.H 2 (dedup (args.flatMap refs)):=OC eL;unfold x6;simp only [←Z,←eI,←Yc eL,←λos=>Yd (tt:=tt) (ts:=ts) hs os]
def q_(o:Oper):Bool:=
 match o.op with
 |.alloc _ |.box _ _=>true
 |_=>false
def Ye(ra:g1.ids=g2.ids)(hn:g1.aY=g2.aY)(eL:∀id,o.dst.bind (look g1.ids)=some id→look g1.H id=look g2.H id):oc g1 o=oc g2 o:=by
 unfold oc;rw [←ra,←hn];split
 ·rename_i id h;rw [eL id h]
 ·rfl
def OD(hs:∀x,x∈o.op.operands.toList→∀t,x = .tmp t→look g1.env t=look g2.env t∧look g1.b5 t=look g2.b5 t)(eI:g1.rs=g2.rs)(ra:g1.ids=g2.ids)
 (hn:q_ o=true→g1.aY=g2.aY) (eL:∀q,q∈iY tt g1 p o→look g1.H q=look g2.H q):step1 cm tt ops g1 p o=step1 cm tt ops g2 p o:=by
 have R:∀x,x∈o.op.operands.toList→∀p ty,rd g1.env g1.b5 p tt ty x=rd g2.env g2.b5 p tt ty x:=λx hx p ty=>OA (hs x hx) p ty
 have O:∀x,x∈o.op.operands.toList→oV g1 x=oV g2 x:=λx hx=>aiB λt aF=>(hs x hx t aF).1
 cases aw:o.op with
 |move x=>simp only [aw,Op.operands]at R O;simp only [step1,aw,R x (by simp),O x (by simp),eI]
 |assign x=>simp only [aw,Op.operands]at R O;simp only [step1,aw,R x (by simp),O x (by simp),eI]
 |pick c a b=>
  simp only [aw,Op.operands]at R O;cases c with
  |tmp c=>simp only [step1,aw,R (.tmp c) (by simp),R a (by simp),R b (by simp),eI]
  |_=>simp only [step1,aw]
 |alloc t=>
  have hi:oc g1 o=oc g2 o:=Ye ra (hn (by simp [q_,aw])) λid hid=>eL id (by simp [iY,aw,hid])
  simp only [step1,aw,eI,hi]
 |box t x=>
  have hi:oc g1 o=oc g2 o:=Ye ra (hn (by simp [q_,aw])) λid hid=>eL id (by simp [iY,aw,hid])
  simp only [aw,Op.operands]at R O;simp only [step1,aw,R x (by simp),eI,hi]
 |build t parts=>
  simp only [aw,Op.operands]at R O
  have:mapM' (fun(i,x)=>(rd g1.env g1.b5 p tt (sh tt t i) x).map λd=>(i,d)) parts.toList=mapM' (fun(i,x)=>(rd g2.env g2.b5 p tt (sh tt t i) x).map λd=>(i,d)) parts.toList:=
   CB λy b6=>by
    obtain⟨i,x⟩:=y;simp only [R x (List.mem_map.2 ⟨(i,x),b6,rfl⟩)]
  simp only [step1,aw,this,eI]
 |buildSlice t len parts=>
  simp only [aw,Op.operands]at R O
  have:mapM' (fun(i,x)=>(rd g1.env g1.b5 p tt (sh tt t i) x).map λd=>(i,d)) parts.toList=mapM' (fun(i,x)=>(rd g2.env g2.b5 p tt (sh tt t i) x).map λd=>(i,d)) parts.toList:=
   CB λy b6=>by
    obtain⟨i,x⟩:=y;simp only [R x (List.mem_map.2 ⟨(i,x),b6,rfl⟩)]
  simp only [step1,aw,this,eI]
 |load t a=>
  simp only [aw,Op.operands]at R O;simp only [iY,aw,R a (by simp)]at eL
  simp only [step1,aw,R a (by simp),eI]
  split
  ·rename_i q off aH ha GM;simp only [ha]at eL;simp only [eL q (by simp)]
  ·rfl
  ·rfl
 |store t a x=>
  simp only [aw,Op.operands]at R O;simp only [iY,aw,R a (by simp)]at eL
  simp only [step1,aw,R a (by simp),R x (by simp),O x (by simp),eI]
  split
  ·rename_i q off d aH ha hd GM;simp only [ha]at eL;simp only [eL q (by simp)]
  ·rfl
 |nilCheck x=>simp only [aw,Op.operands]at R O;simp only [step1,aw,R x (by simp),eI]
 |binOp op t x y t2=>simp only [aw,Op.operands]at R O;simp only [step1,aw,R x (by simp),R y (by simp),eI]
 |unOp op t x=>simp only [aw,Op.operands]at R O;simp only [step1,aw,R x (by simp),eI]
 |convert s t x=>simp only [aw,Op.operands]at R O;simp only [step1,aw,R x (by simp),eI]
 |makeInterface t x=>simp only [aw,Op.operands]at R O;simp only [step1,aw,R x (by simp),eI]
 |makeFunc fn first fq=>
  simp only [aw,Op.operands]at R O;cases fn with
  |func f=>
   have:mapM' (rd g1.env g1.b5 p tt o.type) fq.toList=mapM' (rd g2.env g2.b5 p tt o.type) fq.toList:=CB λx hx=>R x (by rw [Array.toList_append];exact List.mem_append_right _ hx) _ _
   simp only [step1,aw,this,eI]
  |_=>simp only [step1,aw]
 |slice t x lo hi kf=>
  simp only [aw,Op.operands]at R O
  have kq:lo.map (rd g1.env g1.b5 p tt o.type)=lo.map (rd g2.env g2.b5 p tt o.type):=by
   cases lo with
   |none=>rfl
   |some l=>simp [R l (by simp)]
  have jC:hi.map (rd g1.env g1.b5 p tt o.type)=hi.map (rd g2.env g2.b5 p tt o.type):=by
   cases hi with
   |none=>rfl
   |some l=>simp [R l (by simp)]
  have OE:kf.map (rd g1.env g1.b5 p tt o.type)=kf.map (rd g2.env g2.b5 p tt o.type):=by
   cases kf with
   |none=>rfl
   |some m=>simp [R m (by simp)]
  simp only [step1,aw,R x (by simp),kq,jC,OE,eI]
 |fieldAddr s x f=>simp only [aw,Op.operands]at R O;simp only [step1,aw,R x (by simp),eI]
 |field s x f=>simp only [aw,Op.operands]at R O;simp only [step1,aw,R x (by simp),eI]
 |indexAddr t x i=>simp only [aw,Op.operands]at R O;simp only [step1,aw,R x (by simp),R i (by simp),eI]
 |index t x i=>simp only [aw,Op.operands]at R O;simp only [step1,aw,R x (by simp),R i (by simp),eI]
 |typeAssert x a t ok=>simp only [aw,Op.operands]at R O;simp only [step1,aw,R x (by simp),eI]
 |extract x i=>simp only [aw,Op.operands]at R O;simp only [step1,aw,R x (by simp),eI]
 |panic x=>simp only [aw,Op.operands]at R O;simp only [step1,aw,R x (by simp)]
 |call c=>
  simp only [aw,Op.operands,Call.operands]at R O hs;cases hc:c.callee with
  |value x=>
   have hx:=R x (by simp [hc])
   have ha:l6 (rd g1.env g1.b5 p tt) c.args.toList c.argTypes.toList=l6 (rd g2.env g2.b5 p tt) c.args.toList c.argTypes.toList:=OB λy b6 t=>R y (by rw [Array.toList_append];exact List.mem_append_right _ b6) p t
   simp only [iY,aw,hc,hx,ha]at eL;simp only [step1,aw,hc,hx,ha];split
   ·rename_i f fq ds Z ab;simp only [Z,ab]at eL;exact aiD (λt aF=>hs (.tmp t) (by rw [Array.toList_append];exact List.mem_append_right _ aF) t rfl) eI eL
   ·rfl
  |invoke x m=>simp only [step1,aw,hc]
  |builtin b=>
   have ha:mapM' (λy=>rd g1.env g1.b5 p tt o.type y) c.args.toList=mapM' (λy=>rd g2.env g2.b5 p tt o.type y) c.args.toList:=CB λx hx=>R x (by rw [Array.toList_append];exact List.mem_append_right _ hx) _ _
   cases b with
   |len=>simp only [step1,aw,hc,ha,eI]
   |min=>simp only [step1,aw,hc,ha,eI]
   |max=>simp only [step1,aw,hc,ha,eI]
   |append=>
    simp only [step1,aw,hc,eI];split
    ·rename_i t x e fZ aux auy _ t2 aa _ _;have hm:∀y,y∈[Operand.tmp t,x]→y∈(match c.callee with|.value f => #[f] |.invoke r _ => #[r] |.builtin _ => #[]:Array Operand).toList++c.args.toList:=λy b6=>by rw [aa];exact List.mem_append_right _ b6
     have kr:∀y,y∈[Operand.tmp t,x]→y∈((match c.callee with|.value f => #[f] |.invoke r _ => #[r] |.builtin _ => #[]:Array Operand)++c.args).toList:=λy b6=>by rw [Array.toList_append];exact hm y b6
     simp only [R (.tmp t) (kr _ (by simp)),R x (kr _ (by simp)),(hs (.tmp t) (kr _ (by simp)) t rfl).1]
    ·rfl
   |_=>simp only [step1,aw,hc]
 |_=>simp only [step1,aw]
end
structure eA where
 dst:Option Nat
 p:Path
 f:lw
 kt:List Nat
 nA:List Nat
 p2:Bool
 rs:List fu
 kd:Nat:=0
 v7:V:=.gU
 p3:List (Nat×List aW):=[]
 tX:List (Nat×List aW):=[]
 ot:Nat:=0
def p4(ops:List Oper)(o:Oper):List Nat:=
 (o.op.operands.toList.filterMap fun|.tmp t=>some t|_=>none)++(match o.guard with
  |some (j,_)=>((ops[j]?).bind (·.dst)).toList
  |none=>[])
def eE(E:eA)(g:dg):dg:=
 match E.dst with
 |none=>{g with env:=gW E.f.hy g.env,H:=E.f.hs++g.H,aY:=g.aY+E.f.eU}
 |some t=>match E.p with
  |[]=>{g with
   env:=match E.f.e with|some e=>(t,e)::gW E.f.hy g.env|none=>del (gW E.f.hy g.env) t
   b5:=del g.b5 t,H:=E.f.hs++g.H,aY:=g.aY+E.f.eU}
  |_::_=>match E.f.e with
   |some e=>{g with env:=del g.env t,b5:=(t,E.p,e.d)::del g.b5 t}
   |none=>g
def ou(E:eA):List Nat:=E.dst.toList++E.f.hy
def o_(E:eA):List Nat:=E.f.hs.map (·.1)
def yD{α:Type}:∀(a b:List (Nat×α)) (q:Nat),look (a++b) q=(match look a q with|some x=>some x|none=>look b q)
 |[],_,_=>rfl
 |(j,x)::a,b,q=>by
  simp only [List.cons_append,dy,yD a b q];by_cases h:j=q<;>simp [h]
def Yf{α:Type}:∀{a:List (Nat×α)} {q:Nat},q∉a.map (·.1)→look a q=none
 |[],_,_=>rfl
 |(j,x)::a,q,h=>by
  simp only [List.map_cons,List.mem_cons,not_or]at h;rw [dy,if_neg (Ne.symm h.1)];exact Yf h.2
section
variable {E:eA} {g g1 g2:dg}
def m8(g1 g2:dg)(t:Nat):Prop:=look g1.env t=look g2.env t∧look g1.b5 t=look g2.b5 t
def v8(g1 g2:dg)(q:Nat):Prop:=look g1.H q=look g2.H q
def v'{t:Nat}(h:t∉ou E):m8 (eE E g) g t:=by
 simp only [ou,List.mem_append,not_or]at h;unfold m8 eE;cases hd:E.dst with
 |none=>simp only [nu,if_neg h.2,and_self]
 |some u=>
  have hu:u≠t:=by rintro rfl;simp [hd]at h
  cases hp:E.p with
  |nil=>
   dsimp only
   cases he:E.f.e with
   |some e=>simp only [dy,if_neg hu,nu,if_neg h.2,qR,and_self]
   |none=>simp only [nu,if_neg h.2,qR,if_neg hu,and_self]
  |cons x p=>
   dsimp only
   cases he:E.f.e with
   |some e=>simp only [dy,if_neg hu,qR,and_self]
   |none=>exact⟨rfl,rfl⟩
def OF{t:Nat}(h:m8 g1 g2 t):m8 (eE E g1) (eE E g2) t:=by
 obtain⟨Z,ab⟩:=h;unfold m8 eE;cases hd:E.dst with
 |none=>simp only [nu,Z,ab,and_self]
 |some u=>
  cases hp:E.p with
  |nil=>
   dsimp only
   cases he:E.f.e with
   |some e=>simp only [dy,nu,Z,ab,qR,and_self]
   |none=>simp only [nu,qR,Z,ab,and_self]
  |cons x p=>
   dsimp only
   cases he:E.f.e with
   |some e=>simp only [dy,qR,Z,ab,and_self]
   |none=>exact⟨Z,ab⟩
def OG:(eE E g).H=E.f.hs++g.H∨(eE E g).H=g.H:=by
 unfold eE;cases E.dst with
 |none=>exact .inl rfl
 |some u=>
  cases E.p with
  |nil=>exact .inl rfl
  |cons x p=>dsimp only;cases E.f.e<;>exact .inr rfl
def yE{q:Nat}(h:q∉o_ E):v8 (eE E g) g q:=by
 unfold v8;rcases OG (E:=E) (g:=g)with Z|Z<;>rw [Z]
 rw [yD,Yf h]
def OH{q:Nat}(h:v8 g1 g2 q):v8 (eE E g1) (eE E g2) q:=by
 unfold v8 at *;unfold eE;cases E.dst with
 |none=>simp only [yD,h]
 |some u=>
  cases E.p with
  |nil=>simp only [yD,h]
  |cons x p=>dsimp only;cases E.f.e<;>exact h
def yF(E:eA):Nat:=
 match E.dst with
 |none=>E.f.eU
 |some _=>match E.p with
  |[]=>E.f.eU
  |_::_=>0
def G2:(eE E g).aY=g.aY+yF E:=by
 unfold eE yF;cases E.dst with
 |none=>rfl
 |some u=>
  cases E.p with
  |nil=>rfl
  |cons x p=>dsimp only;cases E.f.e<;>rfl
structure Alike(g1 g2:dg):Prop where
 slot:∀t,m8 g1 g2 t
 box:∀q,v8 g1 g2 q
 aY:g1.aY=g2.aY
 ids:g1.ids=g2.ids
def G3:(eE E g).ids=g.ids:=by
 unfold eE;cases E.dst with
 |none=>rfl
 |some u=>
  cases E.p with
  |nil=>rfl
  |cons x p=>dsimp only;cases E.f.e<;>rfl
def Alike.refl:Alike g g:=⟨λ_=>⟨rfl,rfl⟩,λ_=>rfl,rfl,rfl⟩
def Alike.symm(h:Alike g1 g2):Alike g2 g1:=⟨λt=>⟨(h.slot t).1.symm,(h.slot t).2.symm⟩,λq=>(h.box q).symm,h.aY.symm,h.ids.symm⟩
def Alike.trans{g3:dg}(h:Alike g1 g2)(cS:Alike g2 g3):Alike g1 g3:=⟨λt=>⟨(h.slot t).1.trans (cS.slot t).1,(h.slot t).2.trans (cS.slot t).2⟩,λq=>(h.box q).trans (cS.box q),h.aY.trans cS.aY,h.ids.trans cS.ids⟩
def Alike.ap(h:Alike g1 g2):Alike (eE E g1) (eE E g2):=
 ⟨λt=>OF (h.slot t),λq=>OH (h.box q),(by simp only [G2,h.aY]),by simp only [G3,h.ids]⟩
def sep(a b:List Nat):Bool:=a.all λx=>!b.any (Nat.beq x)
def v_{a b:List Nat}(h:sep a b=true){x:Nat}(ha:x∈a):x∉b:=by
 intro hb;have:=List.all_eq_true.1 h x ha
 simp only [Bool.not_eq_true',List.any_eq_false]at this;exact this x hb (by simp)
def CC(E dm:eA):Bool:=
 sep (ou E) dm.nA&&sep (ou E) (ou dm)&&sep (ou dm) E.nA&&(sep (o_ E) dm.kt||Nat.beq E.ot 2&&Nat.beq dm.ot 1)&&sep (o_ E) (o_ dm)&&(sep (o_ dm) E.kt||Nat.beq dm.ot 2&&Nat.beq E.ot 1)&&(!E.p2||Nat.beq (yF dm) 0)&&(!dm.p2||Nat.beq (yF E) 0)
def aiE{E dm:eA}(Z:sep (ou E) (ou dm)=true)(ab:sep (o_ E) (o_ dm)=true):Alike (eE E (eE dm g)) (eE dm (eE E g)):=by
 refine⟨λt=>?_,λq=>?_,?_,by simp only [G3]⟩
 ·by_cases aF:t∈ou E
  ·have eO:=v_ Z aF;have a:m8 (eE E (eE dm g)) (eE E g) t:=OF (v' eO);have b:m8 (eE dm (eE E g)) (eE E g) t:=v' eO;exact⟨a.1.trans b.1.symm,a.2.trans b.2.symm⟩
  ·have a:m8 (eE E (eE dm g)) (eE dm g) t:=v' aF;have b:m8 (eE dm (eE E g)) (eE dm g) t:=OF (v' aF);exact⟨a.1.trans b.1.symm,a.2.trans b.2.symm⟩
 ·by_cases aF:q∈o_ E
  ·have eO:=v_ ab aF;exact(OH (E:=E) (yE (E:=dm) (g:=g) eO)).trans (yE (E:=dm) (g:=eE E g) eO).symm
  ·exact(yE (E:=E) (g:=eE dm g) aF).trans (OH (E:=dm) (yE (E:=E) (g:=g) aF)).symm
 ·simp only [G2];omega
end
section
variable {tt:dD} {ops:List Oper} {cm:gH} {o:Oper} {E:eA} {g g1 g2:dg}
def Yg(h:∀t,t∈p4 ops o→m8 g1 g2 t):pQ ops g1 o=pQ ops g2 o:=by
 unfold pQ;split
 ·rfl
 ·rename_i j w hg;cases aF:(ops[j]?).bind (·.dst) with
  |none=>rfl
  |some t=>
   have:=h t (by simp [p4,hg,aF])
   simp only [this.1,this.2]
def G4:∀{p:Path} {q:Prop},(∀x,x∈p→m8 g1 g2 x.1)→under g1 p q=under g2 p q
 |[],_,_=>rfl
 |(t,w)::p,q,h=>by
  have aF:=h (t,w) (by simp)
  have aJ:=G4 (p:=p) (q:=q) λx hx=>h x (by simp [hx])
  have:BV g1.env g1.b5 t=BV g2.env g2.b5 t:=by unfold BV;rw [aF.1,aF.2]
  simp only [under,this,aJ]
def aiF{p:Path}(hs:∀x,x∈o.op.operands.toList→∀t,x = .tmp t→look g1.env t=look g2.env t∧look g1.b5 t=look g2.b5 t)(ra:g1.ids=g2.ids)(eL:∀q,q∈iY tt g1 p o→look g1.H q=look g2.H q):iY tt g1 p o=iY tt g2 p o:=by
 have R:∀x,x∈o.op.operands.toList→∀p ty,rd g1.env g1.b5 p tt ty x=rd g2.env g2.b5 p tt ty x:=λx hx p ty=>OA (hs x hx) p ty
 cases aw:o.op with
 |alloc t=>simp only [iY,aw,ra]
 |box t x=>simp only [iY,aw,ra]
 |load t a=>simp only [aw,Op.operands]at R;simp only [iY,aw,R a (by simp)]
 |store t a x=>simp only [aw,Op.operands]at R;simp only [iY,aw,R a (by simp)]
 |call c=>
  simp only [aw,Op.operands,Call.operands]at R;cases hc:c.callee with
  |value x=>
   have hx:=R x (by simp [hc])
   have ha:l6 (rd g1.env g1.b5 p tt) c.args.toList c.argTypes.toList=l6 (rd g2.env g2.b5 p tt) c.args.toList c.argTypes.toList:=OB λy b6 t=>R y (by rw [Array.toList_append];exact List.mem_append_right _ b6) p t
   simp only [iY,aw,hc,hx,ha]at eL ⊢;split
   ·rename_i f fq ds Z ab;simp only [Z,ab]at eL;exact OC eL
   ·rfl
  |_=>simp only [iY,aw,hc]
 |_=>simp only [iY,aw]
structure OI(cm:gH)(tt:dD)(ops:List Oper)(o:Oper)(E:eA)(g:dg):Prop where
 G5:pQ ops g o=some E.p
 st:step1 cm tt ops {g with rs:=E.rs} E.p o=some (bif Nat.beq E.kd 0 then .go E.f else .bl E.v7 E.p3 E.f.a')
 a':∀q,q∈E.f.a'→under g E.p q
 kt:∀q,q∈iY tt g E.p o→q∈E.kt
 fin:E.kd=1→∀q,q∈E.kt→look g.H q=look E.tX q
def Can(cm:gH)(tt:dD)(ops:List Oper)(o:Oper)(E:eA)(g:dg):Prop:=E.kd=2∨OI cm tt ops o E g
def Can.congr(h:Can cm tt ops o E g1)(wa:∀t,t∈p4 ops o++E.p.map (·.1)→t∈E.nA)(qZ:q_ o=E.p2)(hs:∀t,t∈E.nA→m8 g1 g2 t)(hb:∀q,q∈E.kt→v8 g1 g2 q)(hn:E.p2=true→g1.aY=g2.aY)(ra:g1.ids=g2.ids):Can cm tt ops o E g2:=by
 rcases h with h|h
 ·exact .inl h
 right
 have d':∀x,x∈o.op.operands.toList→∀t,x = .tmp t→look g1.env t=look g2.env t∧look g1.b5 t=look g2.b5 t:=by
  rintro x hx t rfl
  exact hs t (wa t (List.mem_append_left _ (by simp only [p4,List.mem_append,List.mem_filterMap];exact .inl ⟨_,hx,rfl⟩)))
 have me:iY tt g1 E.p o=iY tt g2 E.p o:=aiF d' ra (λq au=>hb q (h.kt q au))
 refine⟨?_,?_,λq au=>?_,(by rw [←me];exact h.kt),λhk q au=>(hb q au).symm.trans (h.fin hk q au)⟩
 ·rw [←Yg (g1:=g1) (g2:=g2) λt aF=>hs t (wa t (List.mem_append_left _ aF))];exact h.G5
 ·rw [←h.st];refine(OD (g1:={g1 with rs:=E.rs}) (g2:={g2 with rs:=E.rs}) d' rfl ra (λhm=>hn (by rw [←qZ];exact hm)) (λq au=>hb q ?_)).symm
  exact h.kt q au
 ·rw [←G4 (g1:=g1) (g2:=g2) λx hx=>hs x.1 (wa _ (List.mem_append_right _ (List.mem_map.2 ⟨x,hx,rfl⟩)))]
  exact h.a' q au
def wb(o:Oper)(rs:List fu):Nat:=
 match o.op with
 |.load _ _=>match rs with
  |.own::_=>2
  |.marks _::_=>0
  |_=>1
 |_=>0
def tY(g1 g2:dg)(q:Nat):Prop:=(look g1.H q).map (·.map (·.d))=(look g2.H q).map (·.map (·.d))
def Yh:∀(cs:List aW) (off:Nat) (e:aW),cs[off]? = some e→(setAt cs off [{d:=e.d}]).map (·.d)=cs.map (·.d)
 |[],off,e,h=>by simp at h
 |c::cs,0,e,h=>by
  simp only [List.getElem?_cons_zero,Option.some.injEq]at h;subst h;simp [setAt]
 |c::cs,off+1,e,h=>by
  simp only [List.getElem?_cons_succ]at h;simp only [setAt,List.map_cons,Yh cs off e h]
def aiG(h:OI cm tt ops o E g)(aa:wb o E.rs=2)(hk:E.kd=0)(q:Nat):tY (eE E g) g q:=by
 have dE:=h.st;rw [hk]at dE;unfold wb at aa;split at aa
 case h_2=>cases aa
 rename_i t a aw;simp only [step1,aw,show Nat.beq 0 0=true from rfl,cond_true]at dE
 have nil:E.f.hs=[]→tY (eE E g) g q:=by
  intro bm;unfold tY;rcases OG (E:=E) (g:=g)with Z|Z<;>rw [Z]
  rw [bm];rfl
 split at dE
 ·rename_i aiH off aH ai cO;split at dE
  ·rename_i cs ei;rw [Bool.cond_eq_ite]at dE;split at dE
   ·rw [Bool.cond_eq_ite]at dE;split at dE
    ·split at dE
     ·rename_i eI;rw [eI]at aa;cases aa
     ·simp only [Option.map_some,Option.some.injEq,ob.go.injEq]at dE;exact nil (by rw [←dE])
    ·cases dE
   ·split at dE
    ·rename_i e he;split at dE
     ·rw [Bool.cond_eq_ite]at dE;split at dE
      ·simp only [Option.some.injEq,ob.go.injEq]at dE;unfold tY;rcases OG (E:=E) (g:=g)with Z|Z<;>rw [Z]
       rw [←dE];simp only [List.cons_append,List.nil_append,dy];split
       ·rename_i au;subst au;rw [ei];simp only [Option.map_some,Yh cs off e he]
       ·rfl
      ·cases dE
     ·simp only [Option.map_some,Option.some.injEq,ob.go.injEq]at dE;exact nil (by rw [←dE])
    ·cases dE
  ·cases dE
 ·rename_i x aH ai cO;rw [Bool.cond_eq_ite]at dE;split at dE
  ·simp only [Option.map_some,Option.some.injEq,ob.go.injEq]at dE;exact nil (by rw [←dE])
  ·cases dE
 ·cases dE
def aiI{p:Path}{rs:List fu}{t:TypeId}{a:Operand}(aw:o.op = .load t a)(eI:∀l,rs ≠ .own::l)(G6:∀c l,rs ≠ .marks c::l)(R:rd g1.env g1.b5 p tt o.type a=rd g2.env g2.b5 p tt o.type a)(aiJ:∀q off,rd g2.env g2.b5 p tt o.type a=some (.ptr q off)→tY g1 g2 q):
 step1 cm tt ops {g1 with rs:=rs} p o=step1 cm tt ops {g2 with rs:=rs} p o:=by
 simp only [step1,aw,R];split
 ·rename_i q off aH ai cO;have hd:=aiJ q off ai;unfold tY at hd;cases Z:look g1.H q with
  |none=>
   rw [Z]at hd;cases ab:look g2.H q with
   |none=>rfl
   |some c2=>rw [ab]at hd;cases hd
  |some c1=>
   rw [Z]at hd;cases ab:look g2.H q with
   |none=>rw [ab]at hd;cases hd
   |some c2=>
    rw [ab]at hd;simp only [Option.map_some,Option.some.injEq]at hd;have hlen:c1.length=c2.length:=by have:=congrArg List.length hd;simpa using this
    have aiK:((c1.drop off).take aH.size).map (·.d)=((c2.drop off).take aH.size).map (·.d):=by rw [List.map_take,List.map_drop,hd,←List.map_drop,←List.map_take]
    have iV:(c1[off]?).map (·.d)=(c2[off]?).map (·.d):=by rw [←List.getElem?_map,hd,List.getElem?_map]
    simp only [hlen,aiK];cases aH.k.isAgg with
    |true=>
     cases rs with
     |nil=>rfl
     |cons x l=>
      cases x with
      |marks=>exact absurd rfl (G6 _ l)
      |_=>rfl
    |false=>
     simp only [cond_false];cases Yi:c1[off]? with
     |none=>
      rw [Yi]at iV;cases G7:c2[off]? with
      |none=>rfl
      |some e2=>rw [G7]at iV;cases iV
     |some e1=>
      rw [Yi]at iV;cases G7:c2[off]? with
      |none=>rw [G7]at iV;cases iV
      |some e2=>
       rw [G7]at iV;simp only [Option.map_some,Option.some.injEq]at iV;cases rs with
       |nil=>cases e1.own<;>cases e2.own<;>simp [iV]
       |cons r l=>
        cases r with
        |own=>exact absurd rfl (eI l)
        |val x=>cases e1.own<;>cases e2.own<;>simp [iV]
        |raw=>cases e1.own<;>cases e2.own<;>simp [iV]
        |marks=>exact absurd rfl (G6 _ l)
        |call u v z=>cases e1.own<;>cases e2.own<;>simp [iV]
 ·rfl
 ·rfl
def Can.Yj(h:Can cm tt ops o E g1)(aa:wb o E.rs=1)(hk:E.kd=0)(wa:∀t,t∈p4 ops o++E.p.map (·.1)→t∈E.nA)(hs:∀t,t∈E.nA→m8 g1 g2 t)(hb:∀q,tY g1 g2 q):Can cm tt ops o E g2:=by
 rcases h with h|h
 ·exact .inl h
 right
 have d':∀x,x∈o.op.operands.toList→∀t,x = .tmp t→look g1.env t=look g2.env t∧look g1.b5 t=look g2.b5 t:=by
  rintro x hx t rfl
  exact hs t (wa t (List.mem_append_left _ (by simp only [p4,List.mem_append,List.mem_filterMap];exact .inl ⟨_,hx,rfl⟩)))
 unfold wb at aa;split at aa
 case h_2=>cases aa
 rename_i t a aw
 have eI:∀l,E.rs ≠ .own::l:=by
  intro l e;rw [e]at aa;cases aa
 have G6:∀c l,E.rs ≠ .marks c::l:=by
  intro c l e;rw [e]at aa;cases aa
 have R:rd g1.env g1.b5 E.p tt o.type a=rd g2.env g2.b5 E.p tt o.type a:=OA (d' a (by simp [aw,Op.operands])) _ _
 have me:iY tt g1 E.p o=iY tt g2 E.p o:=by simp only [iY,aw,R]
 refine⟨?_,?_,λq au=>?_,(by rw [←me];exact h.kt),λsy=>by rw [hk]at sy;cases sy⟩
 ·rw [←Yg (g1:=g1) (g2:=g2) λt aF=>hs t (wa t (List.mem_append_left _ aF))];exact h.G5
 ·rw [←h.st];exact(aiI aw eI G6 R λq off _=>hb q).symm
 ·rw [←G4 (g1:=g1) (g2:=g2) λx hx=>hs x.1 (wa _ (List.mem_append_right _ (List.mem_map.2 ⟨x,hx,rfl⟩)))]
  exact h.a' q au
end
def gO(ops:List Oper)(o:Oper)(E:eA):Bool:=aiL (p4 ops o++E.p.map (·.1)) E.nA&&(q_ o == E.p2)&&decide (E.dst=o.dst)&&(match E.f.rs with|[]=>true|_=>false)&&(Nat.beq E.ot 0||Nat.beq E.ot (wb o E.rs)&&Nat.beq E.kd 0)
where aiL (a b:List Nat):Bool:=a.all λx=>b.any (Nat.beq x)
def G8{ops:List Oper}{o:Oper}{E:eA}(h:gO ops o E=true):(∀t,t∈p4 ops o++E.p.map (·.1)→t∈E.nA)∧q_ o=E.p2∧E.dst=o.dst∧E.f.rs=[]:=by
 simp only [gO,Bool.and_eq_true,beq_iff_eq,decide_eq_true_eq]at h;obtain⟨⟨⟨⟨Z,ab⟩,aj⟩,aD⟩,_⟩:=h;refine⟨λt aF=>?_,ab,aj,?_⟩
 ·obtain⟨y,b6,hl⟩:=List.any_eq_true.1 (List.all_eq_true.1 Z t aF);have:t=y:=by simpa using hl
  rw [this];exact b6
 ·split at aD
  ·assumption
  ·cases aD
def waits(ops:List Oper)(i:Nat):Nat→Nat→Bool
 | 0,_=>false
 |n+1,j=>match ops[j]? with
  |some o=>o.after.toList.any λe=>Region.binds .any e&&(Nat.beq e.on i||waits ops i n e.on)
  |none=>false
def ov(opsA:Array Oper)(listed:Array Bool):Prop:=∀(j:Nat) o,opsA[j]? = some o→listed.getD j false=true→∀e,e∈o.after→Region.binds .any e=true→listed.getD e.on false=true
def G9{opsA:Array Oper}{listed:Array Bool}(hc:ov opsA listed){i:Nat}:∀{n j:Nat},waits opsA.toList i n j=true→listed.getD j false=true→listed.getD i false=true
 | 0,_,h,_=>by simp [waits]at h
 |n+1,j,h,hj=>by
  simp only [waits]at h;split at h
  ·rename_i o aw;obtain⟨e,he,hb⟩:=List.any_eq_true.1 h;simp only [Bool.and_eq_true,Bool.or_eq_true,Nat.beq_eq]at hb;have Z:=hc j o (by simpa using aw) hj e (by simpa using he) hb.1
   rcases hb.2 with rfl|ab
   ·exact Z
   ·exact G9 hc ab Z
  ·cases h
def ov.set{opsA:Array Oper}{listed:Array Bool}(hc:ov opsA listed){i:Nat}(ai:i∈Region.ready .any opsA listed):ov opsA (listed.setIfInBounds i true):=by
 intro j o aw hj e he hb;by_cases p5:i=j
 ·subst p5;obtain⟨_,o',k3,mv⟩:=mem_ready.1 ai;rw [aw]at k3;cases k3;exact getD_set_true (mv e he hb)
 ·rw [getD_set_ne false p5]at hj;exact getD_set_true (hc j o aw hj e he hb)
section
variable {cm:gH} {tt:dD} {opsA:Array Oper} {cK:List eA} {Fi:dg→Prop} {g g1 g2:dg}
def jD(cm:gH)(tt:dD)(opsA:Array Oper)(cK:List eA)(Fi:dg→Prop):Nat→Array Bool→dg→Prop
 | 0,listed,g=>Region.ready .any opsA listed=[]∧Fi g
 |n+1,listed,g=>(Region.ready .any opsA listed=[]→Fi g)∧∀i,i∈Region.ready .any opsA listed→∃o E,opsA[i]? = some o∧cK[i]? = some E∧Can cm tt opsA.toList o E g∧
  jD cm tt opsA cK Fi n (listed.setIfInBounds i true) (eE E g)
def jD.alike(cP:∀(i:Nat) o E,opsA[i]? = some o→cK[i]? = some E→gO opsA.toList o E=true)(dF:∀g1 g2,Alike g1 g2→Fi g1→Fi g2):∀{n:Nat} {listed:Array Bool} {g1 g2:dg},Alike g1 g2→jD cm tt opsA cK Fi n listed g1→jD cm tt opsA cK Fi n listed g2
 | 0,_,_,_,ha,h=>⟨h.1,dF _ _ ha h.2⟩
 |n+1,_,_,_,ha,h=>⟨λai=>dF _ _ ha (h.1 ai),λi hi=>by
  obtain⟨o,E,aw,b7,jU,hn⟩:=h.2 i hi;obtain⟨dt,ak,_,_⟩:=G8 (cP i o E aw b7);exact⟨o,E,aw,b7,jU.congr dt ak (λt _=>ha.slot t) (λq _=>ha.box q) (λ_=>ha.aY) ha.ids,jD.alike cP dF ha.ap hn⟩⟩
def CD{ops:List Oper}{o:Oper}{E:eA}{n:Nat}(h:gO ops o E=true)(aa:E.ot=n+1):wb o E.rs=n+1∧E.kd=0:=by
 simp only [gO,Bool.and_eq_true,Bool.or_eq_true,Nat.beq_eq]at h;rcases h.2 with h|h
 ·rw [aa]at h;cases h
 ·exact⟨h.1.symm.trans aa,h.2⟩
def Can.data{cm:gH}{tt:dD}{ops:List Oper}{o:Oper}{E:eA}{g:dg}(h:Can cm tt ops o E g)(cP:gO ops o E=true)(aa:E.ot=2)(q:Nat):tY (eE E g) g q:=by
 obtain⟨Z,ab⟩:=CD cP aa;rcases h with h|h
 ·rw [ab]at h;cases h
 ·exact aiG h Z ab q
def aiM{E dm:eA}(h:CC E dm=true):sep (ou E) dm.nA=true∧sep (ou E) (ou dm)=true∧sep (ou dm) E.nA=true∧(sep (o_ E) dm.kt=true∨E.ot=2∧dm.ot=1)∧sep (o_ E) (o_ dm)=true∧(sep (o_ dm) E.kt=true∨dm.ot=2∧E.ot=1)∧(E.p2=true→yF dm=0)∧(dm.p2=true→yF E=0):=by
 simp only [CC,Bool.and_eq_true,Bool.or_eq_true,Bool.not_eq_true',Nat.beq_eq]at h;obtain⟨⟨⟨⟨⟨⟨⟨Z,ab⟩,aj⟩,aD⟩,aX⟩,bW⟩,cZ⟩,dr⟩:=h;exact⟨Z,ab,aj,aD,aX,bW,λhm=>cZ.resolve_left (by simp [hm]),λhm=>dr.resolve_left (by simp [hm])⟩
def jD.first(cP:∀(i:Nat) o E,opsA[i]? = some o→cK[i]? = some E→gO opsA.toList o E=true)(dF:∀g1 g2,Alike g1 g2→Fi g1→Fi g2){i:Nat}{o:Oper}{E:eA}(hi:opsA[i]? = some o)(b7:cK[i]? = some E):
 ∀(fuel:Nat) (listed:Array Bool) (g:dg),
  (∀(j:Nat) p6 mz,opsA[j]? = some p6→cK[j]? = some mz→j≠i→listed.getD j true=false→waits opsA.toList i 3 j=false→CC E mz=true)→ov opsA listed→
  i∈Region.ready .any opsA listed→Can cm tt opsA.toList o E g→jD cm tt opsA cK Fi fuel (listed.setIfInBounds i true) (eE E g)→jD cm tt opsA cK Fi (fuel+1) listed g:=by
 intro fuel;induction fuel with
 |zero=>
  intro listed g _ _ ai jU H;refine⟨λh=>(by rw [h]at ai;cases ai),λj hj=>?_⟩
  by_cases p5:j=i
  ·subst p5;exact⟨o,E,hi,b7,jU,H⟩
  ·have:=ready_mono hj p5
   rw [H.1]at this;cases this
 |succ fuel aJ=>
  intro listed g kF gM ai jU H;refine⟨λh=>(by rw [h]at ai;cases ai),λj hj=>?_⟩
  by_cases p5:j=i
  ·subst p5;exact⟨o,E,hi,b7,jU,H⟩
  obtain⟨p6,mz,p7,tZ,Yk,aiN⟩:=H.2 j (ready_mono hj p5);obtain⟨Yl,auz,Ym,mv⟩:=mem_ready.1 hj;rw [p7]at Ym;cases Ym
  have ow:listed.getD i false=false:=by
   have h0:=(mem_ready.1 ai).1;rcases Nat.lt_or_ge i listed.size with cS|cS
   ·simpa [Array.getD_eq_getD_getElem?,cS]using h0
   ·simp [Array.getD_eq_getD_getElem?,Array.getElem?_eq_none cS]
  have aiO:waits opsA.toList i 3 j=false:=by
   rw [Bool.eq_false_iff];intro hw;rw [waits]at hw;have aa:opsA.toList[j]? = some p6:=by simpa using p7
   simp only [aa]at hw;obtain⟨e,he,hb⟩:=List.any_eq_true.1 hw;simp only [Bool.and_eq_true,Bool.or_eq_true,Nat.beq_eq]at hb;have Z:=mv e (by simpa using he) hb.1
   rcases hb.2 with rfl|ab
   ·rw [ow]at Z;cases Z
   ·rw [G9 gM ab Z]at ow;cases ow
  obtain⟨d1,d2,d3,d4,d5,d6,d7,d8⟩:=aiM (kF j p6 mz p7 tZ p5 Yl aiO);obtain⟨dt,ak,_,_⟩:=G8 (cP i o E hi b7);obtain⟨hL,kp,_,_⟩:=G8 (cP j p6 mz p7 tZ)
  have c1:Can cm tt opsA.toList p6 mz g:=by
   rcases d4 with d4|⟨e1,e2⟩
   ·exact Yk.congr hL kp (λt aF=>v' λhw=>v_ d1 hw aF) (λq au=>yE λhw=>v_ d4 hw au) (λhm=>by rw [G2,d8 hm];rfl) G3
   ·exact Yk.Yj (CD (cP j p6 mz p7 tZ) e2).1 (CD (cP j p6 mz p7 tZ) e2).2 hL (λt aF=>v' λhw=>v_ d1 hw aF) (jU.data (cP i o E hi b7) e1)
  have c2:Can cm tt opsA.toList o E (eE mz g):=by
   have Yn:∀t,t∈E.nA→m8 g (eE mz g) t:=λt aF=>by have:=v' (E:=mz) (g:=g) (t:=t) λhw=>v_ d3 hw aF;exact⟨this.1.symm,this.2.symm⟩
   rcases d6 with d6|⟨e1,e2⟩
   ·exact jU.congr dt ak Yn (λq au=>(yE (E:=mz) (g:=g) (q:=q) λhw=>v_ d6 hw au).symm) (λhm=>by rw [G2,d7 hm];rfl) G3.symm
   ·exact jU.Yj (CD (cP i o E hi b7) e2).1 (CD (cP i o E hi b7) e2).2 dt Yn (λq=>(c1.data (cP j p6 mz p7 tZ) e1 q).symm)
  refine⟨p6,mz,p7,tZ,c1,aJ (listed.setIfInBounds j true) (eE mz g) ?_ (gM.set hj) (ready_mono ai (Ne.symm p5)) c2 ?_⟩
  ·intro k ok aiP hk aiQ G' ow o5;refine kF k ok aiP hk aiQ G' ?_ o5;by_cases t8:j=k
   ·subst t8;exact Yl
   ·rw [getD_set_ne true t8]at ow;exact ow
  ·rw [Array.setIfInBounds_comm _ _ p5];exact jD.alike cP dF (aiE d2 d5).symm aiN
structure G_(n k:Nat)(listed:Array Bool):Prop where
 size:listed.size=n
 at':∀j,j<n→listed[j]? = some (decide (j<k))
def G_.set{n k:Nat}{listed:Array Bool}(h:G_ n k listed):G_ n (k+1) (listed.setIfInBounds k true):=by
 refine⟨by simp [h.size],λj hj=>?_⟩
 by_cases t8:k=j
 ·subst t8;simp [h.size,hj]
 ·rw [Array.getElem?_setIfInBounds_ne t8,h.at' j hj]
  congr 1
  have:(j<k)=(j<k+1):=by apply propext;omega
  simp [this]
def aiR(o:Oper)(k:Nat):Bool:=o.after.toList.all λe=>!Region.binds .any e||Nat.blt e.on k
def Ha(ops:List Oper)(E:eA)(k:Nat):Nat→List (Oper×eA)→Bool
 |_,[]=>true
 |j,(_,dm)::l=>(CC E dm||waits ops k 3 j)&&Ha ops E k (j+1) l
def Hb(ops:List Oper):Nat→List (Oper×eA)→Bool
 |_,[]=>true
 |k,(o,E)::l=>aiR o k&&Ha ops E k (k+1) l&&Hb ops (k+1) l
def Hc(cm:gH)(tt:dD)(ops:List Oper)(Fi:dg→Prop):List (Oper×eA)→dg→Prop
 |[],g=>Fi g
 |(o,E)::l,g=>Can cm tt ops o E g∧Hc cm tt ops Fi l (eE E g)
def Yo{ops:List Oper}{E:eA}{k:Nat}:∀{l:List (Oper×eA)} {n:Nat},Ha ops E k n l=true→∀(j:Nat) o dm,l[j]? = some (o,dm)→waits ops k 3 (n+j)=false→CC E dm=true
 |[],_,_,j,o,dm,hj,_=>by simp at hj
 |(cV,a_)::l,n,h,j,o,dm,hj,o5=>by
  simp only [Ha,Bool.and_eq_true,Bool.or_eq_true]at h;cases j with
  |zero=>
   simp at hj
   obtain⟨rfl,rfl⟩:=hj;exact h.1.resolve_right (by rw [Nat.add_zero]at o5;rw [o5];simp)
  |succ j=>exact Yo h.2 j o dm (by simpa using hj) (by rwa [show n+1+j=n+(j+1)by omega])
def jD.text(cP:∀(i:Nat) o E,opsA[i]? = some o→cK[i]? = some E→gO opsA.toList o E=true)(dF:∀g1 g2,Alike g1 g2→Fi g1→Fi g2):
 ∀(l:List (Oper×eA)) (k:Nat) (listed:Array Bool) (g:dg),(∀j:Nat,(l[j]?).map (·.1)=opsA[k+j]?)→(∀j:Nat,(l[j]?).map (·.2)=cK[k+j]?)→G_ opsA.size k listed→ov opsA listed→Hb opsA.toList k l=true→Hc cm tt opsA.toList Fi l g→
  jD cm tt opsA cK Fi l.length listed g
 |[],k,listed,g,Z,_,dc,_,_,hc=>by
  refine⟨?_,hc⟩
  have hk:opsA[k]? = none:=by have:=Z 0;simpa using this.symm
  have sy:opsA.size≤k:=by simpa using hk
  refine List.eq_nil_iff_forall_not_mem.2 λj hj=>?_
  obtain⟨hu,o,aw,_⟩:=mem_ready.1 hj;have cO:j<opsA.size:=(Array.getElem?_eq_some_iff.1 aw).1;have:=dc.at' j cO
  rw [Array.getD_eq_getD_getElem?,this]at hu;have t8:j<k:=by omega
  simp [t8]at hu
 |(o,E)::l,k,listed,g,Z,ab,dc,gM,hx,hc=>by
  have aw:opsA[k]? = some o:=by have:=Z 0;simpa using this.symm
  have b7:cK[k]? = some E:=by have:=ab 0;simpa using this.symm
  have cO:k<opsA.size:=(Array.getElem?_eq_some_iff.1 aw).1;simp only [Hb,Bool.and_eq_true]at hx;obtain⟨⟨ai,ba⟩,hx⟩:=hx
  have Yp:k∈Region.ready .any opsA listed:=by
   refine mem_ready.2 ⟨?_,o,aw,λe he hb=>?_⟩
   ·rw [Array.getD_eq_getD_getElem?,dc.at' k cO];simp
   ·have:=List.all_eq_true.1 ai e (by simpa using he)
    simp only [hb,Bool.not_true,Bool.false_or,Nat.blt_eq]at this;rw [Array.getD_eq_getD_getElem?,dc.at' e.on (by omega)]
    simp [this]
  refine jD.first cP dF aw b7 l.length listed g ?_ gM Yp hc.1 (jD.text cP dF l (k+1) _ _ (λj=>?_) (λj=>?_) dc.set (gM.set Yp) hx hc.2)
  ·intro j p6 mz p7 tZ dk ow o5;have vH:j<opsA.size:=(Array.getElem?_eq_some_iff.1 p7).1
   have t8:k<j:=by
    rw [Array.getD_eq_getD_getElem?,dc.at' j vH]at ow;simp at ow
    omega
   have e1:=Z (j-k);have e2:=ab (j-k);have Yq:k+(j-k)=j:=by omega
   rw [Yq,p7]at e1;rw [Yq,tZ]at e2
   have e3:(((o,E)::l)[j-k]?)=l[j-k-1]? := by
    have:j-k=(j-k-1)+1:=by omega
    rw [this];simp
   rw [e3]at e1 e2;cases aa:l[j-k-1]? with
   |none=>rw [aa]at e1;simp at e1
   |some x=>
    rw [aa]at e1 e2;simp at e1 e2
    obtain⟨ev,fh⟩:=x;simp only at e1 e2
    subst e1;subst e2;exact Yo ba _ _ _ aa (by rwa [show k+1+(j-k-1)=j by omega])
  ·have:=Z (j+1);simpa [Nat.add_assoc,Nat.add_comm 1 j]using this
  ·have:=ab (j+1);simpa [Nat.add_assoc,Nat.add_comm 1 j]using this
end
def rb(N:Nat)(E:eA):Bool:=
 match E.dst with
 |none=>E.p.isEmpty
 |some t=>Nat.blt t N&&match E.p with
  |[]=>true
  |p=>E.f.e.isSome&&E.f.hs.isEmpty&&E.f.hy.isEmpty&&p.all (λy=>!Nat.beq y.1 t)&&Nat.beq E.f.eU 0
def CE(ops:List Oper)(i:Nat)(t:Nat):Nat→List eA→Bool
 |_,[]=>true
 |j,dm::l=>(match dm.p with
  |[]=>true
  |p=>(match dm.dst with |some bY=>Nat.beq bY t |none=>false)||p.all (λy=>!Nat.beq y.1 t)||waits ops i 3 j)&&CE ops i t (j+1) l
def Hd(ops:List Oper)(cK:List eA):Nat→List eA→Bool
 |_,[]=>true
 |i,E::l=>(match E.dst with
  |none=>true
  |some t=>CE ops i t 0 cK)&&Hd ops cK (i+1) l
def CF(ops:List Oper)(cK:List eA):Bool:=Hd ops cK 0 cK
def Yr{ops:List Oper}{i t:Nat}:∀{l:List eA} {k:Nat},CE ops i t k l=true→∀(j:Nat) (dm:eA),l[j]? = some dm→dm.p≠[]→
 ((match dm.dst with|some bY=>Nat.beq bY t|none=>false)||dm.p.all (λy=>!Nat.beq y.1 t))=true∨waits ops i 3 (k+j)=true
 |[],_,_,j,dm,h,_=>by simp at h
 |a_::l,k,h,j,dm,hj,dk=>by
  simp only [CE,Bool.and_eq_true]at h;cases j with
  |zero=>
   simp at hj
   subst hj;have Z:=h.1;split at Z
   ·rename_i pR;exact absurd pR dk
   ·rw [Bool.or_eq_true]at Z;exact Z
  |succ j=>
   have:=Yr h.2 j dm (by simpa using hj) dk
   rwa [show k+(j+1)=k+1+j by omega]
def Ys{ops:List Oper}{cK:List eA}:∀{l:List eA} {k:Nat},Hd ops cK k l=true→∀(i:Nat) (E:eA) (t:Nat),l[i]? = some E→E.dst=some t→CE ops (k+i) t 0 cK=true
 |[],_,_,i,E,t,h,_=>by simp at h
 |a_::l,k,h,i,E,t,hi,hd=>by
  simp only [Hd,Bool.and_eq_true]at h;cases i with
  |zero=>
   simp at hi
   subst hi;have Z:=h.1;rw [hd]at Z;exact Z
  |succ i=>
   have:=Ys h.2 i E t (by simpa using hi) hd
   rwa [show k+(i+1)=k+1+i by omega]
section
variable {P:Program} {K:Ctx} {N:Nat} {M:Mem} {β:Nat→Option Nat} {tt:dD} {opsA:Array Oper} {cK:List eA} {g:dg} {w:World} {tmps:Array Value}
def t'(cK:List eA)(listed:Array Bool)(g:dg):Prop:=∀x,x∈g.b5→∃(i:Nat) (E:eA),cK[i]? = some E∧listed.getD i false=true∧E.dst=some x.1∧E.p=x.2.1∧E.p≠[]
def He{α:Type}:∀{l:List (Nat×α)} {t:Nat} {x:Nat×α},x∈del l t→x∈l
 |[],_,_,h=>by simp [del]at h
 |(j,y)::l,t,x,h=>by
  simp only [del]at h;rw [Bool.cond_eq_ite]at h;split at h
  ·exact List.mem_cons_of_mem _ (He h)
  ·rcases List.mem_cons.1 h with rfl|h
   ·simp
   ·exact List.mem_cons_of_mem _ (He h)
def t'.ap{listed:Array Bool}{i:Nat}{E:eA}(b7:cK[i]? = some E)(hi:i<listed.size)(h:t' cK listed g):t' cK (listed.setIfInBounds i true) (eE E g):=by
 have cS:t' cK (listed.setIfInBounds i true) g:=λx hx=>by
  obtain⟨j,dm,Z,ab,aj⟩:=h x hx;exact⟨j,dm,Z,getD_set_true ab,aj⟩
 intro x hx;unfold eE at hx;cases hd:E.dst with
 |none=>simp only [hd]at hx;exact cS x hx
 |some t=>
  simp only [hd]at hx;cases hp:E.p with
  |nil=>simp only [hp]at hx;exact cS x (He hx)
  |cons y p=>
   simp only [hp]at hx;cases he:E.f.e with
   |none=>simp only [he]at hx;exact cS x hx
   |some e=>
    simp only [he]at hx;rcases List.mem_cons.1 hx with rfl|hx
    ·exact⟨i,E,b7,by simp [hi],by simp [hd],by simp [hp],by simp [hp]⟩
    ·exact cS x (He hx)
def aiS{listed:Array Bool}{i:Nat}{E:eA}{t:Nat}(kF:CF opsA.toList cK=true)(b7:cK[i]? = some E)(hd:E.dst=some t)(hc:ov opsA listed)(hi:listed.getD i false=false)(h:t' cK listed g):x9 g.b5 t=true:=by
 unfold x9;rw [List.all_eq_true];intro x hx;obtain⟨j,dm,sC,aa,kC,yx,dk⟩:=h x hx;have Z:=Ys kF i E t b7 hd;rw [Nat.zero_add]at Z;rcases Yr Z j dm sC dk with ab|ab
 ·rw [kC,yx]at ab;exact ab
 ·rw [Nat.zero_add]at ab;have:=G9 hc ab aa
  rw [hi]at this;cases this
def Yt{listed:Array Bool}{cm:gH}{o:Oper}{E:eA}{i:Nat}(jp:E.kd=0)(jU:OI cm tt opsA.toList o E g)(b7:cK[i]? = some E)(cP:gO opsA.toList o E=true)(aV:rb N E=true)(kF:CF opsA.toList cK=true)(hc:ov opsA listed)(hi:listed.getD i false=false)(ji:t' cK listed g):
 kg cm tt N opsA.toList {g with rs:=E.rs,a':=[]} o=some (.go {eE E g with rs:=[],a':=E.f.a'.map (under g E.p)}):=by
 obtain⟨_,_,e',d_⟩:=G8 cP;have hg:pQ opsA.toList {g with rs:=E.rs,a':=[]} o=some E.p:=jU.G5
 have hs:step1 cm tt opsA.toList {g with rs:=E.rs,a':=[]} E.p o=some (.go E.f):=by
  have dE:=jU.st;rw [jp]at dE;refine Eq.trans ?_ dE;exact OD (g1:={g with rs:=E.rs,a':=[]}) (g2:={g with rs:=E.rs}) (λ_ _ _ _=>⟨rfl,rfl⟩) rfl rfl (λ_=>rfl) (λ_ _=>rfl)
 have hu:∀q,under {g with rs:=E.rs,a':=[]} E.p q=under g E.p q:=λq=>G4 λ_ _=>⟨rfl,rfl⟩
 unfold kg;rw [hg]
 dsimp only
 rw [hs]
 dsimp only
 rw [←e'];have cz:E.f.a'.map (under {g with rs:=E.rs,a':=[]} E.p)++[]=E.f.a'.map (under g E.p):=by rw [List.append_nil];exact List.map_congr_left λq _=>hu q
 rw [cz,d_];unfold rb at aV;unfold eE;cases hd:E.dst with
 |none=>
  rw [hd]at aV
  dsimp only at aV ⊢
  rw [aV];rfl
 |some t=>
  rw [hd]at aV;have ba:=aiS kF b7 hd hc hi ji;simp only [Bool.and_eq_true]at aV;obtain⟨cO,aV⟩:=aV
  dsimp only
  rw [cO,ba];cases hp:E.p with
  |nil=>rfl
  |cons x p=>
   rw [hp]at aV;simp only [Bool.and_eq_true,List.isEmpty_iff,Nat.beq_eq,Option.isSome_iff_exists]at aV;obtain⟨⟨⟨⟨⟨e,he⟩,bm⟩,hc⟩,mv⟩,hn⟩:=aV;simp only [he,bm,hc,hn,mv];rfl
def jD.sound(cf:ff P tt=true)(jp:∀(i:Nat) E,cK[i]? = some E→E.kd=0)(cP:∀(i:Nat) o E,opsA[i]? = some o→cK[i]? = some E→gO opsA.toList o E=true)(aV:∀(i:Nat) E,cK[i]? = some E→rb N E=true)(kF:CF opsA.toList cK=true){Fi:dg→Prop}{Q:Exit→Act→World→Prop}
 (ee:∀g en w' M' β',Fi g→fG P K N M' β' g en w'→Q .normal ⟨en,K.ds⟩ w'):
 ∀(n:Nat) (listed:Array Bool) (g:dg) (tmps:Array Value) (w:World) (M:Mem) (β:Nat→Option Nat),jD (hO P) tt opsA cK Fi n listed g→listed.size=opsA.size→ov opsA listed→t' cK listed g→fG P K N M β g tmps w→wpAny P .any opsA Q n listed ⟨tmps,K.ds⟩ w
 | 0,_,g,tmps,w,M,β,h,_,_,_,hs=>⟨h.1,ee g tmps w M β h.2 hs⟩
 |n+1,listed,g,tmps,w,M,β,h,eo,gM,ji,hs=>by
  refine⟨λai=>ee g tmps w M β (h.1 ai) hs,λi hi=>?_⟩
  obtain⟨o,E,aw,b7,Hf,hn⟩:=h.2 i hi;have jU:=Hf.resolve_left (by rw [jp i E b7];simp)
  have cO:i<listed.size:=by rw [eo];exact(Array.getElem?_eq_some_iff.1 aw).1
  have ow:listed.getD i false=false:=by have:=(mem_ready.1 hi).1;simpa [Array.getD_eq_getD_getElem?,cO]using this
  have OJ:=Yt (N:=N) (jp i E b7) jU b7 (cP i o E aw b7) (aV i E b7) kF gM ow ji;have gl:fG P K N M β {g with rs:=E.rs,a':=[]} tmps w:=⟨hs.bq,hs.size,hs.fresh,hs.cond⟩;unfold wpOp;simp only [aw];refine Cy gl cf (opsA:=opsA) rfl OJ (λq au=>?_) (λen w' M' β' cS=>?_)
  ·obtain⟨q',pW,rfl⟩:=List.mem_map.1 au;exact jU.a' q' pW
  ·exact jD.sound cf jp cP aV kF ee n _ (eE E g) en w' M' β' hn (by simpa using eo) (gM.set hi) (ji.ap b7 cO) ⟨cS.bq,cS.size,cS.fresh,cS.cond⟩
end
def findD(cm:gH)(tt:dD)(ops:List Oper)(g:dg)(o:Oper)(rs:List fu):Option eA:=
 match pQ ops g o with
 |none=>none
 |some p=>match step1 cm tt ops {g with rs:=rs} p o with
  |some (.go f)=>some {dst:=o.dst,p,f,kt:=iY tt g p o,nA:=p4 ops o++p.map (·.1),p2:=q_ o,rs,ot:=wb o rs}
  |_=>none
def wc(cm:gH)(tt:dD)(ops:List Oper):List Oper→List (List fu)→dg→Option (List eA×dg×List Prop)
 |[],[],g=>some ([],g,[])
 |o::l,rs::jV,g=>match findD cm tt ops g o rs with
  |some E=>match wc cm tt ops l jV (eE E g) with
   |some (cK,e4,a')=>some (E::cK,e4,a'++E.f.a'.map (under g E.p))
   |none=>none
  |none=>none
 |_,_,_=>none
def lI:List Oper→List eA→List (Oper×eA)
 |o::l,E::m=>(o,E)::lI l m
 |_,_=>[]
def Hg(N:Nat)(ops:List Oper)(cK:List eA):Bool:=
 (lI ops cK).all (λx=>gO ops x.1 x.2)&&cK.all (rb N)&&CF ops cK&&Hb ops 0 (lI ops cK)
section
variable {cm:gH} {tt:dD} {ops:List Oper}
def Yu{Fi:dg→Prop}:∀{l:List Oper} {jV:List (List fu)} {g:dg} {cK:List eA} {e4:dg} {a':List Prop},wc cm tt ops l jV g=some (cK,e4,a')→(∀q,q∈a'→q)→Fi e4→
 cK.length=l.length∧(∀E,E∈cK→E.kd=0)∧Hc cm tt ops Fi (lI l cK) g
 |[],[],g,cK,e4,a',h,_,dF=>by
  simp only [wc,Option.some.injEq,Prod.mk.injEq]at h;obtain⟨rfl,rfl,rfl⟩:=h;exact⟨rfl,by simp,dF⟩
 |o::l,rs::jV,g,cK,e4,a',h,cz,dF=>by
  simp only [wc]at h;split at h
  case h_2=>cases h
  rename_i E b7;split at h
  case h_2=>cases h
  rename_i wd g1 Hh Z;simp only [Option.some.injEq,Prod.mk.injEq]at h;obtain⟨rfl,rfl,rfl⟩:=h;obtain⟨ab,aiT,aj⟩:=Yu Z (λq au=>cz q (List.mem_append_left _ au)) dF
  have aiU:E.kd=0:=by
   unfold findD at b7;split at b7
   ·cases b7
   split at b7
   ·cases b7;rfl
   ·cases b7
  refine⟨by simp [ab],λdm sC=>?_,?_,aj⟩
  ·rcases List.mem_cons.1 sC with rfl|sC
   ·exact aiU
   ·exact aiT dm sC
  have OK:∀q,q∈E.f.a'→under g E.p q:=λq au=>cz _ (List.mem_append_right _ (List.mem_map.2 ⟨q,au,rfl⟩))
  unfold findD at b7;split at b7
  ·cases b7
  rename_i p hp;split at b7
  ·rename_i f ba;cases b7;exact .inr ⟨hp,ba,OK,λ_ h=>h,λh=>by cases h⟩
  ·cases b7
 |[],_::_,_,_,_,_,h,_,_=>by simp [wc]at h
 |_::_,[],_,_,_,_,h,_,_=>by simp [wc]at h
def we:∀{l:List Oper} {m:List eA},m.length=l.length→∀(j:Nat),((lI l m)[j]?).map (·.1)=l[j]? ∧ ((lI l m)[j]?).map (·.2)=m[j]?
 |[],[],_,j=>by simp [lI]
 |o::l,E::m,h,j=>by
  cases j with
  |zero=>simp [lI]
  |succ j=>simpa [lI]using we (by simpa using h) j
 |[],_::_,h,_=>by simp at h
 |_::_,[],h,_=>by simp at h
def OL:∀{l:List Oper} {m:List eA},m.length=l.length→(lI l m).length=l.length
 |[],[],_=>rfl
 |_::l,_::m,h=>by simp [lI,OL (l:=l) (m:=m) (by simpa using h)]
 |[],_::_,h=>by simp at h
 |_::_,[],h=>by simp at h
end
section
variable {P:Program} {N E:Nat} {st:aI} {tt:dD}
def Alike.bq{K:Ctx}{M:Mem}{β:Nat→Option Nat}{g1 g2:dg}{tmps:Array Value}{w:World}(ha:Alike g1 g2)(h:bL P K M β {env:=g1.env,H:=g1.H,aY:=g1.aY} tmps w):bL P K M β {env:=g2.env,H:=g2.H,aY:=g2.aY} tmps w:=by
 have fr:∀l,({env:=g2.env,H:=g2.H,aY:=g2.aY}:aI).at l=({env:=g1.env,H:=g1.H,aY:=g1.aY}:aI).at l:=by
  intro l;cases l with
  |slot s=>exact(ha.slot s).1.symm
  |cell r i=>simp only [aI.at];rw [←ha.box r]
 have hb:∀r,look g2.H r=look g1.H r:=λr=>(ha.box r).symm
 constructor
 ·intro l e aa;rw [fr]at aa;exact h.e5 l e aa
 ·intro l e T aa;rw [fr]at aa;exact h.own l e T aa
 ·intro l cI e aZ T T' b aa aC cN;rw [fr]at aa cN;exact h.uniq l cI e aZ T T' b aa aC cN
 ·intro l e T b r cs aa aC nv ai;rw [fr]at aa;exact h.unbox l e T b r cs aa aC nv (by rw [←hb r];exact ai)
 ·intro r cs ai;exact h.box r cs (by rw [←hb r];exact ai)
 ·intro r cJ b cs cs' ai fe;exact h.inj r cJ b cs cs' (by rw [←hb r];exact ai) (by rw [←hb cJ];exact fe)
 ·intro r b ai;exact(by have:=h.lt r b ai;simpa [ha.aY]using this)
 ·exact h.mem
 ·exact h.m0
 ·exact h.frame
 ·exact h.iC
 ·exact h.jh
 ·exact h.hY
def bL.drew{K:Ctx}{M:Mem}{β:Nat→Option Nat}{tmps:Array Value}{w:World}(h:bL P K M β st tmps w)(k:Nat):bL P K M β st tmps {w with drawn:=k}:=
 ⟨h.e5,h.own,h.uniq,h.unbox,h.box,h.inj,h.lt,h.mem,h.m0,h.frame,h.iC,h.jh,h.hY⟩
end
def be.scope{P:Program}{N E:Nat}{c:Code}{Q:cq→aI→Prop}{st:aI}(h:be P N E c Q st):be P N E (.scope c) Q st:=by
 intro K eg a w hs;refine wp_scope_straight (wp_mono (h K eg a w hs) ?_)
 rintro e dS w' ⟨fA,b9,Z,ab⟩
 cases fA with
 |normal=>obtain⟨rfl,aj⟩:=Z;exact⟨.normal,b9,⟨rfl,aj⟩,ab⟩
 |exit i=>obtain⟨rfl,aj⟩:=Z;exact⟨.exit i,b9,⟨rfl,aj⟩,ab⟩
 |ret=>obtain⟨rfl,aj⟩:=Z;exact⟨.ret,b9,⟨rfl,aj⟩,ab⟩
 |bl x=>obtain⟨v,rfl,aj⟩:=Z;exact⟨.bl x,b9,⟨v,rfl,aj⟩,ab⟩
def iu.on{α β dO:Type}(x:α ⊕ β)(f:α→dO)(g:β→dO):dO:=
 match x with
 |.inl a=>f a
 |.inr b=>g b
def Hi.on{α β dO:Type}(x:α×β)(f:α→β→dO):dO:=f x.1 x.2
def Hj(P:Program)(w:World):Prop:=(∀g,g∈M4 P→∃fR,w.cell? ⟨g,0,none⟩=some fR∧(fR = .nilIface∨∃co sj,fR = .iface co sj))∧
 ∀ g, P.globalNamed "internal/strconv.uint64pow10" = some g → ∃ t k1, w.heap[g]? = some (.cells M5 t k1)
section
variable {P:Program}
def bL.aiV{K:Ctx}{M:Mem}{β:Nat→Option Nat}{st:aI}{tmps:Array Value}{w:World}(h:bL P K M β st tmps w):Hj P w:=⟨λg hg=>by
 obtain⟨cs,t,k1,fR,Z,ab,aj⟩:=h.jh.1 g hg;refine⟨fR,?_,aj⟩
 have:=(h.frame g _ Z).1
 unfold World.cell?;rw [this];exact ab,λg hg=>by
 obtain⟨t,k1,Z⟩:=h.jh.2 g hg;exact⟨t,k1,(h.frame g _ Z).1⟩⟩
def Yv {f : FuncId} {args : List D} {vsOf : World → List Value → Prop} {d : D} {fd : Func} (km : P.funcs[f]? = some fd) (hb : fd.body.isSome = true) (hn : decide (fd.name = "runtime.NumGoroutine") = false)
 (e9:∀(w:World) (M:Mem) (β:Nat→Option Nat) (vs:List Value),(∀b o v,M b o=some v→w.cell? ⟨b,o,none⟩=some v)→vs.length=args.length→(∀(i:Nat) v a,vs[i]? = some v→args[i]? = some a→cw M β v a)→vsOf w vs)
 (vW:∀(vs:List Value) (w:World),vsOf w vs→Hj P w→Calls P f ⟨vs⟩ w λe w'=>∃v,e = .returned v∧(∀M β,cw M β v d)∧(∀(b:Nat) (a':Obj),w.heap[b]? = some a'→w'.heap[b]? = some a')∧(w'.os,w'.output)=(w.os,w.output)):
 gX P f args [] [] (.ret d none) []:=by
 refine⟨⟨fd,km,hb,by simpa using hn⟩,λK w vs M β hlen hs hD=>?_⟩
 have av:vsOf w vs:=e9 w M β vs hs.mem hlen λi v a hi ha=>by
  have Z:=hs.e5 (.slot i) ⟨a,none⟩ (by
   simp only [aI.at,h3,ny,Cg,ha,Option.map_some,look])
  have ab:ce (⟨vs⟩:Array Value) w β (.slot i)=v:=by
   simp [ce,hi]
  rw [ab]at Z;exact Z
 refine(vW vs w av hs.aiV).mono ?_
 rintro e w' ⟨v,rfl,f5,qW,oY⟩
 refine⟨.ret d none,[],v,M,β,⟨rfl,rfl⟩,rfl,?_⟩
 have iq:∀b o v,w.cell? ⟨b,o,none⟩=some v→w'.cell? ⟨b,o,none⟩=some v:=by
  intro b o v h;unfold World.cell? at h ⊢;cases hb:w.heap[b]? with
  |none=>simp [hb]at h
  |some a'=>rw [qW b a' hb];rw [hb]at h;exact h
 constructor
 ·intro l e aa;cases l with
  |slot s=>
   simp only [aI.at,ia,dy]at aa;split at aa
   ·rename_i h0;subst h0;cases aa;exact f5 M β
   ·simp [look]at aa
  |cell r i=>simp [aI.at,cY,look]at aa
 ·intro l e T aa aC;cases l with
  |slot s=>
   simp only [aI.at,ia,dy]at aa;split at aa
   ·cases aa;cases aC
   ·simp [look]at aa
  |cell r i=>simp [aI.at,cY,look]at aa
 ·intro l cI e aZ T T' b aa aC;cases l with
  |slot s=>
   simp only [aI.at,ia,dy]at aa;split at aa
   ·cases aa;cases aC
   ·simp [look]at aa
  |cell r i=>simp [aI.at,cY,look]at aa
 ·intro l e T b r cs aa aC hb ai;simp [cY,look]at ai
 ·intro r cs ai;simp [cY,look]at ai
 ·intro r cJ b cs cs' ai;simp [cY,look]at ai
 ·exact hs.lt
 ·exact λb o v h=>iq b o v (hs.mem b o v h)
 ·exact hs.m0
 ·exact λb a' h=>⟨qW b a' (hs.frame b a' h).1,(hs.frame b a' h).2⟩
 ·exact hs.iC
 ·exact hs.jh
 ·exact oY.trans hs.hY
def wg {f : FuncId} {args : List D} {vsOf : List Value → Prop} {d : D} {fd : Func} (km : P.funcs[f]? = some fd) (hb : fd.body.isSome = true) (hn : decide (fd.name = "runtime.NumGoroutine") = false)
 (e9:∀(M:Mem) (β:Nat→Option Nat) (vs:List Value),vs.length=args.length→(∀(i:Nat) v a,vs[i]? = some v→args[i]? = some a→cw M β v a)→vsOf vs)
 (vW:∀(vs:List Value) (w:World),vsOf vs→Hj P w→Calls P f ⟨vs⟩ w λe w'=>∃v,e = .returned v∧(∀M β,cw M β v d)∧(∀(b:Nat) (a':Obj),w.heap[b]? = some a'→w'.heap[b]? = some a')∧(w'.os,w'.output)=(w.os,w.output)):
 gX P f args [] [] (.ret d none) []:=
 Yv (vsOf:=λ_ vs=>vsOf vs) km hb hn (λ_ M β vs _=>e9 M β vs) vW
end
def wh(cm:gH)(tt:dD)(N:Nat)(ops:List Oper)(rs:List fu)(st:aI):Option Fin:=
 match tD cm tt N ops ops {env:=st.env,b5:=[],H:=st.H,aY:=st.aY,rs,a':=[]} with
 |some (.go g)=>match g.rs with
  |[]=>some (.go {env:=g.env,H:=g.H,aY:=g.aY} g.a')
  |_=>none
 |some (.bl x st a')=>some (.bl x st a')
 |none=>none
def wi:List Oper→Nat→List (Nat×Nat)
 |[],_=>[]
 |o::l,n=>match q_ o,o.dst with
  |true,some t=>(t,n)::wi l (n+1)
  |_,_=>wi l n
def Hk(ops:List Oper)(st:aI):dg:=
 {env:=st.env,b5:=[],H:=st.H,aY:=st.aY+(wi ops st.aY).length,rs:=[],a':=[],ids:=wi ops st.aY}
def Hl(cm:gH)(tt:dD)(N:Nat)(ops:List Oper)(jV:List (List fu))(st:aI):Option Fin:=
 match wc cm tt ops ops jV (Hk ops st) with
 |some (cK,g,a')=>bif Hg N ops cK then some (.go {env:=g.env,H:=g.H,aY:=g.aY} a')else none
 |none=>none
def jW:Option Fin→aI
 |some (.go st _)=>st
 |some (.bl _ st _)=>st
 |none=>{env:=[],H:=[],aY:=0}
def mA:Option Fin→Option (List Prop)
 |some (.go _ a')=>some a'
 |_=>none
def OM:Option Fin→Option (V×List Prop)
 |some (.bl x _ a')=>some (x,a')
 |_=>none
def spread:Nat→Nat→List (Nat×List fu)→List (List fu)
 | 0,_,_=>[]
 |n+1,i,l=>(look l i).getD []::spread n (i+1) l
def Hm:∀(l:List Oper) (n:Nat) (x:Nat×Nat),x∈wi l n→n≤x.2∧True
 |[],n,x,h=>by simp [wi]at h
 |o::l,n,x,h=>by
  unfold wi at h;split at h
  ·rcases List.mem_cons.1 h with h|h
   ·subst h;exact⟨Nat.le_refl _,trivial⟩
   ·have:=(Hm l (n+1) x h).1;exact⟨by omega,trivial⟩
  ·exact Hm l n x h
def bL.up{P:Program}{K:Ctx}{M:Mem}{β:Nat→Option Nat}{st:aI}{tmps:Array Value}{w:World}(h:bL P K M β st tmps w)(k:Nat):bL P K M β {env:=st.env,H:=st.H,aY:=st.aY+k} tmps w:=
 ⟨h.e5,h.own,h.uniq,h.unbox,h.box,h.inj,(λr b hb=>Nat.lt_of_lt_of_le (h.lt r b hb) (Nat.le_add_right _ _)),h.mem,h.m0,h.frame,h.iC,h.jh,h.hY⟩
section
variable {P:Program} {N E:Nat} {st:aI} {tt:dD}
def be.rg{id:Nat}{opsA:Array Oper}{Q:cq→aI→Prop}(cf:ff P tt=true)(rs:List fu){ca:List Prop}(ai:mA (wh (hO P) tt N opsA.toList rs st)=some ca)(cz:k9 ca)
 (ee:Q .normal (jW (wh (hO P) tt N opsA.toList rs st))):be P N E (.region id opsA false) Q st:=by
 rintro K eg a w ⟨_,hd,eo,M,β,cT⟩
 obtain⟨tmps,ds⟩:=a;simp only at hd eo
 subst hd;have p8:fG P K N M β {env:=st.env,b5:=[],H:=st.H,aY:=st.aY,rs:=rs,a':=[]} tmps w:=⟨cT,eo,(λ_ _ h=>by simp [look]at h),λ_ _ _ h=>by simp [look]at h⟩
 refine wp_region ?_;unfold wh at ai ee;have hlen:List.range opsA.size=List.range' 0 opsA.toList.length:=by rw [List.range_eq_range'];simp
 rw [hlen];split at ai
 ·rename_i g eM;split at ai
  case h_2=>cases ai
  rename_i eI;simp only [mA,Option.some.injEq]at ai;subst ai;rw [eM]at ee;simp only [eI,jW]at ee;refine Ot cf rfl (fin:=.go g) cz.mem ?_ opsA.toList 0 _ tmps w M β (λj=>by simp) p8 eM
  intro en w' M' β' cS;exact⟨.normal,_,⟨rfl,rfl,cS.size,M',β',cS.bq⟩,ee⟩
 ·cases ai
 ·cases ai
def be.ON{id:Nat}{opsA:Array Oper}{Q:cq→aI→Prop}(cf:ff P tt=true)(rs:List fu){x:V}{ca:List Prop}(ai:OM (wh (hO P) tt N opsA.toList rs st)=some (x,ca))(cz:k9 ca)
 (ee:Q (.bl x) (jW (wh (hO P) tt N opsA.toList rs st))):be P N E (.region id opsA false) Q st:=by
 rintro K eg a w ⟨_,hd,eo,M,β,cT⟩
 obtain⟨tmps,ds⟩:=a;simp only at hd eo
 subst hd;have p8:fG P K N M β {env:=st.env,b5:=[],H:=st.H,aY:=st.aY,rs:=rs,a':=[]} tmps w:=⟨cT,eo,(λ_ _ h=>by simp [look]at h),λ_ _ _ h=>by simp [look]at h⟩
 refine wp_region ?_;unfold wh at ai ee;have hlen:List.range opsA.size=List.range' 0 opsA.toList.length:=by rw [List.range_eq_range'];simp
 rw [hlen];split at ai
 ·split at ai<;>cases ai
 ·rename_i y b9 a' eM;simp only [OM,Option.some.injEq,Prod.mk.injEq]at ai;obtain⟨rfl,rfl⟩:=ai;rw [eM]at ee;refine Ot cf rfl (fin:=.bl y b9 a') cz.mem ?_ opsA.toList 0 _ tmps w M β (λj=>by simp) p8 eM
  intro e dS w' cS;exact⟨.bl y,_,cS,ee⟩
 ·cases ai
def be.Hn{id:Nat}{opsA:Array Oper}{Q:cq→aI→Prop}(cf:ff P tt=true)(hm:P.follows .mixedOrders=true)(jV:List (Nat×List fu)){ca:List Prop}(ai:mA (Hl (hO P) tt N opsA.toList (spread opsA.toList.length 0 jV) st)=some ca)(cz:k9 ca)
 (ee:Q .normal (jW (Hl (hO P) tt N opsA.toList (spread opsA.toList.length 0 jV) st))):be P N E (.region id opsA true) Q st:=by
 rintro K eg a w ⟨_,hd,eo,M,β,cT⟩
 obtain⟨tmps,ds⟩:=a;simp only at hd eo
 subst hd;refine wp_region_any hm ?_;unfold Hl at ai ee;split at ai
 case h_2=>cases ai
 rename_i cK g tV eM;rw [eM]at ee
 dsimp only at ee
 rw [Bool.cond_eq_ite]at ai ee;split at ai
 case isFalse=>cases ai
 rename_i hc;rw [if_pos hc]at ee;simp only [mA,Option.some.injEq]at ai;subst ai;simp only [jW]at ee;obtain⟨hlen,jp,OO⟩:=Yu (Fi:=λg1=>Alike g g1) eM cz.mem Alike.refl
 simp only [Hg,Bool.and_eq_true]at hc;obtain⟨⟨⟨c1,c2⟩,c3⟩,c4⟩:=hc
 have cP:∀(i:Nat) o E,opsA[i]? = some o→cK[i]? = some E→gO opsA.toList o E=true:=by
  intro i o E aw b7;obtain⟨k7,z2⟩:=we hlen i;have k3:opsA.toList[i]? = some o:=by simpa using aw
  rw [k3]at k7;rw [b7]at z2;cases dG:(lI opsA.toList cK)[i]? with
  |none=>rw [dG]at k7;simp at k7
  |some x=>
   rw [dG]at k7 z2;simp at k7 z2
   subst k7;subst z2;exact List.all_eq_true.1 c1 x (List.mem_of_getElem? dG)
 have aV:∀(i:Nat) E,cK[i]? = some E→rb N E=true:=λi E b7=>List.all_eq_true.1 c2 E (List.mem_of_getElem? b7)
 have CG:ov opsA (Array.replicate opsA.size false):=λj o aw hj=>by have cO:j<opsA.size:=(Array.getElem?_eq_some_iff.1 aw).1;simp [Array.getD_eq_getD_getElem?,cO]at hj
 have CH:=jD.text cP (λg1 g2 gP Z=>Alike.trans Z gP) (lI opsA.toList cK) 0 (Array.replicate opsA.size false) _ (λj=>by have:=(we hlen j).1;simpa using this) (λj=>by have:=(we hlen j).2;simpa using this)
  ⟨by simp,λj hj=>by simp [hj]⟩ CG c4 OO
 have vE:(lI opsA.toList cK).length=opsA.size:=by rw [OL hlen];simp
 rw [vE]at CH;refine jD.sound (K:=K) cf (λi E b7=>jp E (List.mem_of_getElem? b7)) cP aV c3 ?_ _ _ _ tmps _ M β CH (by simp) CG (λx hx=>by cases hx) ⟨(cT.drew _).up _,eo,(λs id h _ b hb=>by have Z:=cT.lt _ _ hb;have ab:=(Hm _ _ _ (sm h)).1;simp only at ab;omega),λ_ _ _ h=>by simp [Hk,look]at h⟩
 intro g1 en w' M' β' aiW cS;exact⟨.normal,_,⟨rfl,rfl,cS.size,M',β',Alike.bq aiW.symm cS.bq⟩,ee⟩
def be.OP{α:Type}{b:Bool}{x y:Option α}{r:Option α}(h:(bif b then x else y)=r){c:Nat}{wj wk:Code}{Q:cq→aI→Prop}(hc:(look st.env c).map (·.d)=some (.v (.bool b)))
 (aF:x=r→be P N E wj Q st) (ba:y=r→be P N E wk Q st):be P N E (.cond (.tmp c) wj wk) Q st:=by
 simp only [Option.map_eq_some_iff]at hc;obtain⟨⟨d,own⟩,he,rfl⟩:=hc;exact be.cond b own he (λhb=>aF (by subst hb;exact h)) (λhb=>ba (by subst hb;exact h))
def be.Yw{c:Nat}{wj wk:Code}{Q:cq→aI→Prop}(hc:(look st.env c).map (·.d)=some (.v (.bool true)))(aF:be P N E wj Q st):be P N E (.cond (.tmp c) wj wk) Q st:=by
 simp only [Option.map_eq_some_iff]at hc;obtain⟨⟨d,own⟩,he,rfl⟩:=hc;exact be.cond true own he (λ_=>aF) (λhb=>by cases hb)
def be.OQ{c:Nat}{wj wk:Code}{Q:cq→aI→Prop}(hc:(look st.env c).map (·.d)=some (.v (.bool false)))(ba:be P N E wk Q st):be P N E (.cond (.tmp c) wj wk) Q st:=by
 simp only [Option.map_eq_some_iff]at hc;obtain⟨⟨d,own⟩,he,rfl⟩:=hc;exact be.cond false own he (λhb=>by cases hb) (λ_=>ba)
end
def bK{P:Program}{f:FuncId}{args:List D}{es:List (Nat×TypeId)}{H cH:List (List aW)}{out:Out}(_:gX P f args es H out cH)(os:List Nat):fu:=.call out (some cH) os
def bd{P:Program}{f:FuncId}{args:List D}{es:List (Nat×TypeId)}{H cH:List (List aW)}{out:Out}(_:gX P f args es H out cH)(os:List Nat):fu:=.call out none os
def du{c:Prop}{P:Program}{f:FuncId}{args:List D}{es:List (Nat×TypeId)}{H cH:List (List aW)}{out:Out}(_:c→gX P f args es H out cH):fu:=.call out none []
def yG{c c2:Prop}{P:Program}{f:FuncId}{args:List D}{es:List (Nat×TypeId)}{H cH:List (List aW)}{out:Out}(_:c→c2→gX P f args es H out cH):fu:=.call out none []
def gu{raw x:V}(_:hv raw x):fu:=.val x
def eP{α:Type}[Inhabited α]{k:Nat}{e:α→V}(l:List α):hv (.bM k l.length λi=>(l.map e).getD i .gU) (af k e l):=aix rfl _ rfl
def nB(l:List Int):Bool:=l.all λx=>decide (0≤x)&&decide (x<256)
def jX(l:List Int):av3:=l.map λx=>UInt8.ofNat x.toNat
def CI{l:List Int}(h:nB l=true):(jX l).length=l.length∧∀i,i<l.length→V.int .u8 (l.getD i default) = .int .u8 (((jX l).getD i 0).toNat:Int):=by
 refine⟨by simp [jX],λi hi=>?_⟩
 unfold nB at h;rw [List.all_eq_true]at h;have:=h l[i] (List.getElem_mem hi)
 simp only [Bool.and_eq_true,decide_eq_true_eq]at this;simp only [jX,List.getD,List.getElem?_map,List.getElem?_eq_getElem hi,Option.getD_some,Option.map_some,UInt8.toNat_ofNat'];rw [Nat.mod_eq_of_lt (by omega)]
 congr 1
 omega
def Ho(T:TypeId):V→Option (Int×Int)
 |.iface t (.agg [.int .i64 a,.int .i64 b])=>bif Nat.beq t T then some (a,b)else none
 |_=>none
def Yx{T:TypeId}{x:V}{r:Int×Int}(h:Ho T x=some r):x = .iface T (.agg [.int .i64 r.1,.int .i64 r.2]):=by
 unfold Ho at h;split at h
 ·rw [Bool.cond_eq_ite]at h;split at h
  ·rename_i hb;cases h;rw [Nat.beq_eq]at hb;subst hb;rfl
  ·cases h
 ·cases h
def wm(M:Mem):Option V→FrameMode→Prop
 |none,m=>m = .returning
 |some x,m=>∃v,m = .panicking [{v,recovered:=false}]∧dj M v x
def t_(P:Program)(fd:FuncId)(args:List D)(H:List (List aW))(x:Option V)(R:List (List aW)→Prop):Prop:=
 ∀(K:Ctx) (w:World) (vs:List Value) (M:Mem) (β:Nat→Option Nat) (mode:FrameMode),vs.length=args.length→
  bL P K M β {env:=h3 args [],H:=cY 0 H,aY:=H.length} ⟨vs⟩ w→(∀r b,β r=some b→K.jO r=some b)→wm M x mode→
  CallsD P fd ⟨vs⟩ mode w λe nC w'=>∃v H' M' β',e = .returned v∧settle nC = .returning∧R H'∧bL P K M' β' {env:=ia (.ret (.cn []) none),H:=cY 0 H',aY:=H.length} #[v] w'
section
variable {P:Program} {K:Ctx} {M:Mem} {β:Nat→Option Nat} {st:aI} {tmps:Array Value} {w:World} {tt:dD}
def wm.aiX{x:Option V}{m:FrameMode}(h:wm M x m):m ≠ .run:=by
 cases x with
 |none=>intro hm;rw [hm]at h;cases h
 |some x=>obtain⟨v,Z,_⟩:=h;intro hm;rw [hm]at Z;cases Z
def wm.mono{M':Mem}(cX:M.le M'){x:Option V}{m:FrameMode}(h:wm M x m):wm M' x m:=by
 cases x with
 |none=>exact h
 |some x=>obtain⟨v,Z,ab⟩:=h;exact⟨v,Z,ab.mono cX⟩
def rc(P:Program)(tt:dD)(E:Nat)(rs:List ResultVar)(fd:FuncId)(ds:List D)(R:Out→List (List aW)→Prop)(x:Option V)(st:aI):Prop:=
 ∃(ρ:List Nat) (bs H1:List (List aW)) (jN:List D) (OR:List (List aW)→Prop),nt ρ=true∧boxes st.H ρ=some bs∧ke (idx ρ) bs=some H1∧lx (idx ρ) ds=some jN∧t_ P fd jN H1 x OR∧
  ∀cH,OR cH→∃iS o H',cH.length=ρ.length∧ke (λj=>ρ[j]?) cH=some iS∧Ab.leave tt E rs {env:=st.env,H:=ly ρ iS++st.H,aY:=st.aY}=some (o,H')∧R o (oq H')
def OS{fn:Func}{E:Nat}(cf:ff P tt=true)(eg:∀r b,K.jO r=some b→r<E)(hs:bL P K M β st tmps w){fd:FuncId}{ds:List D}{vs:List Value}(hlen:vs.length=ds.length)(av:∀(i:Nat) v d,vs[i]? = some v→ds[i]? = some d→cw M β v d)
 {x : Option V} {mode : FrameMode} (hm : wm M x mode) {f : Func} (ba : P.funcs[fd]? = some f) (hb : f.body.isSome = true) (jS : decide (f.name = "runtime.NumGoroutine") = false) {R : Out → List (List aW) → Prop} (k8 : rc P tt E fn.results.toList fd ds R x st) :
 Leaves P fn tmps (λe w'=>∃o H' v M' β',R o H'∧e=q2 o v∧bL P K M' β' {env:=ia o,H:=cY 0 H',aY:=E} #[v] w') [{target:=.fn (.func fd) ⟨vs⟩,args := #[]}] mode w:=by
 obtain⟨ρ,bs,H1,jN,OR,hn,k6,mw,e9,hd,gm⟩:=k8;have q8:f.body≠none:=by intro bm;rw [bm]at hb;cases hb
 have CJ : f.name ≠ "runtime.NumGoroutine" := by simpa using jS
 refine leaves_cons (f:=fd) (args:=⟨vs⟩) hm.aiX (by simp [invoke,callFunc,ba,q8,CJ]) ?_
 have hc:=Xf (hd:=[]) hs hn k6 mw hlen av e9 ⟨by simp,by simp,by simp⟩
 have e6:H1.length=ρ.length:=by rw [(yo mw).1,(vF k6).1]
 refine(hd (kG M β st tmps w ρ []) w vs M _ mode (by rw [hlen,XH e9]) hc (λr b h=>h) hm).mono ?_
 rintro e nC w' ⟨v,H',M',β',rfl,hu,aiY,cT⟩
 obtain⟨iS,o,Yy,Z,ab,aj,aD⟩:=gm H' aiY;rw [e6]at cT;obtain⟨cX,OT,_,_⟩:=NZ hs hn k6 ab Z cT
 dsimp only
 rw [hu];obtain⟨v2,aX,jB,M2,sD,bW,cZ⟩:=GZ cf eg OT aj;exact⟨v2,aX,o,oq Yy,jB,M2,sD,aD,bW,cZ.era⟩
def p9(P:Program)(_tt:dD)(fn:Func)(E:Nat)(c:Code)(R:Out→List (List aW)→Prop)(st:aI):Prop:=
 ∀(K:Ctx),K.ds=[]→(∀r b,K.jO r=some b→r<E)→∀(a:Act) (w:World),q9 P K fn.ntmps .normal st .normal a w→
  c.wp P (bodyPostD P fn λe w'=>∃o H' v M' β',R o H'∧e=q2 o v∧bL P K M' β' {env:=ia o,H:=cY 0 H',aY:=E} #[v] w') a w
def OU(P:Program)(tt:dD)(fn:Func)(E:Nat)(y:Code)(R:Out→List (List aW)→Prop):cq→aI→Prop
 |.normal,st=>p9 P tt fn E y R st
 |.ret,st=>∃o H',Ab.leave tt E fn.results.toList st=some (o,H')∧R o (oq H')
 |_,_=>False
def p9.seq{fn:Func}{E:Nat}{x y:Code}{R:Out→List (List aW)→Prop}(cf:ff P tt=true)(h:be P fn.ntmps E x (OU P tt fn E y R) st):p9 P tt fn E (.seq x y) R st:=by
 intro K ib eg a w hs;refine wp_seq (wp_mono (h K eg a w hs) ?_)
 rintro e dS w' ⟨fA,b9,Z,ab⟩
 cases fA with
 |normal=>obtain⟨rfl,aj⟩:=Z;exact ab K ib eg dS w' ⟨rfl,aj⟩
 |ret=>
  obtain⟨rfl,hd,_,M',β',cT⟩:=Z;obtain⟨o,H',aj,aD⟩:=ab;obtain⟨v,aX,jB,M2,sD,bW,cZ⟩:=GZ cf eg cT aj;show Leaves P fn dS.tmps _ dS.defers .returning w'
  rw [hd,ib];exact⟨v,aX,o,oq H',jB,M2,sD,aD,bW,cZ.era⟩
 |exit i=>exact ab.elim
 |bl x=>exact ab.elim
def OV(P:Program)(tt:dD)(E:Nat)(rs:List ResultVar)(fd:FuncId)(ds:List D)(R:Out→List (List aW)→Prop):cq→aI→Prop
 |.normal,st |.ret,st=>rc P tt E rs fd ds R none st
 |.bl x,st=>rc P tt E rs fd ds R (some x) st
 |.exit _,_=>False
def p9.defer{fn:Func}{E:Nat}{id:Nat}{opsA:Array Oper}{cV iv:Oper}{y:Code}{R:Out→List (List aW)→Prop}(cf:ff P tt=true)(nz:opsA = #[cV,iv]){t:Nat}{fd:FuncId}{fq:Array Operand}{c:Call}
 (Z:cV.op = .makeFunc (.func fd) #[] fq) (ab:cV.dst=some t) (aj:cV.guard=none) (aD:iv.op = .defer c) (aX:iv.dst=none) (bW:iv.guard=none) (cZ:c.callee = .value (.tmp t)) (dr:c.args = #[]) (aF:Nat.blt t fn.ntmps=true)
 {ds : List D} (aiZ : mapM' (rd st.env [] [] tt 0) fq.toList = some ds) (_hE : Nat.ble E st.aY = true) {f : Func} (ba : P.funcs[fd]? = some f) (hb : f.body.isSome = true) (jS : decide (f.name = "runtime.NumGoroutine") = false)
 (ib:vj st.aY ds=true)
 (h:be P fn.ntmps st.aY y (OV P tt E fn.results.toList fd ds R) {env:=del st.env t,H:=st.H,aY:=st.aY}):p9 P tt fn E (.seq (.region id opsA false) y) R st:=by
 rintro K ai0 eg a w ⟨_,hd,eo,M,β,cT⟩
 obtain⟨tmps,defers⟩:=a;simp only at hd eo
 rw [ai0]at hd;subst hd;have cO:t<tmps.size:=by rw [eo];simpa using aF
 -- l' captured values
 obtain⟨e6,eH⟩:=tJ aiZ;have p8:fG P K fn.ntmps M β {env:=st.env,b5:=[],H:=st.H,aY:=st.aY,rs:=[],a':=[]} tmps w:=⟨cT,eo,(λ_ _ h=>by simp [look]at h),λ_ _ _ h=>by simp [look]at h⟩
 have nw:∀(i:Nat) v d,(fq.toList.map (⟨tmps,[]⟩:Act).eval)[i]? = some v→ds[i]? = some d→cw M β v d:=by
  intro i v d av hd;rw [List.getElem?_map,Option.map_eq_some_iff]at av;obtain⟨x,hx,rfl⟩:=av;exact ed (ds:=[]) (p:=[]) p8 (λx hx=>by cases hx) (eH i x d hx hd)
 have hlen:(fq.toList.map (⟨tmps,[]⟩:Act).eval).length=ds.length:=by simp at e6 ⊢;omega
 -- l' frame behind l' region
 have p':bL P K M β {env:=del st.env t,H:=st.H,aY:=st.aY} (tmps.setIfInBounds t (.func (.func fd) #[] ⟨fq.toList.map (⟨tmps,[]⟩:Act).eval⟩)) w:=cT.drop
 let re:Ctx:={vl:=M,F:=K.F,jO:=λr=>if r<st.aY then β r else none,hY:=K.hY,ds:=[{target:=.fn (.func fd) ⟨fq.toList.map (⟨tmps,[]⟩:Act).eval⟩,args := #[]}]}
 have OT:bL P re M β {env:=del st.env t,H:=st.H,aY:=st.aY} (tmps.setIfInBounds t (.func (.func fd) #[] ⟨fq.toList.map (⟨tmps,[]⟩:Act).eval⟩)) w:=
  ⟨p'.e5,p'.own,p'.uniq,p'.unbox,p'.box,p'.inj,p'.lt,p'.mem,Mem.le_refl _,(λb a' dF=>⟨(p'.frame b a' dF).1,λ_=>rfl⟩),(λr b hb=>by
   simp only [re]at hb;split at hb
   ·exact hb
   ·cases hb),p'.jh,p'.hY⟩
 have OW:∀{M':Mem} {β':Nat→Option Nat} {b9:aI} {en:Array Value} {w':World},bL P re M' β' b9 en w'→bL P K M' β' b9 en w':=by
  intro M' β' b9 en w' cS
  exact⟨cS.e5,cS.own,cS.uniq,cS.unbox,cS.box,cS.inj,cS.lt,cS.mem,Mem.le_trans cT.m0 cS.m0,(λb a' dF=>⟨(cS.frame b a' dF).1,λo=>((cS.frame b a' dF).2 o).trans ((cT.frame b a' dF).2 o)⟩),(λr b hb=>cS.iC r b (by
   have eR:=cT.iC r b hb;have hG:=cT.lt r b eR;simp only [re];rw [if_pos hG];exact eR)),cS.jh,cS.hY⟩
 have hD:∀{M':Mem} {β':Nat→Option Nat} {b9:aI} {en:Array Value} {w':World},bL P re M' β' b9 en w'→∀r,r<st.aY→∀b,β r=some b→β' r=some b:=λcS r ai b hb=>cS.iC r b (by simp only [re];rw [if_pos ai];exact hb)
 refine wp_seq (wp_region ?_);subst nz
 have e1:(execOp (Act.eval ⟨tmps,[]⟩) cV).run P w = .ok (.value (.func (.func fd) #[] ⟨fq.toList.map (⟨tmps,[]⟩:Act).eval⟩)) w:=by
  simp only [execOp,Z,Instr.makeFunc];refine jj _ ?_;simp
  congr 1
  apply Array.ext';simp
 have e2:(execOp (Act.eval ⟨tmps.setIfInBounds t (.func (.func fd) #[] ⟨fq.toList.map (⟨tmps,[]⟩:Act).eval⟩),[]⟩) iv).run P w = .ok (.defer {target:=.fn (.func fd) ⟨fq.toList.map (⟨tmps,[]⟩:Act).eval⟩,args := #[]}) w:=by
  simp [execOp,aD,resolve,cZ,dr,Deferred.ofValue,Act.eval,cO]
 show wpOps P #[cV,iv] _ (List.range 2) ⟨tmps,[]⟩ w
 simp only [List.range,List.range.loop,wpOps];have yH:∀kK,Region.wanted cV (yielded #[cV,iv] kK)=true:=λkK=>by simp [Region.wanted,aj]
 have CK:∀kK,Region.wanted iv (yielded #[cV,iv] kK)=true:=λkK=>by simp [Region.wanted,bW]
 simp only [show(#[cV,iv]:Array Oper)[0]? = some cV from rfl,show(#[cV,iv]:Array Oper)[1]? = some iv from rfl,yH,CK,if_true]
 refine .inl ?_;unfold Oper.wp;rw [e1,Oper.upon_value,ab];refine .inl ?_;have ai1:(execOp ((⟨tmps,[]⟩:Act).put (some t) (.func (.func fd) #[] ⟨fq.toList.map (⟨tmps,[]⟩:Act).eval⟩)).eval iv).run P w = .ok (.defer {target:=.fn (.func fd) ⟨fq.toList.map (⟨tmps,[]⟩:Act).eval⟩,args := #[]}) w:=e2;rw [ai1,Oper.upon_defer,aX];show y.wp P _ ⟨tmps.setIfInBounds t _,[_]⟩ w
 have sC:∀r b,re.jO r=some b→r<st.aY:=by
  intro r b hb;simp only [re]at hb;split at hb
  ·assumption
  ·cases hb
 refine wp_mono (h re sC _ w ⟨rfl,rfl,by simpa using eo,M,β,OT⟩) ?_
 rintro e dS w' ⟨fA,b9,g1,g2⟩
 have o2:∀{M':Mem} {β':Nat→Option Nat} {b9:aI} {en:Array Value} {w':World},bL P re M' β' b9 en w'→∀(i:Nat) v d,(fq.toList.map (⟨tmps,[]⟩:Act).eval)[i]? = some v→ds[i]? = some d→cw M' β' v d:=by
  intro M' β' b9 en w' cS i v d av hd;have cX:M.le M':=cS.m0;exact((nw i v d av hd).mono cX).af_ (λr ai b hb=>hD cS r ai b hb) (tE ib hd)
 cases fA with
 |normal=>
  obtain⟨rfl,hd,_,M',β',hs⟩:=g1;show Leaves P fn dS.tmps _ dS.defers .returning w'
  rw [hd];exact OS cf eg (OW hs) hlen (o2 hs) (x:=none) rfl ba hb jS g2
 |ret=>
  obtain⟨rfl,hd,_,M',β',hs⟩:=g1;show Leaves P fn dS.tmps _ dS.defers .returning w'
  rw [hd];exact OS cf eg (OW hs) hlen (o2 hs) (x:=none) rfl ba hb jS g2
 |exit i=>exact g2.elim
 |bl x=>
  obtain⟨v,rfl,hd,M',β',f5,hs⟩:=g1;show Leaves P fn dS.tmps _ dS.defers (.panicking _) w'
  rw [hd];exact OS cf eg (OW hs) hlen (o2 hs) (x:=some x) ⟨v,rfl,f5⟩ ba hb jS g2
def q3.ai2 {f : FuncId} {fn : Func} {c : Code} {args : List D} {es : List (Nat × TypeId)} {H : List (List aW)} {R : Out → List (List aW) → Prop} (ba : P.funcs[f]? = some fn) (hb : fn.body = some c) (jS : decide (fn.name = "runtime.NumGoroutine") = false)
 (e9:Nat.ble args.length fn.ntmps=true) (h:p9 P tt fn H.length c R {env:=h3 args es,H:=cY 0 H,aY:=H.length}):q3 P f args es H R:=by
 refine⟨⟨fn,ba,by rw [hb];rfl,by simpa using jS⟩,?_⟩
 intro cE w vs M β hlen Ow Ox
 suffices key:∀K:Ctx,K.ds=[]→bL P K M β {env:=h3 args es,H:=cY 0 H,aY:=H.length} ⟨vs⟩ w→(∀r b,β r=some b→K.jO r=some b)→
  Calls P f ⟨vs⟩ w λe w'=>∃o H' v M' β',R o H'∧e=q2 o v∧bL P K M' β' {env:=ia o,H:=cY 0 H',aY:=H.length} #[v] w' from
  (key {cE with ds:=[]} rfl (Ow.vZ []) Ox).mono λe w' ⟨o,H',v,M',β',Z,ab,aj⟩=>⟨o,H',v,M',β',Z,ab,aj.vZ cE.ds⟩
 intro K ib cT hD;have eg:∀r b,K.jO r=some b→r<H.length:=λr b hb=>cT.lt r b (cT.iC r b hb)
 simp only [Nat.ble_eq]at e9;exact calls_of_wp_defers ba hb (h K ib eg {tmps:=(⟨vs⟩:Array Value)++Array.replicate (fn.ntmps-(⟨vs⟩:Array Value).size) undef,defers:=[]} w ⟨rfl,ib.symm,by simp;omega,M,β,Ov hlen cT⟩)
def t_.Yz{fd:FuncId}{fn:Func}{i0:Nat}{opsA:Array Oper}{cV iv:Oper}{rest:Code}{r t2:Nat}{c:Call}(cf:ff P tt=true)(ba:P.funcs[fd]? = some fn)(hb:fn.body=some (.seq (.region i0 opsA false) rest))(nz:opsA = #[cV,iv])
 (Z:cV.op = .call c) (ab:cV.dst=some r) (aj:cV.guard=none) (aD:c.callee = .builtin .recover) (aX:c.args = #[]) (bW:iv.op = .assign (.tmp r)) (cZ:iv.dst=some t2) (dr:iv.guard=none)
 {args:List D} {H:List (List aW)} {x:Option V} {R:List (List aW)→Prop} (ai:Nat.blt r fn.ntmps=true) (jT:Nat.blt t2 fn.ntmps=true) (e9:Nat.ble args.length fn.ntmps=true)
 (h:be P fn.ntmps H.length rest (sA tt H.length fn.results.toList λo H'=>o = .ret (.cn []) none∧R H') {env:=(t2,{d:=.v (x.getD .jA)})::del (h3 args []) r,H:=cY 0 H,aY:=H.length}):t_ P fd args H x R:=by
 intro K w vs M β mode hlen cT hD hm;have eg:∀r b,K.jO r=some b→r<H.length:=λr b hb=>cT.lt r b (cT.iC r b hb)
 simp only [Nat.ble_eq]at e9;simp only [Nat.blt_eq]at ai jT;refine callsD_of_wpS ba hb λua cs hu=>?_
 apply wpS_seq;apply wpS_region;subst nz;have yH:∀kK,Region.wanted cV (yielded #[cV,iv] kK)=true:=λkK=>by simp [Region.wanted,aj]
 have CK:∀kK,Region.wanted iv (yielded #[cV,iv] kK)=true:=λkK=>by simp [Region.wanted,dr]
 have e1:∀a:Act,(execOp a.eval cV).run P w = .ok .recover w:=λa=>by
  simp [execOp,Z,resolve,aD,aX,invoke,builtin]
 have dE:=Ov (n:=fn.ntmps-(⟨vs⟩:Array Value).size) hlen cT
 -- Gv 'recover' ah4
 have key:∃(v:Value) (nC:FrameMode),dj M v (x.getD .jA)∧settle nC = .returning∧(recoverD (ua::cs)=some (v,{ua with mode:=nC}::cs)∨(recoverD (ua::cs)=none∧v = .nilIface∧({ua with mode:=nC}:Frame)=ua)):=by
  cases x with
  |none=>
   have kr:mode = .returning:=hm;subst kr;exact⟨.nilIface,.returning,.jA,rfl,.inr ⟨by simp [recoverD,hu],rfl,by rw [←hu]⟩⟩
  |some y=>
   obtain⟨v,kr,av⟩:=hm;subst kr;exact⟨v,.panicking [{v,recovered:=true}],av,by simp [settle],.inl (by simp [recoverD,hu])⟩
 obtain⟨v,nC,av,lC,CL⟩:=key;show wpOpsS P #[cV,iv] _ (List.range 2) _ (ua::cs) w
 simp only [List.range,List.range.loop,wpOpsS,show(#[cV,iv]:Array Oper)[0]? = some cV from rfl,show(#[cV,iv]:Array Oper)[1]? = some iv from rfl,yH,CK,if_true,e1]
 have e2:∀kK:Array Value,r<kK.size→(execOp (Act.eval ⟨kK.setIfInBounds r v,[]⟩) iv).run P w = .ok (.value v) w:=λkK aF=>by
  simp [execOp,bW,Act.eval,aF]
 have eo:((⟨vs⟩:Array Value)++Array.replicate (fn.ntmps-(⟨vs⟩:Array Value).size) undef).size=fn.ntmps:=by simp;omega
 generalize auA:(⟨vs⟩:Array Value)++Array.replicate (fn.ntmps-(⟨vs⟩:Array Value).size) undef=kK at dE eo
 have k8:∀cs',cs'={ua with mode:=nC}::cs→rest.wpS P (bodyPostS P fn ua cs λe nC w'=>∃v H' M' β',e = .returned v∧settle nC = .returning∧R H'∧bL P K M' β' {env:=ia (.ret (.cn []) none),H:=cY 0 H',aY:=H.length} #[v] w')
  ⟨(kK.setIfInBounds r v).setIfInBounds t2 v,[]⟩ cs' w:=by
  intro cs' ei
  have wn:bL P {K with ds:=[]} M β {env:=(t2,{d:=.v (x.getD .jA)})::del (h3 args []) r,H:=cY 0 H,aY:=H.length} ((kK.setIfInBounds r v).setIfInBounds t2 v) w:=
   ((dE.drop (t:=r) (v:=v)).put (t:=t2) (v:=v) (e:={d:=.v (x.getD .jA)}) (by rw [Array.size_setIfInBounds,eo];exact jT) (.v _ _ av) (λT aC=>by cases aC)).vZ []
  refine wpS_of_wp (wp_mono (h {K with ds:=[]} eg _ w ⟨rfl,rfl,by simpa using eo,M,β,wn⟩) ?_)
  rintro e dS w' ⟨fA,b9,g1,g2⟩
  cases fA with
  |normal=>
   obtain⟨rfl,hd,_,M',β',hs⟩:=g1;obtain⟨o,H',g3,rfl,g4⟩:=g2;obtain⟨v2,g5,jB,M2,sD,g6,g7⟩:=X8 cf (K:={K with ds:=[]}) eg hs g3;cases g6;exact⟨hd,nC,ei,v2,g5,v2,H',M2,sD,rfl,lC,g4,g7.vZ K.ds⟩
  |ret=>
   obtain⟨rfl,hd,_,M',β',hs⟩:=g1;obtain⟨o,H',g3,rfl,g4⟩:=g2;obtain⟨v2,g5,jB,M2,sD,g6,g7⟩:=X8 cf (K:={K with ds:=[]}) eg hs g3;cases g6;exact⟨hd,nC,ei,v2,g5,v2,H',M2,sD,rfl,lC,g4,g7.vZ K.ds⟩
  |exit i=>exact g2.elim
  |bl y=>
   obtain⟨H',_,g4,_⟩:=g2;cases g4
 have e3:(execOp ((({tmps:=kK,defers:=[]}:Act).put cV.dst v).eval) iv).run P w = .ok (.value v) w:=by
  rw [ab];exact e2 kK (by omega)
 rcases CL with CL|⟨CL,rfl,hc0⟩
 ·simp only [CL,e3];rw [Oper.upon_value,ab,cZ];exact k8 _ rfl
 ·simp only [CL,e3];rw [Oper.upon_value,ab,cZ];exact k8 _ (by rw [hc0])
end
def p_(H:List (Nat×List aW)):Nat→List (Nat×List aW)
 | 0=>[]
 |n+1=>match look H n with
  |some cs=>(n,cs)::p_ H n
  |none=>p_ H n
def OX{H:List (Nat×List aW)}:∀{n q:Nat} {cs:List aW},look (p_ H n) q=some cs→q<n∧look H q=some cs
 | 0,q,cs,h=>by simp [p_,look]at h
 |n+1,q,cs,h=>by
  unfold p_ at h;split at h
  ·rename_i c hc;rw [dy]at h;split at h
   ·rename_i au;subst au;cases h;exact⟨by omega,hc⟩
   ·obtain⟨Z,ab⟩:=OX h;exact⟨by omega,ab⟩
  ·obtain⟨Z,ab⟩:=OX h;exact⟨by omega,ab⟩
def YA(mk:Nat)(ops:List Oper)(o:Oper)(x:V)(hs:List (Nat×List aW))(a':List Prop)(kt:List Nat)(rs:List fu)(tX:List (Nat×List aW)):eA:=
 {dst:=o.dst,p:=[],f:={e:=none,rs:=[],hs:=[(mk,[])],a'},kt,nA:=p4 ops o,p2:=q_ o,rs,kd:=1,v7:=x,p3:=hs,tX}
def YB(ops:List Oper)(o:Oper):eA:=
 {dst:=o.dst,p:=[],f:={e:=none,rs:=[]},kt:=[],nA:=p4 ops o,p2:=q_ o,rs:=[],kd:=2}
def sE(cm:gH)(tt:dD)(ops:List Oper)(gv mk:Nat):Nat→List Oper→List (List fu)→dg→Option (List eA×dg×List Prop×List (V×List (Nat×List aW)))
 |_,[],[],g=>some ([],g,[],[])
 |i,o::l,rs::jV,g=>bif Nat.beq i gv then match pQ ops g o with
  |some []=>match step1 cm tt ops {g with rs:=rs} [] o with
   |some (.bl x hs a')=>match sE cm tt ops gv mk (i+1) l jV (eE (YA mk ops o x hs a' (iY tt g [] o++List.range mk) rs g.H) g) with
    |some (cK,e4,tV,xs)=>some (YA mk ops o x hs a' (iY tt g [] o++List.range mk) rs g.H::cK,e4,tV++a',(x,hs++p_ g.H mk)::xs)
    |none=>none
   |_=>none
  |_=>none
  else bif waits ops gv 3 i then match sE cm tt ops gv mk (i+1) l jV (eE (YB ops o) g) with
   |some (cK,e4,tV,xs)=>some (YB ops o::cK,e4,tV,xs)
   |none=>none
  else match findD cm tt ops g o rs with
   |some E=>bif E.f.hs.all (λy=>!Nat.beq y.1 mk)then match sE cm tt ops gv mk (i+1) l jV (eE E g) with
    |some (cK,e4,tV,xs)=>some (E::cK,e4,tV++E.f.a'.map (under g E.p),xs)
    |none=>none
    else none
   |none=>none
 |_,_,_,_=>none
def CM(cm:gH)(tt:dD)(N:Nat)(ops:List Oper)(gv mk:Nat)(jV:List (List fu))(st:aI):Option (V×List (Nat×List aW)×List Prop):=
 match sE cm tt ops gv mk 0 ops jV (Hk ops st) with
 |some (cK,g,a',[(x,hs)])=>bif Hg N ops cK&&(look g.H mk).isSome&&(look st.H mk).isNone then some (x,hs,a')else none
 |_=>none
def OY:Option (V×List (Nat×List aW)×List Prop)→Option (V×List Prop)
 |some (x,_,ca)=>some (x,ca)
 |none=>none
def OZ:Option (V×List (Nat×List aW)×List Prop)→List (Nat×List aW)
 |some (_,H,_)=>H
 |none=>[]
section
variable {P:Program} {K:Ctx} {N E:Nat} {st:aI} {tt:dD} {opsA:Array Oper} {cm:gH}
structure YC(opsA:Array Oper)(cK:List eA)(gv mk:Nat)(x:V)(hs:List (Nat×List aW)):Prop where
 dead:∀(i:Nat) E,cK[i]? = some E→E.kd=2→waits opsA.toList gv 3 i=true
 bl:∀(i:Nat) E,cK[i]? = some E→E.kd=1→E.p=[]∧E.v7=x∧E.p3++p_ E.tX mk=hs∧∀q,q<mk→q∈E.kt
 go:∀(i:Nat) E,cK[i]? = some E→E.kd=0→i≠gv∧(E.f.hs.all (λy=>!Nat.beq y.1 mk))=true
 kd:∀(i:Nat) E,cK[i]? = some E→E.kd=0∨E.kd=1∨E.kd=2
def ai3{listed:Array Bool}(gM:ov opsA listed){i gv:Nat}(hi:i∈Region.ready .any opsA listed){n:Nat}(hw:waits opsA.toList gv n i=true):listed.getD gv false=true:=by
 cases n with
 |zero=>simp [waits]at hw
 |succ n=>
  obtain⟨_,o,aw,mv⟩:=mem_ready.1 hi;rw [waits]at hw;have aa:opsA.toList[i]? = some o:=by simpa using aw
  simp only [aa]at hw;obtain⟨e,he,hb⟩:=List.any_eq_true.1 hw;simp only [Bool.and_eq_true,Bool.or_eq_true,Nat.beq_eq]at hb;have Z:=mv e (by simpa using he) hb.1
  rcases hb.2 with rfl|ab
  ·exact Z
  ·exact G9 gM ab Z
def O0{mk:Nat}:∀{l H:List (Nat×List aW)},(l.all λy=>!Nat.beq y.1 mk)=true→look H mk=none→look (l++H) mk=none
 |[],_,_,h=>h
 |(a,b)::l,H,aa,h=>by
  simp only [List.all_cons,Bool.and_eq_true,Bool.not_eq_true']at aa;rw [List.cons_append,dy];have:a≠mk:=by intro e;subst e;simp at aa
  rw [if_neg this];exact O0 aa.2 h
def ai4{E:eA}{g:dg}{mk:Nat}(h:(E.f.hs.all λy=>!Nat.beq y.1 mk)=true)(hg:look g.H mk=none):look (eE E g).H mk=none:=by
 unfold eE;cases E.dst with
 |none=>exact O0 h hg
 |some t=>
  cases E.p with
  |nil=>exact O0 h hg
  |cons x p=>dsimp only;cases E.f.e<;>exact hg
def jD.YD(cf:ff P tt=true){cK:List eA}{gv mk:Nat}{x:V}{hs:List (Nat×List aW)}(kI:YC opsA cK gv mk x hs)(cP:∀(i:Nat) o E,opsA[i]? = some o→cK[i]? = some E→gO opsA.toList o E=true)(aV:∀(i:Nat) E,cK[i]? = some E→rb N E=true)(kF:CF opsA.toList cK=true){Q:Exit→Act→World→Prop}
 (ee:∀n e dS w',q9 P K N (.bl x) {env:=[],H:=hs,aY:=n} e dS w'→Q e dS w'):
 ∀(n:Nat) (listed:Array Bool) (g:dg) (tmps:Array Value) (w:World) (M:Mem) (β:Nat→Option Nat),jD (hO P) tt opsA cK (λg=>(look g.H mk).isSome=true) n listed g→listed.size=opsA.size→ov opsA listed→t' cK listed g→listed.getD gv false=false→look g.H mk=none→fG P K N M β g tmps w→wpAny P .any opsA Q n listed ⟨tmps,K.ds⟩ w
 | 0,_,g,tmps,w,M,β,h,_,_,_,_,eL,_=>by have:(look g.H mk).isSome=true:=h.2;rw [eL]at this;cases this
 |n+1,listed,g,tmps,w,M,β,h,eo,gM,ji,YE,eL,gl=>by
  refine⟨(λai=>by have:(look g.H mk).isSome=true:=h.1 ai;rw [eL]at this;cases this),λi hi=>?_⟩
  obtain⟨o,E,aw,b7,Hf,hn⟩:=h.2 i hi;have cO:i<listed.size:=by rw [eo];exact(Array.getElem?_eq_some_iff.1 aw).1
  have ow:listed.getD i false=false:=by have:=(mem_ready.1 hi).1;simpa [Array.getD_eq_getD_getElem?,cO]using this
  have p0:fG P K N M β {g with rs:=E.rs,a':=[]} tmps w:=⟨gl.bq,gl.size,gl.fresh,gl.cond⟩;unfold wpOp;simp only [aw];rcases kI.kd i E b7 with hk|hk|hk
  ·have jU:=Hf.resolve_left (by rw [hk];simp)
   obtain⟨Hp,vV⟩:=kI.go i E b7 hk;have OJ:=Yt (N:=N) hk jU b7 (cP i o E aw b7) (aV i E b7) kF gM ow ji;refine Cy p0 cf (opsA:=opsA) rfl OJ (λq au=>?_) (λen w' M' β' cS=>?_)
   ·obtain⟨q',pW,rfl⟩:=List.mem_map.1 au;exact jU.a' q' pW
   ·exact jD.YD cf kI cP aV kF ee n _ (eE E g) en w' M' β' hn (by simpa using eo) (gM.set hi) (ji.ap b7 cO) (by rw [getD_set_ne false Hp];exact YE) (ai4 vV eL) ⟨cS.bq,cS.size,cS.fresh,cS.cond⟩
  ·have jU:=Hf.resolve_left (by rw [hk];simp)
   obtain⟨hp,hx,ai5,o6⟩:=kI.bl i E b7 hk
   have dE:step1 (hO P) tt opsA.toList {g with rs:=E.rs,a':=[]} [] o=some (.bl x E.p3 E.f.a'):=by
    have Z:=jU.st;rw [hk,hp,hx]at Z;refine Eq.trans ?_ Z;exact OD (g1:={g with rs:=E.rs,a':=[]}) (g2:={g with rs:=E.rs}) (λ_ _ _ _=>⟨rfl,rfl⟩) rfl rfl (λ_=>rfl) (λ_ _=>rfl)
   have O1:pQ opsA.toList {g with rs:=E.rs,a':=[]} o=some []:=by rw [←hp];exact jU.G5
   have ai6:kg (hO P) tt N opsA.toList {g with rs:=E.rs,a':=[]} o=some (.bl x {env:=pP g.env,H:=E.p3++g.H,aY:=g.aY} (E.f.a'++[])):=by
    unfold kg;rw [O1]
    dsimp only
    rw [dE];rfl
   refine XW p0 cf (opsA:=opsA) rfl ai6 (λq au=>?_) (λe dS w' sC=>?_)
   ·rw [List.append_nil]at au;have:=jU.a' q au
    rw [hp]at this;exact this
   ·obtain⟨v,Z,ab,vy,sq,aj,aD⟩:=sC;have k8:=jU.fin hk
    have mc:∀q cs,look hs q=some cs→look (E.p3++g.H) q=some cs:=by
     intro q cs au;rw [←ai5,yD]at au;rw [yD];cases aa:look E.p3 q with
     |some c=>rw [aa]at au;exact au
     |none=>
      rw [aa]at au;obtain⟨aX,bW⟩:=OX au;rw [←bW];exact k8 q (o6 q aX)
    refine ee g.aY e dS w' ⟨v,Z,ab,vy,sq,aj,(aD.Cw _).sub rfl (λl aZ aa=>?_) (λq cs au=>⟨cs,mc q cs au,rfl⟩)⟩
    cases l with
    |slot s=>simp [aI.at,look]at aa
    |cell q i=>
     simp only [aI.at]at aa ⊢;cases au:look hs q with
     |none=>rw [au]at aa;simp at aa
     |some cs=>
      rw [au]at aa;rw [mc q cs au];exact⟨aZ,aa,rfl,λ_ h=>h⟩
  ·have:=ai3 gM hi (kI.dead i E b7 hk)
   rw [YE]at this;cases this
def Hq{ops:List Oper}{gv mk:Nat}{Fi:dg→Prop}:∀{l:List Oper} {i:Nat} {jV:List (List fu)} {g:dg} {cK:List eA} {e4:dg} {a':List Prop} {xs:List (V×List (Nat×List aW))},sE cm tt ops gv mk i l jV g=some (cK,e4,a',xs)→(∀q,q∈a'→q)→Fi e4→
 cK.length=l.length∧Hc cm tt ops Fi (lI l cK) g∧
 (∀(j:Nat) E,cK[j]? = some E→(E.kd=0∧i+j≠gv∧(E.f.hs.all (λy=>!Nat.beq y.1 mk))=true)∨(E.kd=1∧E.p=[]∧(E.v7,E.p3++p_ E.tX mk)∈xs∧∀q,q<mk→q∈E.kt)∨(E.kd=2∧waits ops gv 3 (i+j)=true))
 |[],i,[],g,cK,e4,a',xs,h,_,dF=>by
  simp only [sE,Option.some.injEq,Prod.mk.injEq]at h;obtain⟨rfl,rfl,rfl,rfl⟩:=h;exact⟨rfl,dF,by simp⟩
 |[],_,_::_,_,_,_,_,_,h,_,_=>by simp [sE]at h
 |_::_,_,[],_,_,_,_,_,h,_,_=>by simp [sE]at h
 |o::l,i,rs::jV,g,cK,e4,a',xs,h,cz,dF=>by
  have next:∀{E:eA} {wd:List eA} {yI:List (V×List (Nat×List aW))},(∀(j:Nat) E,wd[j]? = some E→(E.kd=0∧i+1+j≠gv∧(E.f.hs.all (λy=>!Nat.beq y.1 mk))=true)∨(E.kd=1∧E.p=[]∧(E.v7,E.p3++p_ E.tX mk)∈yI∧∀q,q<mk→q∈E.kt)∨(E.kd=2∧waits ops gv 3 (i+1+j)=true))→(∀z,z∈yI→z∈xs)→
   ((E.kd=0∧i≠gv∧(E.f.hs.all (λy=>!Nat.beq y.1 mk))=true)∨(E.kd=1∧E.p=[]∧(E.v7,E.p3++p_ E.tX mk)∈xs∧∀q,q<mk→q∈E.kt)∨(E.kd=2∧waits ops gv 3 i=true))→
   ∀(j:Nat) dm,(E::wd)[j]? = some dm→(dm.kd=0∧i+j≠gv∧(dm.f.hs.all (λy=>!Nat.beq y.1 mk))=true)∨(dm.kd=1∧dm.p=[]∧(dm.v7,dm.p3++p_ dm.tX mk)∈xs∧∀q,q<mk→q∈dm.kt)∨(dm.kd=2∧waits ops gv 3 (i+j)=true):=by
   intro E wd yI Z hx ab j dm hj;cases j with
   |zero=>simp at hj;subst hj;exact ab
   |succ j=>
    have:=Z j dm (by simpa using hj)
    rw [show i+1+j=i+(j+1)by omega]at this
    rcases this with aj|⟨aj,aD,aX,bW⟩|aj
    ·exact .inl aj
    ·exact .inr (.inl ⟨aj,aD,hx _ aX,bW⟩)
    ·exact .inr (.inr aj)
  simp only [sE]at h;rw [Bool.cond_eq_ite]at h;split at h
  ·rename_i Hp;split at h
   case h_2=>cases h
   rename_i O1;split at h
   case h_2=>cases h
   rename_i x hs Hh dE;split at h
   case h_2=>cases h
   rename_i wd g1 YF yI Z;simp only [Option.some.injEq,Prod.mk.injEq]at h;obtain⟨rfl,rfl,rfl,rfl⟩:=h;obtain⟨ab,aj,aD⟩:=Hq Z (λq au=>cz q (List.mem_append_left _ au)) dF
   refine⟨by simp [ab],⟨.inr ⟨O1,dE,(λq au=>cz q (List.mem_append_right _ au)),(λq au=>List.mem_append_left _ au),λ_ q _=>rfl⟩,aj⟩,next aD (λz dG=>List.mem_cons_of_mem _ dG) (.inr (.inl ⟨rfl,rfl,List.mem_cons_self ..,λq au=>List.mem_append_right _ (List.mem_range.2 au)⟩))⟩
  ·rename_i Hp;rw [Bool.cond_eq_ite]at h;split at h
   ·rename_i hw;split at h
    case h_2=>cases h
    rename_i wd g1 YF yI Z;simp only [Option.some.injEq,Prod.mk.injEq]at h;obtain⟨rfl,rfl,rfl,rfl⟩:=h;obtain⟨ab,aj,aD⟩:=Hq Z cz dF;exact⟨by simp [ab],⟨.inl rfl,aj⟩,next aD (λz dG=>dG) (.inr (.inr ⟨rfl,hw⟩))⟩
   ·split at h
    case h_2=>cases h
    rename_i E b7;rw [Bool.cond_eq_ite]at h;split at h
    case isFalse=>cases h
    rename_i pR;split at h
    case h_2=>cases h
    rename_i wd g1 YF yI Z;simp only [Option.some.injEq,Prod.mk.injEq]at h;obtain⟨rfl,rfl,rfl,rfl⟩:=h;obtain⟨ab,aj,aD⟩:=Hq Z (λq au=>cz q (List.mem_append_left _ au)) dF
    have OK:∀q,q∈E.f.a'→under g E.p q:=λq au=>cz _ (List.mem_append_right _ (List.mem_map.2 ⟨q,au,rfl⟩))
    have vV:=pR;unfold findD at b7;split at b7
    ·cases b7
    rename_i p hp;split at b7
    ·rename_i f ba;cases b7;exact⟨by simp [ab],⟨.inr ⟨hp,ba,OK,λ_ h=>h,λh=>by cases h⟩,aj⟩,next aD (λz dG=>dG) (.inl ⟨rfl,(by simpa using Hp),vV⟩)⟩
    ·cases b7
def be.ai7{id:Nat}{Q:cq→aI→Prop}(cf:ff P tt=true)(hm:P.follows .mixedOrders=true)(gv:Nat)(jV:List (Nat×List fu)){x:V}{ca:List Prop}(ai:OY (CM (hO P) tt N opsA.toList gv (st.aY+opsA.toList.length) (spread opsA.toList.length 0 jV) st)=some (x,ca))(cz:k9 ca)
 (ee:∀n,Q (.bl x) {env:=[],H:=OZ (CM (hO P) tt N opsA.toList gv (st.aY+opsA.toList.length) (spread opsA.toList.length 0 jV) st),aY:=n}):be P N E (.region id opsA true) Q st:=by
 rintro K eg a w ⟨_,hd,eo,M,β,cT⟩
 obtain⟨tmps,ds⟩:=a;simp only at hd eo
 subst hd;refine wp_region_any hm ?_;cases me:CM (hO P) tt N opsA.toList gv (st.aY+opsA.toList.length) (spread opsA.toList.length 0 jV) st with
 |none=>rw [me]at ai;cases ai
 |some res=>
 obtain⟨hM,ox,O2⟩:=res;rw [me]at ai ee;simp only [OY,Option.some.injEq,Prod.mk.injEq]at ai;obtain⟨rfl,rfl⟩:=ai;simp only [OZ]at ee;unfold CM at me;split at me
 case h_2=>cases me
 rename_i cK g tV md gl eM;rw [Bool.cond_eq_ite]at me;split at me
 case isFalse=>cases me
 rename_i hc;simp only [Option.some.injEq,Prod.mk.injEq]at me;obtain⟨rfl,rfl,rfl⟩:=me;simp only [Bool.and_eq_true,Option.isNone_iff_eq_none]at hc;obtain⟨⟨hc,qZ⟩,YG⟩:=hc;generalize auB:st.aY+opsA.toList.length=mk at eM qZ YG
 obtain⟨hlen,OO,Hr⟩:=Hq (Fi:=λg=>(look g.H mk).isSome=true) eM cz.mem qZ
 simp only [Hg,Bool.and_eq_true]at hc;obtain⟨⟨⟨c1,c2⟩,c3⟩,c4⟩:=hc
 have cP:∀(i:Nat) o E,opsA[i]? = some o→cK[i]? = some E→gO opsA.toList o E=true:=by
  intro i o E aw b7;obtain⟨k7,z2⟩:=we hlen i;have k3:opsA.toList[i]? = some o:=by simpa using aw
  rw [k3]at k7;rw [b7]at z2;cases dG:(lI opsA.toList cK)[i]? with
  |none=>rw [dG]at k7;simp at k7
  |some x=>
   rw [dG]at k7 z2;simp at k7 z2
   subst k7;subst z2;exact List.all_eq_true.1 c1 x (List.mem_of_getElem? dG)
 have aV:∀(i:Nat) E,cK[i]? = some E→rb N E=true:=λi E b7=>List.all_eq_true.1 c2 E (List.mem_of_getElem? b7)
 have CG:ov opsA (Array.replicate opsA.size false):=λj o aw hj=>by have cO:j<opsA.size:=(Array.getElem?_eq_some_iff.1 aw).1;simp [Array.getD_eq_getD_getElem?,cO]at hj
 have CH:=jD.text cP (λg1 g2 gP Z=>by rw [←gP.box mk];exact Z) (lI opsA.toList cK) 0 (Array.replicate opsA.size false) _ (λj=>by have:=(we hlen j).1;simpa using this) (λj=>by have:=(we hlen j).2;simpa using this)
  ⟨by simp,λj hj=>by simp [hj]⟩ CG c4 OO
 have vE:(lI opsA.toList cK).length=opsA.size:=by rw [OL hlen];simp
 rw [vE]at CH
 have kI:YC opsA cK gv mk md gl:=by
  constructor
  ·intro i E b7 hk;rcases Hr i E b7 with⟨Z,_⟩|⟨Z,_⟩|⟨_,Z⟩
   ·omega
   ·omega
   ·simpa using Z
  ·intro i E b7 hk;rcases Hr i E b7 with⟨Z,_⟩|⟨_,Z,ab,aj⟩|⟨Z,_⟩
   ·omega
   ·simp only [List.mem_singleton,Prod.mk.injEq]at ab;exact⟨Z,ab.1,ab.2,aj⟩
   ·omega
  ·intro i E b7 hk;rcases Hr i E b7 with⟨_,Z,ab⟩|⟨Z,_⟩|⟨Z,_⟩
   ·exact⟨by simpa using Z,ab⟩
   ·omega
   ·omega
  ·intro i E b7;rcases Hr i E b7 with⟨Z,_⟩|⟨Z,_⟩|⟨Z,_⟩
   ·exact .inl Z
   ·exact .inr (.inl Z)
   ·exact .inr (.inr Z)
 refine jD.YD (K:=K) (mk:=mk) cf kI cP aV c3 (λn e dS w' cS=>⟨_,_,cS,ee n⟩) _ _ _ tmps _ M β CH (by simp) CG (λx hx=>by cases hx) ?_ YG ⟨(cT.drew _).up _,eo,(λs id h _ b hb=>by have Z:=cT.lt _ _ hb;have ab:=(Hm _ _ _ (sm h)).1;simp only at ab;omega),λ_ _ _ h=>by simp [Hk,look]at h⟩
 rw [Array.getD_eq_getD_getElem?];by_cases Hs:gv<opsA.size
 ·simp [Hs]
 ·simp [Hs]
end
section
variable {P:Program} {tt:dD} {fn:Func} {E:Nat} {st:aI}
def O3{y:Code}{R:Out→List (List aW)→Prop}(h:p9 P tt fn E y R st):OU P tt fn E y R .normal st:=h
def ai8{y:Code}{out:Out}{CN:List (List aW)}(h:(Ab.leave tt E fn.results.toList st).map (λx=>(x.1,oq x.2))=some (out,CN)):OU P tt fn E y (λo H'=>o=out∧H'=CN) .ret st:=by
 rw [Option.map_eq_some_iff]at h;obtain⟨⟨o,H'⟩,Z,ab⟩:=h;cases ab;exact⟨o,H',Z,rfl,rfl⟩
def YH(tt:dD)(E:Nat)(rs:List ResultVar)(ds:List D)(ρ:List Nat)(cH:List (List aW))(st:aI):Option (List (List aW)×List D×Out×List (List aW)):=
 bif !nt ρ then none else match boxes st.H ρ,lx (idx ρ) ds,ke (λj=>ρ[j]?) cH with
  |some bs,some jN,some iS=>bif Nat.beq cH.length ρ.length then match ke (idx ρ) bs,Ab.leave tt E rs {env:=st.env,H:=ly ρ iS++st.H,aY:=st.aY} with
   |some H1,some (o,H')=>some (H1,jN,o,oq H')
   |_,_=>none
   else none
  |_,_,_=>none
def rc.of{rs:List ResultVar}{fd:FuncId}{ds jN:List D}{x:Option V}(ρ:List Nat){H1 cH CN:List (List aW)}{o:Out}(d:t_ P fd jN H1 x λH'=>H'=cH)(hc:YH tt E rs ds ρ cH st=some (H1,jN,o,CN)):
 rc P tt E rs fd ds (λo' H'=>o'=o∧H'=CN) x st:=by
 unfold YH at hc;rw [Bool.cond_eq_ite]at hc;split at hc
 ·cases hc
 rename_i hn;split at hc
 case h_2=>cases hc
 rename_i bs a iS k6 ha vL;rw [Bool.cond_eq_ite]at hc;split at hc
 case isFalse=>cases hc
 rename_i aa;split at hc
 case h_2=>cases hc
 rename_i ai9 o' H' mw f7;simp only [Option.some.injEq,Prod.mk.injEq]at hc;obtain⟨rfl,rfl,rfl,rfl⟩:=hc;refine⟨ρ,bs,ai9,a,_,(by simpa using hn),k6,mw,ha,d,λYy aj=>?_⟩
 subst aj;exact⟨iS,o',H',(by simpa using aa),vL,f7,rfl,rfl⟩
def ai'{rs:List ResultVar}{fd:FuncId}{ds:List D}{R:Out→List (List aW)→Prop}(h:rc P tt E rs fd ds R none st):OV P tt E rs fd ds R .ret st:=h
def YI{rs:List ResultVar}{fd:FuncId}{ds:List D}{R:Out→List (List aW)→Prop}{x:V}(h:rc P tt E rs fd ds R (some x) st):OV P tt E rs fd ds R (.bl x) st:=h
end
section
variable {P:Program}
def ai_{w:World}{b off:Nat}{vs:List Value}{T:TypeId}{oX:Nat×Nat}(h:w.heap[b]? = some (.cells ⟨vs⟩ T oX))(u:Value):
 (w.setCell ⟨b,off,none⟩ u).heap[b]? = some (.cells ⟨vs.set off u⟩ T oX):=by
 have cO:=lt_of_heap h;have cS:w.heap[b] = .cells ⟨vs⟩ T oX:=by simpa [Array.getElem?_eq_getElem cO]using h
 show(w.heap.modify b _)[b]? = _
 rw [Array.getElem?_eq_getElem (by simpa using cO),Array.getElem_modify_self,cS]
 simp
def aja{w:World}{b off:Nat}{u:Value}(k:Nat)(h:k≠b):(w.setCell ⟨b,off,none⟩ u).heap[k]? = w.heap[k]? := Go.RowKit.Below.heap_setCell w ⟨b,off,none⟩ u k h
def YJ {f : FuncId} {fd : Func} {off : Nat} {u : TypeId} (km : P.funcs[f]? = some fd) (O4 : fd.body.isSome = true) (hn : decide (fd.name = "runtime.NumGoroutine") = false)
 (ajb:∀(b:Nat) (w:World),w.cell? ⟨b,off,none⟩=some (.pointer (some ⟨b,off,none⟩))→Calls P f #[.pointer (some ⟨b,off,none⟩)] w λe w'=>e = .returned (.tuple #[])∧w'=w)
 (ajc:∀(b:Nat) (w:World) (T:TypeId) (k:Nat),w.cell? ⟨b,off,none⟩=some (.pointer none)→w.shape? b=some (T,k)→off<k→liesAt P P.depth T (k / P.cellsOf T) off u 1=true→w.frozen? ⟨b,off,none⟩=false→
  Calls P f #[.pointer (some ⟨b,off,none⟩)] w λe w'=>e = .returned (.tuple #[])∧w'=w.setCell ⟨b,off,none⟩ (.pointer (some ⟨b,off,none⟩)))
 {cs:List aW} (ei:cs[off]? = some ⟨.cu 0 off u,none⟩):gX P f [.ptr 0 off] [] [cs] (.ret (.cn []) none) [cs]:=by
 refine⟨⟨fd,km,O4,by simpa using hn⟩,λK w vs M β hlen hs hD=>?_⟩
 obtain⟨v,rfl⟩:∃v,vs=[v]:=by
  match vs,hlen with
  |[v],_=>exact⟨v,rfl⟩
 have sr:=hs.e5 (.slot 0) ⟨.ptr 0 off,none⟩ (by simp [aI.at,h3,su,cY,look])
 have vQ:ce (⟨[v]⟩:Array Value) w β (.slot 0)=v:=by simp [ce]
 rw [vQ]at sr;obtain⟨b,hb,rfl⟩:∃b,β 0=some b∧v = .pointer (some ⟨b,off,none⟩):=by cases sr with|ptr r o b h=>exact⟨b,h,rfl⟩
 have hl0:look (cY 0 [cs]) 0=some cs:=by simp [cY,look]
 obtain⟨bJ,ws,T,bQ,bm,YK,ajd,aje,gJ,hlies⟩:=hs.box 0 cs hl0;rw [hb]at bQ;cases bQ;have tT:off<cs.length:=(List.getElem?_eq_some_iff.1 ei).1;have CO:ws[off]? = some ws[off]:=List.getElem?_eq_getElem (by omega)
 have iq:w.cell? ⟨b,off,none⟩=some ws[off]:=by rw [cell_of_heap bm,CO]
 have f5:=hs.e5 (.cell 0 off) ⟨.cu 0 off u,none⟩ (by simp [aI.at,hl0,ei])
 have ci:ce (⟨[.pointer (some ⟨b,off,none⟩)]⟩:Array Value) w β (.cell 0 off)=ws[off]:=by simp [ce,hb,iq]
 rw [ci]at f5
 have fin:∀w',bL P K M β {env:=[],H:=cY 0 [cs],aY:=[cs].length} #[.tuple #[]] w'→bL P K M β {env:=ia (.ret (.cn []) none),H:=cY 0 [cs],aY:=[cs].length} #[.tuple #[]] w':=λw' h=>by
  have:=h.put (t:=0) (v:=.tuple #[]) (e:=⟨.cn [],none⟩) (by simp) (.cn [] [] rfl λi v c av=>by simp at av) (λT aC=>by cases aC)
  exact this
 generalize hx:ws[off]=x at iq f5 CO
 cases f5 with
 |l8 r o nC=>
  have hsh:w.shape? b=some (T,ws.length):=by simp [World.shape?,bm]
  have hfz:w.frozen? ⟨b,off,none⟩=false:=by simp [World.frozen?,bm]
  have k2:=hlies _ (List.mem_of_getElem? ei) 0 off u rfl;refine(ajc b w T ws.length iq hsh (by omega) k2 hfz).mono ?_
  rintro e w' ⟨rfl,rfl⟩
  refine⟨_,_,.tuple #[],M,β,⟨rfl,rfl⟩,rfl,fin _ ?_⟩
  have Z:=(hs.Cw #[.tuple #[]]).Gi (r:=0) (b:=b) (cs:=cs) (w':=w.setCell ⟨b,off,none⟩ (.pointer (some ⟨b,off,none⟩))) hl0 hb bm (vs':=ws.set off (.pointer (some ⟨b,off,none⟩))) (cs':=cs) (by simpa using YK)
   (λy b6=>by
    rcases List.mem_or_eq_of_mem_set b6 with h|rfl
    ·exact gJ y h
    ·rfl) (λh=>by rw [List.length_set];exact h) rfl (ai_ bm _) (λk hk=>aja k hk) cs.length (λi y e b6 he=>by
    by_cases hi:off=i
    ·subst hi;rw [List.getElem?_set_self (by omega)]at b6
     cases b6;rw [ei]at he;cases he;exact⟨.cu 0 off b u hb,λT aC=>by cases aC⟩
    ·rw [List.getElem?_set_ne hi]at b6;have Np:=(List.getElem?_eq_some_iff.1 he).1;refine⟨?_,λT aC=>.inl ⟨by omega,⟨e,he,aC⟩,b6⟩⟩
     have:=hs.e5 (.cell 0 i) e (by simp [aI.at,hl0,he])
     simpa [ce,hb,cell_of_heap bm,b6]using this)
  refine Z.sub rfl (λl e aa=>⟨e,?_,rfl,λ_ h=>h⟩) (λr c ai=>⟨c,?_,rfl⟩)
  ·cases l with
   |slot s=>exact aa
   |cell r i=>
    simp only [aI.at,dy]at aa ⊢;by_cases ai:r=0
    ·subst ai;rw [hl0]at aa;simpa using aa
    ·simp [cY,dy,Ne.symm ai,look]at aa
  ·simp only [dy]at ai ⊢;by_cases mq:r=0
   ·subst mq;rw [hl0]at ai;simpa using ai
   ·simp [cY,dy,Ne.symm mq,look]at ai
 |cu r o jn nC eV=>
  rw [hb]at eV;cases eV;refine(ajb b w iq).mono ?_
  rintro e w' ⟨rfl,rfl⟩
  exact⟨_,_,.tuple #[],M,β,⟨rfl,rfl⟩,rfl,fin _ (hs.Cw _)⟩
end
section
variable {P:Program}
def YL {f : FuncId} {fd : Func} {T5 : TypeId} (km : P.funcs[f]? = some fd) (O4 : fd.body.isSome = true) (hn : decide (fd.name = "runtime.NumGoroutine") = false) (ajf : P.cellsOf T5 = 1)
 (pR:∀(b:Nat) (w:World),w.cell? ⟨b,1,none⟩=some (.slice none 0 0)→Calls P f #[.pointer (some ⟨b,0,none⟩)] w λe w'=>e = .returned (.string ⟨#[]⟩)∧w'=w.drew)
 (gr:∀(b g cap:Nat) (w:World),cap≠0→w.cell? ⟨b,1,none⟩=some (.slice (some ⟨g,0,none⟩) 0 cap)→Calls P f #[.pointer (some ⟨b,0,none⟩)] w λe w'=>e = .returned (.string ⟨#[]⟩)∧w'=w.drew)
 (ajg:∀(b g:Nat) (w:World) (vs:List Value),w.cell? ⟨b,1,none⟩=some (.slice (some ⟨g,0,none⟩) 0 0)→b<w.heap.size→w.heap[g]? = some (.cells ⟨vs⟩ T5 (0,0))→
  Calls P f #[.pointer (some ⟨b,0,none⟩)] w λe w'=>e = .returned (.string ⟨#[]⟩)∧w'=(w.drew.alloc (.view ⟨g,0,none⟩ T5)))
 (vK:∀(b g cap:Nat) (w:World) (vs:List Value) (l:av3),l≠[]→w.cell? ⟨b,1,none⟩=some (.slice (some ⟨g,0,none⟩) l.length cap)→w.heap[g]? = some (.cells ⟨vs⟩ T5 (0,0))→
  l.length≤cap→cap≤vs.length→l.length≤9223372036854775807→(∀(j:Nat) (x:UInt8),l[j]? = some x→vs[j]? = some (Value.int .u8 x.toNat))→
  Calls P f #[.pointer (some ⟨b,0,none⟩)] w λe w'=>e = .returned (.string ⟨l.toArray⟩)∧w'=w.drew.freeze ⟨g,0,none⟩ l.length)
 {d0:aW} {cs:List aW} {l:av3} {n:Nat} {get:Nat→V} (iV:n=l.length∧∀i,i<l.length→get i = .int .u8 ((l.getD i 0).toNat:Int)) (h63:l.length≤9223372036854775807):
 gX P f [.ptr 0 0] [] [d0::⟨.v (.bM 1 n get),some T5⟩::cs] (.ret (.v (.str l)) none) [d0::⟨.v (.bM 1 n get),none⟩::cs]:=by
 obtain⟨rfl,iV⟩:=iV;refine⟨⟨fd,km,O4,by simpa using hn⟩,λK w vs M β hlen hs hD=>?_⟩
 obtain⟨v,rfl⟩:∃v,vs=[v]:=by
  match vs,hlen with
  |[v],_=>exact⟨v,rfl⟩
 have sr:=hs.e5 (.slot 0) ⟨.ptr 0 0,none⟩ (by simp [aI.at,h3,su,cY,look])
 have vQ:ce (⟨[v]⟩:Array Value) w β (.slot 0)=v:=by simp [ce]
 rw [vQ]at sr;obtain⟨b,hb,rfl⟩:∃b,β 0=some b∧v = .pointer (some ⟨b,0,none⟩):=by cases sr with|ptr r o b h=>exact⟨b,h,rfl⟩
 generalize l_:d0::(⟨.v (.bM 1 l.length get),some T5⟩:aW)::cs=nD at hs
 have kn:nD[1]? = some ⟨.v (.bM 1 l.length get),some T5⟩:=by rw [←l_];rfl
 have hl0:look (cY 0 [nD]) 0=some nD:=by simp [cY,look]
 obtain⟨bJ,ws,T,bQ,bm,YK,ajd,aje,gJ⟩:=hs.box 0 nD hl0;rw [hb]at bQ;cases bQ;have tT:1<nD.length:=(List.getElem?_eq_some_iff.1 kn).1;have CO:ws[1]? = some ws[1]:=List.getElem?_eq_getElem (by omega)
 have iq:w.cell? ⟨b,1,none⟩=some ws[1]:=by rw [cell_of_heap bm,CO]
 have YM:({env:=h3 [.ptr 0 0] [],H:=cY 0 [nD],aY:=[nD].length}:aI).at (.cell 0 1)=some ⟨.v (.bM 1 l.length get),some T5⟩:=by simp [aI.at,hl0,kn]
 have f5:=hs.e5 _ _ YM;have f0:=hs.own _ _ T5 YM rfl;have ci:ce (⟨[.pointer (some ⟨b,0,none⟩)]⟩:Array Value) w β (.cell 0 1)=ws[1]:=by simp [ce,hb,iq]
 rw [ci]at f5 f0
 -- l' state behind it
 have vJ:∀(j:Nat) aZ,(d0::(⟨.v (.bM 1 l.length get),none⟩:aW)::cs)[j]? = some aZ→∃bG,nD[j]? = some bG∧bG.d=aZ.d∧(∀T,aZ.own=some T→bG.own=some T∧j≠1):=by
  intro j aZ hj;rw [←l_]
  match j with
  | 0=>simp only [List.getElem?_cons_zero,Option.some.injEq]at hj ⊢;subst hj;exact⟨_,rfl,rfl,λT aC=>⟨aC,by omega⟩⟩
  | 1=>simp only [List.getElem?_cons_succ,List.getElem?_cons_zero,Option.some.injEq]at hj ⊢;subst hj;exact⟨_,rfl,rfl,λT aC=>by cases aC⟩
  |j+2=>simp only [List.getElem?_cons_succ]at hj ⊢;exact⟨aZ,hj,rfl,λT aC=>⟨aC,by omega⟩⟩
 obtain⟨p0,o5⟩:=hs.Wy (r:=0) (i:=1) (cs':=d0::⟨.v (.bM 1 l.length get),none⟩::cs) hl0 kn rfl (by rw [←l_];rfl) vJ (.slot 0)
 rw [ci]at o5
 have fin:∀w' M',bL P K M' β {env:=h3 [.ptr 0 0] [],H:=(0,d0::⟨.v (.bM 1 l.length get),none⟩::cs)::cY 0 [nD],aY:=[nD].length} ⟨[.pointer (some ⟨b,0,none⟩)]⟩ w'→
  bL P K M' β {env:=ia (.ret (.v (.str l)) none),H:=cY 0 [d0::⟨.v (.bM 1 l.length get),none⟩::cs],aY:=[nD].length} #[.string ⟨⟨l⟩⟩] w':=λw' M' h=>by
  have Z:=(h.Cw #[.string ⟨⟨l⟩⟩]).put (t:=0) (v:=.string ⟨⟨l⟩⟩) (e:=⟨.v (.str l),none⟩) (by simp) (.v _ _ (.str l)) (λT aC=>by cases aC)
  refine Z.sub rfl (λq e au=>⟨e,?_,rfl,λ_ h=>h⟩) (λr c ai=>⟨c,?_,rfl⟩)
  ·cases q with
   |slot s=>exact au
   |cell r i=>
    simp only [aI.at,dy]at au ⊢;by_cases ai:r=0
    ·subst ai;simpa [cY,look]using au
    ·simp [cY,dy,Ne.symm ai,look]at au
  ·simp only [dy]at ai ⊢;by_cases mq:r=0
   ·subst mq;simpa [cY,look]using ai
   ·simp [cY,dy,Ne.symm mq,look]at ai
 have ajh:b<w.heap.size:=lt_of_heap bm;have Ht:bL P K M β {env:=h3 [.ptr 0 0] [],H:=(0,d0::⟨.v (.bM 1 l.length get),none⟩::cs)::cY 0 [nD],aY:=[nD].length} ⟨[.pointer (some ⟨b,0,none⟩)]⟩ w.drew:=p0.drew _;have YN:[nD].length=1:=rfl;generalize hx:ws[1]=x at iq f5 f0 o5 CO
 rcases ki.bM f0 (f5)with h0|⟨g,n,cap,us,T',Z,ab,aj,aD,aX,bW,cZ⟩
 ·subst h0;obtain⟨_,aa⟩|⟨_,_,_,_,h,_⟩:=tI f5
  ·obtain rfl:=List.eq_nil_of_length_eq_zero aa;refine(pR b w iq).mono ?_
   rintro e w' ⟨rfl,rfl⟩
   exact⟨_,_,_,M,β,⟨rfl,rfl⟩,rfl,fin _ M Ht⟩
  ·cases h
 ·subst cZ
  have aji:∃(b off cap:Nat) (val:Nat→Nat→Value),x = .slice (some ⟨b,off,none⟩) l.length cap∧l.length≤cap∧(∀i,i<l.length→(get i).cells.length=1)∧(∀i j,i<l.length→j<1→M b (off+i*1+j)=some (val i j))∧
   (∀i j,i<l.length→j<1→(val i j).oneCell'=true)∧(∀(i j:Nat) c,i<l.length→(get i).cells[j]? = some c→dj M (val i j) c):=by
   rcases tI f5 with⟨h|⟨a,h⟩,dG⟩|hx
   ·rw [Z]at h;cases h
   ·rw [Z]at h;simp only [Value.slice.injEq,Option.some.injEq]at h;obtain⟨rfl,rfl,rfl⟩:=h;exact⟨g,0,0,λ_ _=>undef,Z.trans (by rw [dG]),by omega,λi hi=>by omega,λi j hi=>by omega,λi j hi=>by omega,λi j c hi=>by omega⟩
   ·exact hx
  obtain⟨g2,off,auC,val,av,hc,hk,cX,auD,hE⟩:=aji
  focus
  ·rw [Z]at av;simp only [Value.slice.injEq,Option.some.injEq,Addr.mk.injEq,and_true]at av;obtain⟨⟨rfl,rfl⟩,rfl,rfl⟩:=av;rw [ajf,Nat.mul_one]at aD;subst Z;by_cases aa:l=[]
   ·subst aa;by_cases hcap:cap=0
    ·subst hcap;refine(ajg b g w us iq ajh aj).mono ?_
     rintro e w' ⟨rfl,rfl⟩
     refine⟨_,_,_,M,β,⟨rfl,rfl⟩,rfl,fin _ M (Ht.grow (λk hk=>?_))⟩
     exact Go.Lib.alloc_old _ _ k hk
    ·refine(gr b g cap w hcap iq).mono ?_
     rintro e w' ⟨rfl,rfl⟩
     exact⟨_,_,_,M,β,⟨rfl,rfl⟩,rfl,fin _ M Ht⟩
   ·have Cb:∀(j:Nat) (x:UInt8),l[j]? = some x→us[j]? = some (Value.int .u8 x.toNat):=by
     intro j x hx;have hj:j<l.length:=(List.getElem?_eq_some_iff.1 hx).1;have e1:=hs.mem _ _ _ (cX j 0 hj (by omega))
     have e2:=iV j hj;have e3:=hE j 0 (.int .u8 ((l.getD j 0).toNat:Int)) hj (by rw [e2];rfl)
     rw [cell_of_heap aj,show 0+j*1+0=j by omega]at e1
     rw [e1];generalize val j 0=y at e3 ⊢
     cases e3;simp [List.getD,hx]
    refine(vK b g cap w us l aa iq aj hc aD h63 Cb).mono ?_
    rintro e w' ⟨rfl,rfl⟩
    refine⟨_,_,.string ⟨⟨l⟩⟩,M,β,⟨rfl,rfl⟩,rfl,fin _ M ?_⟩
    have hfz:(w.drew.freeze ⟨g,0,none⟩ l.length).os=w.drew.os∧(w.drew.freeze ⟨g,0,none⟩ l.length).output=w.drew.output∧(∀k,k≠g→(w.drew.freeze ⟨g,0,none⟩ l.length).heap[k]? = w.drew.heap[k]?)∧∃oX,(w.drew.freeze ⟨g,0,none⟩ l.length).heap[g]? = some (.cells ⟨us⟩ T' oX):=by
     have hg':w.drew.heap[g]? = some (.cells ⟨us⟩ T' (0,0)):=aj;have cO:=lt_of_heap hg';have cS:w.drew.heap[g] = .cells ⟨us⟩ T' (0,0):=by simpa [Array.getElem?_eq_getElem cO]using hg'
     unfold World.freeze;split
     ·exact⟨rfl,rfl,λ_ _=>rfl,_,hg'⟩
     ·refine⟨rfl,rfl,λk hk=>?_,?_⟩
      ·simp only [Array.getElem?_modify];rw [if_neg (by simpa using(Ne.symm hk))]
      ·simp only [Array.getElem?_modify];rw [if_pos trivial,hg'];exact⟨_,rfl⟩
    obtain⟨f1,f2,f3,oX,f4⟩:=hfz;refine Ht.free g bW (λr c ai mx=>o5.unbox g r c rfl ai mx) (λq e hh au tN ajj=>?_) (λk hk _=>f3 k hk) (Mem.le_refl _) (λ_ _ _=>rfl) (λo v av=>?_) (by rw [f1,f2])
    ·refine o5.apart q e hh g au tN ?_ rfl ajj
     rintro rfl
     simp only [aI.at,h3,su,cY,look]at au;simp at au;subst au;cases tN
    ·have:=hs.mem _ _ _ av
     rw [cell_of_heap aj]at this;rw [cell_of_heap f4,this]
end
def ub(w:World):Mem:=λb o=>w.cell? ⟨b,o,none⟩
def hz(w:World)(vs:List Value)(cs:List V):Prop:=
 vs.length=cs.length∧(∀v,v∈vs→v.oneCell'=true)∧∀(i:Nat) v c,vs[i]? = some v→cs[i]? = some c→dj (ub w) v c
def hz.nil{w:World}:hz w [] []:=⟨rfl,(λv h=>by cases h),λi v c h=>by simp at h⟩
def hz.one{w:World}{v:Value}{c:V}(Z:v.oneCell'=true)(h:dj (ub w) v c):hz w [v] [c]:=
 ⟨rfl,(λu hu=>by obtain rfl:=List.mem_singleton.1 hu;exact Z),λi u d hu hd=>by
  match i with
  | 0=>cases hu;cases hd;exact h
  |i+1=>simp at hu⟩
def hz.app{w:World}{vs us:List Value}{cs ds:List V}(h:hz w vs cs)(cS:hz w us ds):hz w (vs++us) (cs++ds):=by
 refine⟨by simp [h.1,cS.1],λv av=>?_,λi v c av hc=>?_⟩
 ·rcases List.mem_append.1 av with av|av
  ·exact h.2.1 v av
  ·exact cS.2.1 v av
 ·by_cases hi:i<vs.length
  ·rw [List.getElem?_append_left hi]at av;rw [List.getElem?_append_left (by rw [←h.1];exact hi)]at hc
   exact h.2.2 i v c av hc
  ·rw [List.getElem?_append_right (by omega)]at av
   rw [List.getElem?_append_right (by rw [←h.1];omega),←h.1]at hc
   exact cS.2.2 _ v c av hc
def hz.Hu{w:World}{vs:List Value}{cs ds:List V}(h:hz w vs cs)(av:kJ cs ds):hz w vs ds:=by
 refine⟨h.1.trans av.len,h.2.1,λi v c hi hc=>?_⟩
 obtain⟨x,hx,NE⟩:=av.at i hc;exact NE _ _ (h.2.2 i v x hi hx)
def hz.agg{w:World}{vs:List Value}{cs:List V}(h:hz w vs cs):dj (ub w) (.agg ⟨vs⟩) (.agg cs):=.agg vs cs h.1 h.2.1 h.2.2
def YO{α:Type}[Inhabited α]:∀(n:Nat) (Q:Nat→α→Prop),(∀i,i<n→∃a,Q i a)→∃l:List α,l.length=n∧∀i,i<n→Q i (l.getD i default)
 | 0,Q,h=>⟨[],rfl,λi hi=>by omega⟩
 |n+1,Q,h=>by
  obtain⟨l,Z,ab⟩:=YO n Q λi hi=>h i (by omega)
  obtain⟨a,ha⟩:=h n (by omega)
  refine⟨l++[a],by simp [Z],λi hi=>?_⟩
  by_cases hin:i<n
  ·have:=ab i hin
   simpa [List.getD,List.getElem?_append_left (show i<l.length by omega)]using this
  ·obtain rfl:i=n:=by omega
   simpa [List.getD,←Z]using ha
section
variable {H:Type} {enc:TypeId×Value→H} {P:Program} {w:World}
def wo{fuel:Nat}{t:TypeId}{k:IntKind}{cs:List Value}{x:DataW H×List MemPlace}(aF:P.underlying t=some (.int k))(h:DataW.trod enc P w 0 (λ_=>true) true fuel t cs=some x):
 ∃n:Int,(k.min≤n∧n≤k.max)∧hz w cs [.int k n]:=by
 obtain⟨n,rfl,_,hw⟩:=DataW.trod_int aF h;refine⟨n,by simpa [Lit.wf]using hw,.one rfl (.int _ _)⟩
def ajk{fuel:Nat}{t:TypeId}{cs:List Value}{x:DataW H×List MemPlace}(aF:P.underlying t=some .bool)(h:DataW.trod enc P w 0 (λ_=>true) true fuel t cs=some x):
 ∃b:Bool,hz w cs [.bool b]:=by
 obtain⟨b,rfl,_⟩:=DataW.trod_bool aF h;exact⟨b,.one rfl (.bool _)⟩
def yJ{fuel:Nat}{t:TypeId}{cs:List Value}{x:DataW H×List MemPlace}(aF:P.underlying t=some .string)(h:DataW.trod enc P w 0 (λ_=>true) true fuel t cs=some x):
 ∃s:av3,s.length≤9223372036854775807∧hz w cs [.str s]:=by
 obtain⟨s,rfl,_,hw⟩:=DataW.trod_string aF h;exact⟨s.data.toList,by simpa [maxLen]using hw,.one rfl (.str s.data.toList)⟩
def yK{α:Type}[Inhabited α]{fuel:Nat}{t e:TypeId}{k:Nat}{cs:List Value}{x:DataW H×List MemPlace}{encA:α→V}{ok:α→Prop}(aF:P.underlying t=some (.slice e))(hk:P.cellsOf e=k)(jp:0<k)
 (h:DataW.trod enc P w 0 (λ_=>true) true fuel t cs=some x)
 (ai:∀n cs' md,n<fuel→DataW.trod enc P w 0 (λ_=>true) true n e cs'=some md→∃a:α,ok a∧hz w cs' (encA a).cells):
 ∃l:List α,l.length≤9223372036854775807∧(∀i,i<l.length→ok (l.getD i default))∧hz w cs [af k encA l]:=by
 rcases DataW.trod_slice aF h with⟨rfl,_⟩|⟨a,len,cap,elems,rest,n,rfl,rfl,_,_,CP,ajl,lF,he,O5,_⟩
 ·exact⟨[],by simp,(λi hi=>by simp at hi),.one rfl (.l7 _ _)⟩
 ·have pU:∀i,i<len→∃b:α,ok b∧∃cs',w.cells? 0 (a.add (i*k)) k=some cs'∧hz w cs' (encA b).cells:=by
   intro i hi;have Z:=he i hi;rw [List.getElem?_eq_getElem (by omega),Option.bind_eq_some_iff,hk]at Z
   obtain⟨cs',ab,aj⟩:=Z;obtain⟨b,aD,aX⟩:=ai n cs' _ (by omega) aj
   exact⟨b,aD,cs',ab,aX⟩
  obtain⟨l,aa,ee⟩:=YO len _ pU;subst aa;refine⟨l,by unfold maxLen at ajl;omega,λi hi=>(ee i hi).1,?_⟩
  by_cases hc0:cap=0
  ·obtain rfl:l=[]:=List.eq_nil_of_length_eq_zero (by omega)
   subst hc0;exact .one rfl (.oT _ _ _)
  ·have YP:a.spot=none:=by
    have h0:∃cs',w.cells? 0 (a.add (0*k)) k=some cs':=by
     by_cases hl0:l.length=0
     ·obtain⟨Z,ab⟩:=O5 rfl;have aj:=ab 0 (by omega)
      rw [List.getElem?_eq_getElem (by omega),Option.bind_eq_some_iff,hk,hl0]at aj
      obtain⟨cs',aD,_⟩:=aj;exact⟨cs',aD⟩
     ·obtain⟨_,cs',aD,_⟩:=ee 0 (by omega)
      exact⟨cs',aD⟩
    obtain⟨cs',aD⟩:=h0;obtain⟨_,aX,bW⟩:=World.cells?_some aD;have cZ:=bW 0 jp;rw [List.getElem?_eq_getElem (by omega),Nat.zero_mul]at cZ
    have:(a.add 0).add 0=a:=by simp [Addr.add]
    rw [this]at cZ;exact World.cell?_spot cZ
   obtain⟨b,off,sp⟩:=a;simp only at YP
   subst YP
   have ci:∀i j,i<l.length→j<k→∃cs':List Value,cs'.length=k∧hz w cs' (encA (l.getD i default)).cells∧w.cell? ⟨b,off+i*k+j,none⟩=cs'[j]? := by
    intro i j hi hj;obtain⟨_,cs',Z,ab⟩:=ee i hi;obtain⟨_,aX,bW⟩:=World.cells?_some Z;refine⟨cs',aX,ab,?_⟩
    rw [←bW j hj,addr_add,addr_add]
   have YQ:∀i,i<l.length→(encA (l.getD i default)).cells.length=k:=by
    intro i hi;obtain⟨cs',Z,ab,_⟩:=ci i 0 hi jp;rw [←ab.1,Z]
   refine .one rfl (.bM b off k l.length cap _ (λi j=>(w.cell? ⟨b,off+i*k+j,none⟩).getD undef) CP YQ (λi j hi hj=>?_) (λi j hi hj=>?_) (λi j c hi hc=>?_))
   ·obtain⟨cs',Z,ab,aj⟩:=ci i j hi hj;unfold ub;rw [aj,List.getElem?_eq_getElem (by omega)];rfl
   ·obtain⟨cs',Z,ab,aj⟩:=ci i j hi hj;rw [aj,List.getElem?_eq_getElem (by omega)]
    exact ab.2.1 _ (List.getElem_mem _)
   ·have hj:j<k:=by rw [←YQ i hi];exact(List.getElem?_eq_some_iff.1 hc).1
    obtain⟨cs',Z,ab,aj⟩:=ci i j hi hj;rw [aj,List.getElem?_eq_getElem (by omega)]
    exact ab.2.2 j _ c (List.getElem?_eq_getElem (by omega)) hc
end
section
variable {P:Program} {K:Ctx} {N E:Nat} {M:Mem} {β:Nat→Option Nat} {st b9:aI} {tmps:Array Value} {w:World}
mutual
def rf(r:Nat)(x:V):D→D
 |.v y=>.v y
 |.ptr q off=>bif Nat.beq q r&&Nat.beq off 0 then .e8 x else .ptr q off
 |.cu q off u=>.cu q off u
 |.e8 y=>.e8 y
 |.full k n g=>.full k n g
 |.fn f cs=>.fn f (rh r x cs)
 |.agg cs=>.agg (rh r x cs)
 |.cn cs=>.cn (rh r x cs)
def rh(r:Nat)(x:V):List D→List D
 |[]=>[]
 |d::l=>rf r x d::rh r x l
end
def Hv(r:Nat)(x:V):∀(l:List D) (i:Nat),(rh r x l)[i]? = (l[i]?).map (rf r x)
 |[],i=>by simp [rh]
 |d::l,0=>by simp [rh]
 |d::l,i+1=>by simp only [rh,List.getElem?_cons_succ];exact Hv r x l i
def Hw(r:Nat)(x:V):∀l:List D,(rh r x l).length=l.length
 |[]=>rfl
 |d::l=>by simp only [rh,List.length_cons,Hw r x l]
def cw.oX{M':Mem}(cX:M.le M'){r b:Nat}{x:V}{u:Value}(hb:β r=some b)(hx:x.isAgg=false)(hu:M' b 0=some u)(Z:u.oneCell'=true)(ai:dj M' u x){v:Value}{d:D}(h:cw M β v d):cw M' β v (rf r x d):=by
 induction h with
 |v u x h=>exact .v u x (h.mono cX)
 |ptr q off bJ h=>
  simp only [rf];cases hc:Nat.beq q r&&Nat.beq off 0 with
  |false=>exact .ptr q off bJ h
  |true=>
   simp only [Bool.and_eq_true,Nat.beq_eq]at hc;obtain⟨rfl,rfl⟩:=hc;rw [hb]at h;cases h;have yw:=yi hx;refine .e8 b 0 x (λ_=>u) (λj hj=>?_) (λj hj=>Z) (λj c hc=>?_)
   ·rw [yw]at hj;simp at hj
    subst hj;exact hu
   ·rw [yw]at hc;cases j with
    |zero=>simp at hc;subst hc;exact ai
    |succ j=>simp at hc
 |l8 q off t=>exact .l8 q off t
 |cu q off bJ t h=>exact .cu q off bJ t h
 |e8 b off x val hm Z h=>exact .e8 b off x val (λj hj=>cX _ _ _ (hm j hj)) Z (λj c hc=>(h j c hc).mono cX)
 |full base k n get h=>exact .full base k n get (h.mono cX)
 |fn f vs cs hn _ aJ=>
  simp only [rf];refine .fn f vs _ (by rw [Hw];exact hn) λi v c av hc=>?_
  rw [Hv]at hc;simp only [Option.map_eq_some_iff]at hc;obtain⟨c0,h0,rfl⟩:=hc;exact aJ i v c0 av h0
 |agg vs cs hn Z _ aJ=>
  simp only [rf];refine .agg vs _ (by rw [Hw];exact hn) Z λi v c av hc=>?_
  rw [Hv]at hc;simp only [Option.map_eq_some_iff]at hc;obtain⟨c0,h0,rfl⟩:=hc;exact aJ i v c0 av h0
 |cn vs cs hn _ aJ=>
  simp only [rf];refine .cn vs _ (by rw [Hw];exact hn) λi v c av hc=>?_
  rw [Hv]at hc;simp only [Option.map_eq_some_iff]at hc;obtain⟨c0,h0,rfl⟩:=hc;exact aJ i v c0 av h0
def yL(r:Nat)(x:V)(e:aW):aW:={d:=rf r x e.d,own:=e.own}
def Hx(r:Nat)(x:V):List (Nat×aW)→List (Nat×aW)
 |[]=>[]
 |(t,e)::l=>(t,yL r x e)::Hx r x l
def Hy(r:Nat)(x:V):List (Nat×List aW)→List (Nat×List aW)
 |[]=>[]
 |(t,cs)::l=>(t,cs.map (yL r x))::Hy r x l
def YR(r:Nat)(x:V):∀(l:List (Nat×aW)) (s:Nat),look (Hx r x l) s=(look l s).map (yL r x)
 |[],s=>rfl
 |(t,e)::l,s=>by
  simp only [Hx,dy];by_cases h:t=s
  ·simp [h]
  ·simp only [h,if_false];exact YR r x l s
def O6(r:Nat)(x:V):∀(l:List (Nat×List aW)) (s:Nat),look (Hy r x l) s=(look l s).map λcs=>cs.map (yL r x)
 |[],s=>rfl
 |(t,cs)::l,s=>by
  simp only [Hy,dy];by_cases h:t=s
  ·simp [h]
  ·simp only [h,if_false];exact O6 r x l s
def uc(r:Nat)(x:V)(st:aI):aI:={env:=Hx r x st.env,H:=Hy r x (del st.H r),aY:=st.aY}
def CQ{r:Nat}{x:V}{l:Loc}{aZ:aW}(h:(uc r x st).at l=some aZ):∃e,aI.at {env:=st.env,H:=del st.H r,aY:=st.aY} l=some e∧aZ=yL r x e:=by
 cases l with
 |slot s=>
  simp only [aI.at,uc,YR,Option.map_eq_some_iff]at h ⊢;obtain⟨e,Z,ab⟩:=h;exact⟨e,Z,ab.symm⟩
 |cell q i=>
  simp only [aI.at,uc,O6,Option.bind_eq_some_iff,Option.map_eq_some_iff]at h ⊢;obtain⟨cs,⟨lG,Z,rfl⟩,ab⟩:=h;rw [List.getElem?_map,Option.map_eq_some_iff]at ab;obtain⟨e,aj,aD⟩:=ab;exact⟨e,⟨lG,Z,aj⟩,aD.symm⟩
def ajm{r:Nat}{x:V}{d:D}{q off:Nat}{u:TypeId}(h:rf r x d = .cu q off u):d = .cu q off u:=by
 cases d<;>simp only [rf]at h
 case ptr q' o'=>cases hc:Nat.beq q' r&&Nat.beq o' 0<;>rw [hc]at h<;>cases h
 all_goals first|exact h|cases h
def bL.freeze(h:bL P K M β st tmps w){r:Nat}{x:V}{own:Option TypeId}(ai:look st.H r=some [⟨.v x,own⟩])(hx:x.isAgg=false):∃M',bL P K M' β (uc r x st) tmps w:=by
 obtain⟨b,vs,T,hb,bm,hlen,YS,dF,gJ,hlies⟩:=h.box r _ ai
 obtain⟨u,rfl⟩:∃u,vs=[u]:=by
  match vs,hlen with
  |[u],_=>exact⟨u,rfl⟩
 have Hz:∀q cs,look (del st.H r) q=some cs→q≠r∧look st.H q=some cs:=by
  intro q cs au;rw [qR]at au;split at au
  ·cases au
  ·rename_i dk;exact⟨λe=>dk e.symm,au⟩
 have Z:bL P K M β {env:=st.env,H:=del st.H r,aY:=st.aY} tmps w:=h.sub rfl (λl e aa=>by
  cases l with
  |slot s=>exact⟨e,aa,rfl,λ_ h=>h⟩
  |cell q i=>
   simp only [aI.at,Option.bind_eq_some_iff]at aa ⊢;obtain⟨cs,ab,aj⟩:=aa;exact⟨e,⟨cs,(Hz _ _ ab).2,aj⟩,rfl,λ_ h=>h⟩) (λq cs au=>⟨cs,(Hz _ _ au).2,rfl⟩)
 have hle:M.le (jl M b 0 [u]):=Nw λo _=>YS o
 have iq:jl M b 0 [u] b 0=some u:=by simp [jl]
 have ab:bL P K (jl M b 0 [u]) β {env:=st.env,H:=del st.H r,aY:=st.aY} tmps w:=by
  refine Z.free b dF (λq cs au ajn=>?_) (λl e T' aa aC nv=>?_) (λ_ _ _=>rfl) hle (λbJ o dk=>by simp [jl,dk]) (λo v av=>?_)
  ·obtain⟨aj,aD⟩:=Hz _ _ au;exact aj (h.inj q r b _ _ aD ai ajn hb)
  ·have hl0:∃bG,st.at l=some bG∧bG.own=some T':=by
    cases l with
    |slot s=>exact⟨e,aa,aC⟩
    |cell q i=>
     simp only [aI.at,Option.bind_eq_some_iff]at aa ⊢;obtain⟨cs,aj,aD⟩:=aa;exact⟨e,⟨cs,(Hz _ _ aj).2,aD⟩,aC⟩
   obtain⟨bG,aj,aD⟩:=hl0;exact h.unbox l bG T' b r _ aj aD nv ai hb
  ·rw [cell_of_heap bm];unfold jl at av;split at av
   ·rename_i hc;simpa using av
   ·rw [YS o]at av;cases av
 have f5:dj (jl M b 0 [u]) u x:=by
  have aj:=h.e5 (.cell r 0) ⟨.v x,own⟩ (by rw [aI.M6 ai];rfl)
  have aD:ce tmps w β (.cell r 0)=u:=by simp only [ce,hb,cell_of_heap bm];simp
  rw [aD]at aj;cases aj with
  |v _ _ aX=>exact aX.mono hle
 refine⟨jl M b 0 [u],?_⟩
 have vm:∀q cs',look (uc r x st).H q=some cs'→∃cs,look (del st.H r) q=some cs∧cs'=cs.map (yL r x):=by
  intro q cs' au;simp only [uc,O6,Option.map_eq_some_iff]at au;obtain⟨cs,aj,aD⟩:=au;exact⟨cs,aj,aD.symm⟩
 constructor
 ·intro l aZ aa;obtain⟨e,aj,rfl⟩:=CQ aa;exact(ab.e5 l e aj).oX (Mem.le_refl _) hb hx iq (gJ u (by simp)) f5
 ·intro l aZ T' aa aC;obtain⟨e,aj,rfl⟩:=CQ aa;exact ab.own l e T' aj aC
 ·intro l cI e aZ T' ajo bJ aa aC cN ec;obtain⟨e1,aj,rfl⟩:=CQ aa;obtain⟨e2,aD,rfl⟩:=CQ cN;exact ab.uniq l cI e1 e2 T' ajo bJ aj aC aD ec
 ·intro l e T' bJ q cs aa aC nv au;obtain⟨e1,aj,rfl⟩:=CQ aa;obtain⟨lG,aD,_⟩:=vm q cs au;exact ab.unbox l e1 T' bJ q lG aj aC nv aD
 ·intro q cs au;obtain⟨lG,aD,rfl⟩:=vm q cs au;obtain⟨bJ,vs',T',g1,g2,g3,g4,g5,g6,g7⟩:=ab.box q lG aD;refine⟨bJ,vs',T',g1,g2,by simpa using g3,g4,g5,g6,λe he q' off t hd=>?_⟩
  obtain⟨bG,M_,rfl⟩:=List.mem_map.1 he;exact g7 bG M_ q' off t (ajm hd)
 ·intro q q' bJ cs cs' au pW cy eV;obtain⟨c1,aj,_⟩:=vm q cs au;obtain⟨c2,aD,_⟩:=vm q' cs' pW;exact ab.inj q q' bJ c1 c2 aj aD cy eV
 ·exact ab.lt
 ·exact ab.mem
 ·exact ab.m0
 ·exact ab.frame
 ·exact ab.iC
 ·exact ab.jh
 ·exact ab.hY
def CR(H:List (Nat×List aW))(r:Nat):Option V:=
 match look H r with
 |some [⟨.v x,_⟩]=>bif x.isAgg then none else some x
 |_=>none
def be.freeze{c:Code}{Q:cq→aI→Prop}(r:Nat)(x:V)(ai:CR st.H r=some x)(h:be P N E c Q (uc r x st)):be P N E c Q st:=by
 rintro K eg a w ⟨he,hd,eo,M,β,cT⟩
 unfold CR at ai;split at ai
 ·rename_i y own aa;rw [Bool.cond_eq_ite]at ai;split at ai
  ·cases ai
  ·rename_i hx;cases ai;obtain⟨M',hs⟩:=cT.freeze aa (by simpa using hx)
   exact h K eg a w ⟨he,hd,eo,M',β,hs⟩
 ·cases ai
def CS(r:Nat)(st:aI):aI:=match CR st.H r with
 |some x=>uc r x st
 |none=>st
def O7(r:Nat)(Q:cq→aI→Prop):cq→aI→Prop
 |.normal,st=>Q .normal (CS r st)
 |.ret,st=>Q .ret (CS r st)
 |e,st=>Q e st
def YT{K:Ctx}{M:Mem}{β:Nat→Option Nat}{tmps:Array Value}{w:World}(r:Nat)(h:bL P K M β st tmps w):∃M',bL P K M' β (CS r st) tmps w:=by
 unfold CS;cases hx:CR st.H r with
 |none=>exact⟨M,h⟩
 |some x=>
  unfold CR at hx;split at hx
  ·rename_i y own aa;rw [Bool.cond_eq_ite]at hx;split at hx
   ·cases hx
   ·rename_i ajp;cases hx;exact h.freeze aa (by simpa using ajp)
  ·cases hx
def be.oX{x:Code}{Q:cq→aI→Prop}(r:Nat)(h:be P N E x (O7 r Q) st):be P N E x Q st:=by
 intro K eg a w hs;refine wp_mono (h K eg a w hs) ?_
 rintro e dS w' ⟨fA,b9,Z,ab⟩
 cases fA with
 |normal=>
  obtain⟨g1,g2,g3,M,β,g4⟩:=Z;obtain⟨M',g5⟩:=YT r g4;exact⟨.normal,_,⟨g1,g2,g3,M',β,g5⟩,ab⟩
 |ret=>
  obtain⟨g1,g2,g3,M,β,g4⟩:=Z;obtain⟨M',g5⟩:=YT r g4;exact⟨.ret,_,⟨g1,g2,g3,M',β,g5⟩,ab⟩
 |exit i=>exact⟨.exit i,b9,Z,ab⟩
 |bl x=>exact⟨.bl x,b9,Z,ab⟩
def CT(s e:aW):aW:=match s.own with|none=>{d:=e.d} |some _=>e
def yM:List (Nat×aW)→List (Nat×aW)→List (Nat×aW)
 |(_,s)::l,(t,e)::m=>(t,CT s e)::yM l m
 |_,m=>m
def oy:List aW→List aW→List aW
 |s::l,e::m=>CT s e::oy l m
 |_,m=>m
def yN:List (Nat×List aW)→List (Nat×List aW)→List (Nat×List aW)
 |(_,s)::l,(t,cs)::m=>(t,oy s cs)::yN l m
 |_,m=>m
def fit(s st:aI):aI:={env:=yM s.env st.env,H:=yN s.H st.H,aY:=st.aY}
def HA(s e:aW):(CT s e).d=e.d∧∀T,(CT s e).own=some T→e.own=some T:=by
 unfold CT;split
 ·exact⟨rfl,λT h=>by cases h⟩
 ·exact⟨rfl,λT h=>h⟩
def YU:∀(l m:List (Nat×aW)) (t:Nat) (aZ:aW),look (yM l m) t=some aZ→∃e,look m t=some e∧e.d=aZ.d∧∀T,aZ.own=some T→e.own=some T
 |[],m,t,aZ,h=>⟨aZ,by simpa [yM]using h,rfl,λ_ h=>h⟩
 |(a,s)::l,[],t,aZ,h=>by simp [yM,look]at h
 |(a,s)::l,(q,e)::m,t,aZ,h=>by
  simp only [yM,dy]at h ⊢;split at h
  ·rename_i au;rw [if_pos au];cases h;exact⟨e,rfl,(HA s e).1.symm,(HA s e).2⟩
  ·rename_i au;rw [if_neg au];exact YU l m t aZ h
def YV:∀(l m:List aW) (i:Nat) (aZ:aW),(oy l m)[i]? = some aZ→∃e,m[i]? = some e∧e.d=aZ.d∧∀T,aZ.own=some T→e.own=some T
 |[],m,i,aZ,h=>⟨aZ,by simpa [oy]using h,rfl,λ_ h=>h⟩
 |s::l,[],i,aZ,h=>by simp [oy]at h
 |s::l,e::m,0,aZ,h=>by
  simp only [oy,List.getElem?_cons_zero,Option.some.injEq]at h;subst h;exact⟨e,rfl,(HA s e).1.symm,(HA s e).2⟩
 |s::l,e::m,i+1,aZ,h=>by
  simp only [oy,List.getElem?_cons_succ]at h ⊢;exact YV l m i aZ h
def YW:∀l m:List aW,(oy l m).length=m.length
 |[],m=>by simp [oy]
 |s::l,[]=>by simp [oy]
 |s::l,e::m=>by simp only [oy,List.length_cons,YW l m]
def O8:∀(l m:List (Nat×List aW)) (t:Nat) (cs':List aW),look (yN l m) t=some cs'→∃cs s,look m t=some cs∧cs'=oy s cs
 |[],m,t,cs',h=>⟨cs',[],by simpa [yN]using h,by simp [oy]⟩
 |(a,s)::l,[],t,cs',h=>by simp [yN,look]at h
 |(a,s)::l,(q,cs)::m,t,cs',h=>by
  simp only [yN,dy]at h ⊢;split at h
  ·rename_i au;rw [if_pos au];cases h;exact⟨cs,s,rfl,rfl⟩
  ·rename_i au;rw [if_neg au];exact O8 l m t cs' h
def bL.fit(h:bL P K M β st tmps w)(s:aI):bL P K M β (fit s st) tmps w:=
 h.sub rfl (λl aZ aa=>by
  cases l with
  |slot t=>exact YU _ _ _ _ aa
  |cell q i=>
   simp only [aI.at,Ab.fit,Option.bind_eq_some_iff]at aa;obtain⟨cs',Z,ab⟩:=aa;obtain⟨cs,z,aj,rfl⟩:=O8 _ _ _ _ Z;obtain⟨e,aD,aX⟩:=YV _ _ _ _ ab;exact⟨e,by simp only [aI.at,aj,Option.bind_some];exact aD,aX⟩) (λq cs' au=>by
   obtain⟨cs,z,aj,rfl⟩:=O8 _ _ _ _ au;exact⟨cs,aj,(YW _ _).symm⟩)
def be.fit{c:Code}{Q:cq→aI→Prop}(s:aI)(h:be P N E c Q (Ab.fit s st)):be P N E c Q st:=by
 rintro K eg a w ⟨he,hd,eo,M,β,cT⟩
 exact h K eg a w ⟨he,hd,eo,M,β,cT.fit s⟩
def be.O9{c:Code}{Q:cq→aI→Prop}(s:aI)(live yd:List Nat)(n:Nat)(ai:(vk live yd n st.env st.H st.aY).map (Ab.fit s)=some b9)(b7:Nat.ble E n=true)(h:be P N E c Q b9):be P N E c Q st:=by
 simp only [Option.map_eq_some_iff]at ai;obtain⟨auE,Z,rfl⟩:=ai;exact be.drop live yd n Z b7 (h.fit s)
def forget(pb:List Nat):List (Nat×aW)→List (Nat×aW)
 |[]=>[]
 |(t,e)::l=>(t,bif pb.any (Nat.beq t)then {d:=e.d}else e)::forget pb l
def YX(pb:List Nat):∀(m:List (Nat×aW)) (t:Nat) (aZ:aW),look (forget pb m) t=some aZ→∃e,look m t=some e∧e.d=aZ.d∧∀T,aZ.own=some T→e.own=some T
 |[],t,aZ,h=>by simp [forget,look]at h
 |(q,e)::m,t,aZ,h=>by
  simp only [forget,dy]at h ⊢;split at h
  ·rename_i au;rw [if_pos au];cases h;refine⟨e,rfl,?_⟩
   cases pb.any (Nat.beq q)
   ·exact⟨rfl,λ_ h=>h⟩
   ·exact⟨rfl,λT h=>by cases h⟩
  ·rename_i au;rw [if_neg au];exact YX pb m t aZ h
def be.forget{c:Code}{Q:cq→aI→Prop}(pb:List Nat)(h:be P N E c Q {env:=Ab.forget pb st.env,H:=st.H,aY:=st.aY}):be P N E c Q st:=by
 rintro K eg a w ⟨he,hd,eo,M,β,cT⟩
 refine h K eg a w ⟨he,hd,eo,M,β,cT.sub rfl (λl aZ aa=>?_) (λq cs au=>⟨cs,au,rfl⟩)⟩
 cases l with
 |slot t=>exact YX _ _ _ _ aa
 |cell q i=>exact⟨aZ,aa,rfl,λ_ h=>h⟩
end
def ud(st:aI):dg:={env:=st.env,b5:=[],H:=st.H,aY:=st.aY,rs:=[],a':=[]}
def ue:Option tC→dg
 |some (.go g)=>g
 |_=>{env:=[],b5:=[],H:=[],aY:=0,rs:=[],a':=[]}
def O':Option tC→Option (List Prop)
 |some (.go g)=>some g.a'
 |_=>none
def YY(g:dg):aI:={env:=g.env,H:=g.H,aY:=g.aY}
def ri(o:Oper)(b:Bool):Oper:={o with op:=.move (.const (.bool b))}
def YZ{x:Option tC}{ca:List Prop}(h:O' x=some ca):x=some (.go (ue x))∧(ue x).a'=ca:=by
 cases x with
 |none=>cases h
 |some f=>
  cases f with
  |go g=>exact⟨rfl,by injection h⟩
  |bl _ _ _=>cases h
section
variable {P:Program} {N E:Nat} {st:aI} {tt:dD}
def be.Y0{id:Nat}{kL cV:Oper}{t1:Nat}{ty Ok e:TypeId}{k n:Nat}{get:Nat→V}{own:Option TypeId}{Q:cq→aI→Prop}
 (cf:ff P tt=true) (Z:cV.op = .binOp .eql ty (.tmp t1) (.const (.slice none 0 0)) Ok) (hg:cV.guard=none) (o4:P.underlying ty=some (.slice e))
 (ajq:O' (kg (hO P) tt N [kL,cV] (ud st) kL)=some [])
 (av:look (ue (kg (hO P) tt N [kL,cV] (ud st) kL)).env t1=some ⟨.v (.bM k n get),own⟩)
 (s1:∀b,O' (kg (hO P) tt N [kL,ri cV b] (ue (kg (hO P) tt N [kL,cV] (ud st) kL)) (ri cV b))=some [])
 (ee:∀b:Bool,(b=true→n=0)→Q .normal (YY (ue (kg (hO P) tt N [kL,ri cV b] (ue (kg (hO P) tt N [kL,cV] (ud st) kL)) (ri cV b))))):
 be P N E (.region id #[kL,cV] false) Q st:=by
 rintro K eg a w ⟨_,hd,eo,M,β,cT⟩
 obtain⟨tmps,ds⟩:=a;simp only at hd eo
 subst hd;have p8:fG P K N M β (ud st) tmps w:=⟨cT,eo,(λ_ _ h=>by simp [ud,look]at h),λ_ _ _ h=>by simp [ud,look]at h⟩
 refine wp_region ?_;obtain⟨bG,O2⟩:=YZ ajq;generalize ue (kg (hO P) tt N [kL,cV] (ud st) kL)=g1 at bG O2 av s1 ee
 show wpOps P #[kL,cV] _ [0,1] ⟨tmps,K.ds⟩ w
 rw [wpOps];refine Cy (ops:=[kL,cV]) p8 cf (opsA := #[kL,cV]) rfl bG (λq au=>by rw [O2]at au;cases au) ?_
 intro en w' M' β' cS;rw [wpOps];show if Region.wanted cV (yielded #[kL,cV] en)=true then _ else _
 rw [if_pos (by unfold Region.wanted;rw [hg])]
 have ai:=cS.bq.e5 (.slot t1) _ av
 obtain⟨base,len,cap,ci,hb⟩:∃(base:Option Addr) (len cap:Nat),en.getD t1 undef = .slice base len cap∧(base=none→n=0):=by
  have fe:cw M' β' (en.getD t1 undef) (.v (.bM k n get)):=ai;generalize en.getD t1 undef=v at fe
  cases fe with
  |v _ _ hx=>
   cases hx with
   |l7=>exact⟨none,0,0,rfl,λ_=>rfl⟩
   |oT a=>exact⟨some a,0,0,rfl,λh=>by cases h⟩
   |bM b off _ _ cap=>exact⟨some ⟨b,off,none⟩,_,cap,rfl,λh=>by cases h⟩
 obtain⟨e1,Hh⟩:=YZ (s1 base.isNone);have k8:=ee base.isNone (λh=>hb (by cases base with|none=>rfl|some _=>cases h))
 generalize ue (kg (hO P) tt N [kL,ri cV base.isNone] g1 (ri cV base.isNone))=g2 at e1 Hh k8
 have uf:=Cy (ops:=[kL,ri cV base.isNone]) cS cf (opsA := #[kL,ri cV base.isNone]) rfl e1 (λq au=>by rw [Hh]at au;cases au)
  (Q:=λe dS w'=>∃fA b9,q9 P K N fA b9 e dS w'∧Q fA b9) (next:=λdS w'=>∃fA b9,q9 P K N fA b9 .normal dS w'∧Q fA b9)
  (λauF auG M2 sD ab=>⟨.normal,YY g2,⟨rfl,rfl,ab.size,M2,sD,ab.bq⟩,k8⟩)
 rw [if_pos (by unfold Region.wanted ri;rw [hg])]at uf
 have hx:(execOp (Act.eval ⟨en,K.ds⟩) cV).run P w' = .ok (.value (.bool base.isNone)) w':=by
  rw [yy];refine q7 (a:=.slice base len cap) (b:=.slice none 0 0) Z ci rfl (vN (by simp) (by simp)) ?_
  exact Lib.run_eql_slice_nil w' ty e base len cap 0 0 o4
 refine .inl (show Oper.upon P cV ⟨en,K.ds⟩ _ _ ((execOp (Act.eval ⟨en,K.ds⟩) cV).run P w') from(?_))
 rw [hx,Oper.upon_value,wpOps];rcases uf with uf|⟨uf,_⟩
 ·unfold Oper.wp at uf;rw [show(execOp (Act.eval ⟨en,K.ds⟩) (ri cV base.isNone)).run P w' = .ok (.value (.bool base.isNone)) w' from rfl,Oper.upon_value]at uf
  exact uf
 ·exact absurd uf.1 (by intro bm;have:noRoomEvent∈(#[]:Array Event):=bm;cases this with|mk h=>cases h)
end
end Go.Ab

/- The abstract machine: a step of code over plain data, proved against the model. -/
import Derived.Orders
import Derived.Scope
import Derived.Recover
import Derived.Lib.Builder
import Derived.Lib.UnsafeStr
import Derived.ChangeSame
import Derived.OpenShut
import Derived.ReadAgain
import Derived.Lib.SliceRun
import Derived.Test.YtbncfepdlmnmiaaGreatDoorMachB
set_option linter.all false
namespace Go.Ab
def lp:List Prop→Prop
 |[]=>True
 |p::l=>p∧lp l
def lp.mem:∀{l:List Prop},lp l→∀q,q∈l→q
 |[],_,q,h=>by cases h
 |p::l,hp,q,h=>by
  rcases List.mem_cons.1 h with rfl|h
  ·exact hp.1
  ·exact lp.mem hp.2 q h
section
variable {P:Program} {N E:Nat} {st:aH} {tt:dH}
def ba.cut{x y:Code}{Q:cr→aH→Prop}(J:aH→Prop)(Z:ba P N E x (cr.then J Q) st)(aa:∀bY,J bY→ba P N E y Q bY):ba P N E (.seq x y) Q st:=
 ba.seq (Z.mono λfr bY h=>by cases fr<;>first|exact aa bY h|exact h)
def cr.px{next:aH→Prop}{Q:cr→aH→Prop}(h:next st):cr.then next Q .normal st:=h
def cr.WR{next:aH→Prop}{Q:cr→aH→Prop}{x:V}(h:Q (.aJ x) st):cr.then next Q (.aJ x) st:=h
def cr.ahy{Q:cr→aH→Prop}{i:Nat}(h:Q .normal st):cr.inBlock i Q (.exit i) st:=by simpa [cr.inBlock]using h
def cr.ahz{Q:cr→aH→Prop}{i j:Nat}(dL:Nat.beq j i=false)(h:Q (.exit j) st):cr.inBlock i Q (.exit j) st:=by
 have:j≠i:=by rintro rfl;simp at dL
 simpa [cr.inBlock,this]using h
def ahA {f : FuncId} {fn : Func} {c : Code} {args : List D} {er : List (Nat × TypeId)} {H cE : List (List aW)} {out : Out} (cf : fe P tt = true) (bP : P.funcs[f]? = some fn) (hb : fn.body = some c) (kb : decide (fn.name = "runtime.NumGoroutine") = false)
 (e5:Nat.ble args.length fn.ntmps=true) (h:ba P fn.ntmps H.length c (sA tt H.length fn.results.toList λo H'=>o=out∧H'=cE) {env:=h7 args er,H:=cX 0 H,aX:=H.length}):gL P f args er H out cE:=
 q_.of_wp cf bP hb kb e5 h
def ahB{rs:List ResultVar}{out:Out}{cE:List (List aW)}(h:leave tt E rs st=some (out,cE)):sA tt E rs (λo H'=>o=out∧H'=cE) .ret st:=⟨out,cE,.inl h,rfl,rfl⟩
def NQ{rs:List ResultVar}{out:Out}{cE:List (List aW)}(h:leave tt E rs st=some (out,cE)):sA tt E rs (λo H'=>o=out∧H'=cE) .normal st:=⟨out,cE,.inl h,rfl,rfl⟩
def ahC{rs:List ResultVar}{out:Out}{cE:List (List aW)}{c:Nat}(h:sz tt E c rs st=some (out,cE)):sA tt E rs (λo H'=>o=out∧H'=cE) .ret st:=⟨out,cE,.inr ⟨c,h⟩,rfl,rfl⟩
def ahD{rs:List ResultVar}{x:V}{cE:List (List aW)}(h:(GT E st.H).map oD=some cE):sA tt E rs (λo H'=>o = .aJ x∧H'=cE) (.aJ x) st:=by
 rw [Option.map_eq_some_iff]at h;obtain⟨H',Z,aa⟩:=h;exact⟨H',Z,rfl,aa⟩
end
def av{α:Type}(b:Bool)(x:Option α):Option α:=bif b then x else none
def sC{α:Type}{b:Bool}{x:Option α}{r:α}(h:av b x=some r):b=true∧x=some r:=by
 cases b
 ·cases h
 ·exact⟨rfl,h⟩
def bind_some{α β:Type}{x:Option α}{f:α→Option β}{r:β}(h:Option.bind x f=some r):∃a,x=some a∧f a=some r:=Option.bind_eq_some_iff.1 h
def dh{α:Type}{b:Bool}{x y z:α}(hb:b=true)(h:(bif b then x else y)=z):x=z:=by subst hb;exact h
def gN{c x:Bool}(h:(!c||x)=true)(hc:c=true):x=true:=by subst hc;simpa using h
def e7{c x:Bool}(h:(c||x)=true)(hc:c=false):x=true:=by subst hc;simpa using h
def ag{α:Type}[Inhabited α](k:Nat)(e:α→V)(l:List α):V:=.bJ k l.length λi=>e (l.getD i default)
def ik(x:V):hv x x:=λ_ _ h=>h
def qd{k n:Nat}{g e0:Nat→V}(h:∀i,i<n→g i=e0 i):hv (.bJ k n g) (.bJ k n e0):=by
 intro M v au;cases au with
 |mu=>exact .mu _ _
 |pZ=>exact .pZ _ _ _
 |bJ b off k n cap g val hc hk c7 Z ai=>
  exact .bJ b off k n cap e0 val hc (λi hi=>by rw [←h i hi];exact hk i hi) c7 Z (λi j c hi l9=>ai i j c hi (by rw [h i hi];exact l9))
def ahE{α:Type}[Inhabited α]{k:Nat}{e:α→V}{xs:List V}{l:List α}(h:xs=l.map e)(n:Nat)(hn:n=l.length):hv (.bJ k n λi=>xs.getD i .fC) (ag k e l):=by
 subst h;subst hn;refine qd λi hi=>?_
 simp [List.getD,List.getElem?_eq_getElem hi]
def gh{α:Type}[Inhabited α]{k:Nat}{e:α→V}(l jr:List α):hv (.bJ k (l.length+jr.length) λi=>bif Nat.blt i l.length then e (l.getD i default)else e (jr.getD (i-l.length) default)) (ag k e (l++jr)):=by
 rw [ag,List.length_append];refine qd λi hi=>?_
 by_cases h:i<l.length
 ·have hb:Nat.blt i l.length=true:=by simpa using h
  simp [hb,List.getD,List.getElem?_append_left h]
 ·have hb:Nat.blt i l.length=false:=by rw [Bool.eq_false_iff];simpa using h
  simp [hb,List.getD,List.getElem?_append_right (Nat.le_of_not_lt h)]
def WS(l:List Int)(s:au'):hv (.bJ 1 (l.length+s.length) λi=>bif Nat.blt i l.length then .int .u8 (l.getD i default)else .int .u8 (s.getD (i-l.length) 0).toNat) (ag 1 (λx=>.int .u8 x) (l++s.map λb=>(b.toNat:Int))):=by
 have ab:(l++s.map λb=>(b.toNat:Int)).length=l.length+s.length:=by simp
 rw [ag,ab];refine qd λi hi=>?_
 by_cases h:i<l.length
 ·have hb:Nat.blt i l.length=true:=by simpa using h
  simp [hb,List.getD,List.getElem?_append_left h]
 ·have hb:Nat.blt i l.length=false:=by rw [Bool.eq_false_iff];simpa using h
  have aa:i-l.length<s.length:=by omega
  simp [hb,List.getD,List.getElem?_append_right (Nat.le_of_not_lt h),aa]
def ahF{α:Type}[Inhabited α]{k:Nat}{e:α→V}(l:List α)(a:Int):hv (.bJ k (l.length-a.toNat) λi=>e (l.getD (a.toNat+i) default)) (ag k e (l.drop a.toNat)):=by
 rw [ag,List.length_drop];exact qd λi hi=>by simp [List.getD]
def NR{α:Type}[Inhabited α]{k:Nat}{e:α→V}(l:List α)(b:Int)(h:0≤b∧b≤l.length):hv (.bJ k b.toNat λi=>e (l.getD i default)) (ag k e (l.take b.toNat)):=by
 have:(l.take b.toNat).length=b.toNat:=by simp;omega
 rw [ag,this];exact qd λi hi=>by simp [List.getD,hi]
section
variable {P:Program} {N E:Nat} {st bY:aH}
def ba.drop{c:Code}{Q:cr→aH→Prop}(live yu:List Nat)(n:Nat)(ai:vE live yu n st.env st.H st.aX=some bY)(b2:Nat.ble E n=true)(h:ba P N E c Q bY):ba P N E c Q st:=by
 rintro K eh a w ⟨he,hd,en,M,β,cT⟩
 obtain⟨Cg,hs⟩:=cT.vE ai (λr b hb=>Nat.lt_of_lt_of_le (eh r b hb) (by simpa using b2))
 exact h K eh a w ⟨he,hd,en,M,Cg,hs⟩
end
def all_nil:lp []:=trivial
def all_cons{p:Prop}{l:List Prop}(h:p)(ab:lp l):lp (p::l):=⟨h,ab⟩
inductive aB(α β:Type) where
 |ret (a:α) (b:β)
 |aJ (x:V) (b:β)
def aB.on{α β dO:Type}(x:aB α β)(f:α→β→dO)(g:V→β→dO):dO:=
 match x with
 |.ret a b=>f a b
 |.aJ x b=>g x b
def f6{b:Bool}(h:b=false):(!b)=true:=by subst h;rfl
def yT{a b:Bool}(h:a=true)(aa:b=true):(a&&b)=true:=by subst h;subst aa;rfl
inductive lq:List V→List V→Prop where
 |nil:lq [] []
 |cons {x y:V} {xs ys:List V} (h:hv x y) (ab:lq xs ys):lq (x::xs) (y::ys)
def lq.len:∀{xs ys:List V},lq xs ys→xs.length=ys.length
 |_,_,.nil=>rfl
 |_,_,.cons _ ab=>by simp [ab.len]
def lq.at:∀{xs ys:List V},lq xs ys→∀(i:Nat) {y:V},ys[i]? = some y→∃x,xs[i]? = some x∧hv x y
 |_,_,.nil,i,y,h=>by simp at h
 |_,_,.cons h ab,i,y,b1=>by
  cases i with
  |zero=>simp at b1;subst b1;exact⟨_,rfl,h⟩
  |succ i=>simp at b1;simpa using ab.at i b1
def WT{xs ys:List V}(h:lq xs ys):hv (.agg xs) (.agg ys):=by
 intro M v au;cases au with
 |agg vs cs hn Z ai=>
  refine .agg vs ys (hn.trans h.len) Z (λi v c au hc=>?_)
  obtain⟨x,hx,hi⟩:=h.at i hc;exact hi M v (ai i v x au hx)
def ahG{k n:Nat}{g e0:Nat→V}(h:∀i,i<n→lq (g i).cells (e0 i).cells):hv (.bJ k n g) (.bJ k n e0):=by
 intro M v au;cases au with
 |mu=>exact .mu _ _
 |pZ=>exact .pZ _ _ _
 |bJ b off k n cap g val hc hk c7 Z ai=>
  refine .bJ b off k n cap e0 val hc (λi hi=>by rw [←(h i hi).len];exact hk i hi) c7 Z (λi j c hi l9=>?_)
  obtain⟨x,hx,ahH⟩:=(h i hi).at j l9;exact ahH M _ (ai i j x hi hx)
inductive mf{α:Type}(e:α→V):List V→List α→Prop where
 |nil:mf e [] []
 |cons {x:V} {y:α} {xs:List V} {ys:List α} (h:lq x.cells (e y).cells) (ab:mf e xs ys):mf e (x::xs) (y::ys)
def mf.len{α:Type}{e:α→V}:∀{xs:List V} {ys:List α},mf e xs ys→xs.length=ys.length
 |_,_,.nil=>rfl
 |_,_,.cons _ ab=>by simp [ab.len]
def mf.at{α:Type}[Inhabited α]{e:α→V}:∀{xs:List V} {ys:List α},mf e xs ys→∀(i:Nat),i<ys.length→lq (xs.getD i .fC).cells (e (ys.getD i default)).cells
 |_,_,.nil,i,h=>by simp at h
 |_,_,.cons h ab,i,b1=>by
  cases i with
  |zero=>simpa using h
  |succ i=>simpa using ab.at i (by simpa using b1)
def GV{α:Type}[Inhabited α]{k:Nat}{e:α→V}{xs:List V}{l:List α}(h:mf e xs l)(n:Nat)(hn:n=l.length):hv (.bJ k n λi=>xs.getD i .fC) (ag k e l):=by
 subst hn;exact ahG λi hi=>h.at i hi
section
variable {tt:dH} {g1 g2:dk} {p:Path} {o:Oper} {ops:List Oper} {ck:gF}
def NS{x:Operand}(h:∀t,x = .tmp t→look g1.env t=look g2.env t∧look g1.b6 t=look g2.b6 t)(p:Path)(ty:TypeId):rd g1.env g1.b6 p tt ty x=rd g2.env g2.b6 p tt ty x:=by
 cases x with
 |tmp t=>
  obtain⟨Z,aa⟩:=h t rfl;simp only [rd,Z,aa]
 |const v=>cases v with
  |slice a n c=>cases a<;>cases n<;>cases c<;>rfl
  |_=>rfl
 |global _=>rfl
 |func _=>rfl
def ahI{x:Operand}(h:∀t,x = .tmp t→look g1.env t=look g2.env t):pg g1 x=pg g2 x:=by
 cases x with
 |tmp t=>simp only [pg,h t rfl]
 |_=>rfl
def Ch{α β:Type}{f uk:α→Option β}:∀{l:List α},(∀x,x∈l→f x=uk x)→mapM' f l=mapM' uk l
 |[],_=>rfl
 |x::l,h=>by simp only [mapM',h x (by simp),Ch (l:=l) λy b1=>h y (by simp [b1])]
def NT{f uk:TypeId→Operand→Option D}:∀{l:List Operand} {ts:List TypeId},(∀x,x∈l→∀t,f t x=uk t x)→l5 f l ts=l5 uk l ts
 |[],_,_=>by simp [l5]
 |x::l,[],_=>by simp [l5]
 |x::l,t::ts,h=>by simp only [l5,h x (by simp) t,NT (l:=l) (ts:=ts) λy b1=>h y (by simp [b1])]
def jf(tt:dH)(g:dk)(p:Path)(o:Oper):List Nat:=
 match o.op with
 |.alloc _ |.box _ _=>match o.dst.bind (look g.ids)with |some id=>[id] |none=>[]
 |.load _ a=>match rd g.env g.b6 p tt o.type a with |some (.ptr q _)=>[q] |_=>[]
 |.store _ a _=>match rd g.env g.b6 p tt o.type a with |some (.ptr q _)=>[q] |_=>[]
 |.call c=>match c.callee with
  |.value x=>match rd g.env g.b6 p tt o.type x,l5 (rd g.env g.b6 p tt) c.args.toList c.argTypes.toList with
   |some (.fn _ fm),some ds=>ph g.H 2 (dedup ((ds++fm).flatMap refs))
   |_,_=>[]
  |_=>[]
 |_=>[]
def GW{x:Nat}:∀{l:List Nat},x∈l→x∈dedup l
 |y::l,h=>by
  simp only [dedup];rw [Bool.cond_eq_ite];split
  ·rename_i b1;rcases List.mem_cons.1 h with rfl|h
   ·obtain⟨z,cY,ahJ⟩:=List.any_eq_true.1 b1;have:x=z:=by simpa using ahJ
    subst this;exact cY
   ·exact GW h
  ·rcases List.mem_cons.1 h with rfl|h
   ·simp
   ·exact List.mem_cons_of_mem _ (GW h)
def WU{H:List (Nat×List aW)}:∀{n:Nat} {l:List Nat} {x:Nat},x∈l→x∈ph H n l
 | 0,_,_,h=>h
 |n+1,_,_,h=>WU (n:=n) (GW (List.mem_append_left _ h))
def WV{α β:Type}{f uk:α→List β}:∀{l:List α},(∀x,x∈l→f x=uk x)→l.flatMap f=l.flatMap uk
 |[],_=>rfl
 |x::l,h=>by simp only [List.flatMap_cons,h x (by simp),WV (l:=l) λy b1=>h y (by simp [b1])]
def NU{H1 cE:List (Nat×List aW)}:∀{n:Nat} {l:List Nat},(∀q,q∈ph H1 n l→look H1 q=look cE q)→ph H1 n l=ph cE n l
 | 0,_,_=>rfl
 |n+1,l,h=>by
  simp only [ph]at h ⊢
  have:(l.flatMap λr=>((look H1 r).getD []).flatMap λe=>refs e.d)=l.flatMap λr=>((look cE r).getD []).flatMap λe=>refs e.d:=
   WV λr ai=>by rw [h r (WU (GW (List.mem_append_left _ ai)))]
  rw [←this];exact NU h
def WW{H1 cE:List (Nat×List aW)}:∀{l:List Nat},(∀q,q∈l→look H1 q=look cE q)→boxes H1 l=boxes cE l
 |[],_=>rfl
 |r::l,h=>by simp only [boxes,h r (by simp),WW (l:=l) λq ao=>h q (by simp [ao])]
def WX{xs:List Operand}{ts:List TypeId}(hs:∀t,Operand.tmp t∈xs→look g1.env t=look g2.env t∧look g1.b6 t=look g2.b6 t):∀os:List Nat,handed tt g1 xs ts os=handed tt g2 xs ts os
 |[]=>rfl
 |i::os=>by
  simp only [handed,WX hs os];split
  ·rename_i t l hx ab;obtain⟨Z,aa⟩:=hs t (List.mem_of_getElem? hx);rw [Z,aa]
  ·rfl
  ·rfl
def ahK{xs:List Operand}{ts:List TypeId}{f:FuncId}{args:List D}(hs:∀t,Operand.tmp t∈xs→look g1.env t=look g2.env t∧look g1.b6 t=look g2.b6 t)(eK:g1.rs=g2.rs)(eN:∀q,q∈ph g1.H 2 (dedup (args.flatMap refs))→look g1.H q=look g2.H q):yk ck tt g1 p xs ts f args=yk ck tt g2 p xs ts f args:=by
 have Z:ph g1.H 2 (dedup (args.flatMap refs))=ph g2.H 2 (dedup (args.flatMap refs)):=NU eN;unfold yk;simp only [←Z,←eK,←WW eN,←λos=>WX (tt:=tt) (ts:=ts) hs os]
def ri(o:Oper):Bool:=
 match o.op with
 |.alloc _ |.box _ _=>true
 |_=>false
def WY(rj:g1.ids=g2.ids)(hn:g1.aX=g2.aX)(eN:∀id,o.dst.bind (look g1.ids)=some id→look g1.H id=look g2.H id):oo g1 o=oo g2 o:=by
 unfold oo;rw [←rj,←hn];split
 ·rename_i id h;rw [eN id h]
 ·rfl
def NV(hs:∀x,x∈o.op.operands.toList→∀t,x = .tmp t→look g1.env t=look g2.env t∧look g1.b6 t=look g2.b6 t)(eK:g1.rs=g2.rs)(rj:g1.ids=g2.ids)
 (hn:ri o=true→g1.aX=g2.aX) (eN:∀q,q∈jf tt g1 p o→look g1.H q=look g2.H q):step1 ck tt ops g1 p o=step1 ck tt ops g2 p o:=by
 have R:∀x,x∈o.op.operands.toList→∀p ty,rd g1.env g1.b6 p tt ty x=rd g2.env g2.b6 p tt ty x:=λx hx p ty=>NS (hs x hx) p ty
 have O:∀x,x∈o.op.operands.toList→pg g1 x=pg g2 x:=λx hx=>ahI λt aF=>(hs x hx t aF).1
 cases ay:o.op with
 |move x=>simp only [ay,Op.operands]at R O;simp only [step1,ay,R x (by simp),O x (by simp),eK]
 |assign x=>simp only [ay,Op.operands]at R O;simp only [step1,ay,R x (by simp),O x (by simp),eK]
 |pick c a b=>
  simp only [ay,Op.operands]at R O;cases c with
  |tmp c=>simp only [step1,ay,R (.tmp c) (by simp),R a (by simp),R b (by simp),eK]
  |_=>simp only [step1,ay]
 |alloc t=>
  have hi:oo g1 o=oo g2 o:=WY rj (hn (by simp [ri,ay])) λid hid=>eN id (by simp [jf,ay,hid])
  simp only [step1,ay,eK,hi]
 |box t x=>
  have hi:oo g1 o=oo g2 o:=WY rj (hn (by simp [ri,ay])) λid hid=>eN id (by simp [jf,ay,hid])
  simp only [ay,Op.operands]at R O;simp only [step1,ay,R x (by simp),eK,hi]
 |build t parts=>
  simp only [ay,Op.operands]at R O
  have:mapM' (fun(i,x)=>(rd g1.env g1.b6 p tt (sd tt t i) x).map λd=>(i,d)) parts.toList=mapM' (fun(i,x)=>(rd g2.env g2.b6 p tt (sd tt t i) x).map λd=>(i,d)) parts.toList:=
   Ch λy b1=>by
    obtain⟨i,x⟩:=y;simp only [R x (List.mem_map.2 ⟨(i,x),b1,rfl⟩)]
  simp only [step1,ay,this,eK]
 |buildSlice t len parts=>
  simp only [ay,Op.operands]at R O
  have:mapM' (fun(i,x)=>(rd g1.env g1.b6 p tt (sd tt t i) x).map λd=>(i,d)) parts.toList=mapM' (fun(i,x)=>(rd g2.env g2.b6 p tt (sd tt t i) x).map λd=>(i,d)) parts.toList:=
   Ch λy b1=>by
    obtain⟨i,x⟩:=y;simp only [R x (List.mem_map.2 ⟨(i,x),b1,rfl⟩)]
  simp only [step1,ay,this,eK]
 |load t a=>
  simp only [ay,Op.operands]at R O;simp only [jf,ay,R a (by simp)]at eN
  simp only [step1,ay,R a (by simp),eK]
  split
  ·rename_i q off aE ha GI;simp only [ha]at eN;simp only [eN q (by simp)]
  ·rfl
  ·rfl
 |store t a x=>
  simp only [ay,Op.operands]at R O;simp only [jf,ay,R a (by simp)]at eN
  simp only [step1,ay,R a (by simp),R x (by simp),O x (by simp),eK]
  split
  ·rename_i q off d aE ha hd GI;simp only [ha]at eN;simp only [eN q (by simp)]
  ·rfl
 |nilCheck x=>simp only [ay,Op.operands]at R O;simp only [step1,ay,R x (by simp),eK]
 |binOp op t x y t2=>simp only [ay,Op.operands]at R O;simp only [step1,ay,R x (by simp),R y (by simp),eK]
 |unOp op t x=>simp only [ay,Op.operands]at R O;simp only [step1,ay,R x (by simp),eK]
 |convert s t x=>simp only [ay,Op.operands]at R O;simp only [step1,ay,R x (by simp),eK]
 |makeInterface t x=>simp only [ay,Op.operands]at R O;simp only [step1,ay,R x (by simp),eK]
 |makeFunc fn first fm=>
  simp only [ay,Op.operands]at R O;cases fn with
  |func f=>
   have:mapM' (rd g1.env g1.b6 p tt o.type) fm.toList=mapM' (rd g2.env g2.b6 p tt o.type) fm.toList:=Ch λx hx=>R x (by rw [Array.toList_append];exact List.mem_append_right _ hx) _ _
   simp only [step1,ay,this,eK]
  |_=>simp only [step1,ay]
 |slice t x lo hi kq=>
  simp only [ay,Op.operands]at R O
  have kz:lo.map (rd g1.env g1.b6 p tt o.type)=lo.map (rd g2.env g2.b6 p tt o.type):=by
   cases lo with
   |none=>rfl
   |some l=>simp [R l (by simp)]
  have jP:hi.map (rd g1.env g1.b6 p tt o.type)=hi.map (rd g2.env g2.b6 p tt o.type):=by
   cases hi with
   |none=>rfl
   |some l=>simp [R l (by simp)]
  have NW:kq.map (rd g1.env g1.b6 p tt o.type)=kq.map (rd g2.env g2.b6 p tt o.type):=by
   cases kq with
   |none=>rfl
   |some m=>simp [R m (by simp)]
  simp only [step1,ay,R x (by simp),kz,jP,NW,eK]
 |fieldAddr s x f=>simp only [ay,Op.operands]at R O;simp only [step1,ay,R x (by simp),eK]
 |field s x f=>simp only [ay,Op.operands]at R O;simp only [step1,ay,R x (by simp),eK]
 |indexAddr t x i=>simp only [ay,Op.operands]at R O;simp only [step1,ay,R x (by simp),R i (by simp),eK]
 |index t x i=>simp only [ay,Op.operands]at R O;simp only [step1,ay,R x (by simp),R i (by simp),eK]
 |typeAssert x a t ok=>simp only [ay,Op.operands]at R O;simp only [step1,ay,R x (by simp),eK]
 |extract x i=>simp only [ay,Op.operands]at R O;simp only [step1,ay,R x (by simp),eK]
 |panic x=>simp only [ay,Op.operands]at R O;simp only [step1,ay,R x (by simp)]
 |call c=>
  simp only [ay,Op.operands,Call.operands]at R O hs;cases hc:c.callee with
  |value x=>
   have hx:=R x (by simp [hc])
   have ha:l5 (rd g1.env g1.b6 p tt) c.args.toList c.argTypes.toList=l5 (rd g2.env g2.b6 p tt) c.args.toList c.argTypes.toList:=NT λy b1 t=>R y (by rw [Array.toList_append];exact List.mem_append_right _ b1) p t
   simp only [jf,ay,hc,hx,ha]at eN;simp only [step1,ay,hc,hx,ha];split
   ·rename_i f fm ds Z aa;simp only [Z,aa]at eN;exact ahK (λt aF=>hs (.tmp t) (by rw [Array.toList_append];exact List.mem_append_right _ aF) t rfl) eK eN
   ·rfl
  |invoke x m=>simp only [step1,ay,hc]
  |builtin b=>
   have ha:mapM' (λy=>rd g1.env g1.b6 p tt o.type y) c.args.toList=mapM' (λy=>rd g2.env g2.b6 p tt o.type y) c.args.toList:=Ch λx hx=>R x (by rw [Array.toList_append];exact List.mem_append_right _ hx) _ _
   cases b with
   |len=>simp only [step1,ay,hc,ha,eK]
   |min=>simp only [step1,ay,hc,ha,eK]
   |max=>simp only [step1,ay,hc,ha,eK]
   |append=>
    simp only [step1,ay,hc,eK];split
    ·rename_i t x e fA atw atx _ t2 ab _ _;have hm:∀y,y∈[Operand.tmp t,x]→y∈(match c.callee with|.value f => #[f] |.invoke r _ => #[r] |.builtin _ => #[]:Array Operand).toList++c.args.toList:=λy b1=>by rw [ab];exact List.mem_append_right _ b1
     have kA:∀y,y∈[Operand.tmp t,x]→y∈((match c.callee with|.value f => #[f] |.invoke r _ => #[r] |.builtin _ => #[]:Array Operand)++c.args).toList:=λy b1=>by rw [Array.toList_append];exact hm y b1
     simp only [R (.tmp t) (kA _ (by simp)),R x (kA _ (by simp)),(hs (.tmp t) (kA _ (by simp)) t rfl).1]
    ·rfl
   |_=>simp only [step1,ay,hc]
 |_=>simp only [step1,ay]
end
structure ey where
 dst:Option Nat
 p:Path
 f:lC
 kB:List Nat
 nB:List Nat
 qe:Bool
 rs:List fu
 e8:Nat:=0
 wo:V:=.fC
 qf:List (Nat×List aW):=[]
 ul:List (Nat×List aW):=[]
 oE:Nat:=0
def qg(ops:List Oper)(o:Oper):List Nat:=
 (o.op.operands.toList.filterMap fun|.tmp t=>some t|_=>none)++(match o.guard with
  |some (j,_)=>((ops[j]?).bind (·.dst)).toList
  |none=>[])
def eE(E:ey)(g:dk):dk:=
 match E.dst with
 |none=>{g with env:=gU E.f.hy g.env,H:=E.f.hs++g.H,aX:=g.aX+E.f.fv}
 |some t=>match E.p with
  |[]=>{g with
   env:=match E.f.e with|some e=>(t,e)::gU E.f.hy g.env|none=>del (gU E.f.hy g.env) t
   b6:=del g.b6 t,H:=E.f.hs++g.H,aX:=g.aX+E.f.fv}
  |_::_=>match E.f.e with
   |some e=>{g with env:=del g.env t,b6:=(t,E.p,e.d)::del g.b6 t}
   |none=>g
def oF(E:ey):List Nat:=E.dst.toList++E.f.hy
def py(E:ey):List Nat:=E.f.hs.map (·.1)
def yU{α:Type}:∀(a b:List (Nat×α)) (q:Nat),look (a++b) q=(match look a q with|some x=>some x|none=>look b q)
 |[],_,_=>rfl
 |(j,x)::a,b,q=>by
  simp only [List.cons_append,dC,yU a b q];by_cases h:j=q<;>simp [h]
def WZ{α:Type}:∀{a:List (Nat×α)} {q:Nat},q∉a.map (·.1)→look a q=none
 |[],_,_=>rfl
 |(j,x)::a,q,h=>by
  simp only [List.map_cons,List.mem_cons,not_or]at h;rw [dC,if_neg (Ne.symm h.1)];exact WZ h.2
section
variable {E:ey} {g g1 g2:dk}
def m_(g1 g2:dk)(t:Nat):Prop:=look g1.env t=look g2.env t∧look g1.b6 t=look g2.b6 t
def wq(g1 g2:dk)(q:Nat):Prop:=look g1.H q=look g2.H q
def wu{t:Nat}(h:t∉oF E):m_ (eE E g) g t:=by
 simp only [oF,List.mem_append,not_or]at h;unfold m_ eE;cases hd:E.dst with
 |none=>simp only [nw,if_neg h.2,and_self]
 |some u=>
  have hu:u≠t:=by rintro rfl;simp [hd]at h
  cases hp:E.p with
  |nil=>
   dsimp only
   cases he:E.f.e with
   |some e=>simp only [dC,if_neg hu,nw,if_neg h.2,qY,and_self]
   |none=>simp only [nw,if_neg h.2,qY,if_neg hu,and_self]
  |cons x p=>
   dsimp only
   cases he:E.f.e with
   |some e=>simp only [dC,if_neg hu,qY,and_self]
   |none=>exact⟨rfl,rfl⟩
def NX{t:Nat}(h:m_ g1 g2 t):m_ (eE E g1) (eE E g2) t:=by
 obtain⟨Z,aa⟩:=h;unfold m_ eE;cases hd:E.dst with
 |none=>simp only [nw,Z,aa,and_self]
 |some u=>
  cases hp:E.p with
  |nil=>
   dsimp only
   cases he:E.f.e with
   |some e=>simp only [dC,nw,Z,aa,qY,and_self]
   |none=>simp only [nw,qY,Z,aa,and_self]
  |cons x p=>
   dsimp only
   cases he:E.f.e with
   |some e=>simp only [dC,qY,Z,aa,and_self]
   |none=>exact⟨Z,aa⟩
def NY:(eE E g).H=E.f.hs++g.H∨(eE E g).H=g.H:=by
 unfold eE;cases E.dst with
 |none=>exact .inl rfl
 |some u=>
  cases E.p with
  |nil=>exact .inl rfl
  |cons x p=>dsimp only;cases E.f.e<;>exact .inr rfl
def yV{q:Nat}(h:q∉py E):wq (eE E g) g q:=by
 unfold wq;rcases NY (E:=E) (g:=g)with Z|Z<;>rw [Z]
 rw [yU,WZ h]
def NZ{q:Nat}(h:wq g1 g2 q):wq (eE E g1) (eE E g2) q:=by
 unfold wq at *;unfold eE;cases E.dst with
 |none=>simp only [yU,h]
 |some u=>
  cases E.p with
  |nil=>simp only [yU,h]
  |cons x p=>dsimp only;cases E.f.e<;>exact h
def yW(E:ey):Nat:=
 match E.dst with
 |none=>E.f.fv
 |some _=>match E.p with
  |[]=>E.f.fv
  |_::_=>0
def GX:(eE E g).aX=g.aX+yW E:=by
 unfold eE yW;cases E.dst with
 |none=>rfl
 |some u=>
  cases E.p with
  |nil=>rfl
  |cons x p=>dsimp only;cases E.f.e<;>rfl
structure Alike(g1 g2:dk):Prop where
 slot:∀t,m_ g1 g2 t
 box:∀q,wq g1 g2 q
 aX:g1.aX=g2.aX
 ids:g1.ids=g2.ids
def GY:(eE E g).ids=g.ids:=by
 unfold eE;cases E.dst with
 |none=>rfl
 |some u=>
  cases E.p with
  |nil=>rfl
  |cons x p=>dsimp only;cases E.f.e<;>rfl
def Alike.refl:Alike g g:=⟨λ_=>⟨rfl,rfl⟩,λ_=>rfl,rfl,rfl⟩
def Alike.symm(h:Alike g1 g2):Alike g2 g1:=⟨λt=>⟨(h.slot t).1.symm,(h.slot t).2.symm⟩,λq=>(h.box q).symm,h.aX.symm,h.ids.symm⟩
def Alike.trans{g3:dk}(h:Alike g1 g2)(cG:Alike g2 g3):Alike g1 g3:=⟨λt=>⟨(h.slot t).1.trans (cG.slot t).1,(h.slot t).2.trans (cG.slot t).2⟩,λq=>(h.box q).trans (cG.box q),h.aX.trans cG.aX,h.ids.trans cG.ids⟩
def Alike.ap(h:Alike g1 g2):Alike (eE E g1) (eE E g2):=
 ⟨λt=>NX (h.slot t),λq=>NZ (h.box q),(by simp only [GX,h.aX]),by simp only [GY,h.ids]⟩
def sep(a b:List Nat):Bool:=a.all λx=>!b.any (Nat.beq x)
def wv{a b:List Nat}(h:sep a b=true){x:Nat}(ha:x∈a):x∉b:=by
 intro hb;have:=List.all_eq_true.1 h x ha
 simp only [Bool.not_eq_true',List.any_eq_false]at this;exact this x hb (by simp)
def Ci(E dr:ey):Bool:=
 sep (oF E) dr.nB&&sep (oF E) (oF dr)&&sep (oF dr) E.nB&&(sep (py E) dr.kB||Nat.beq E.oE 2&&Nat.beq dr.oE 1)&&sep (py E) (py dr)&&(sep (py dr) E.kB||Nat.beq dr.oE 2&&Nat.beq E.oE 1)&&(!E.qe||Nat.beq (yW dr) 0)&&(!dr.qe||Nat.beq (yW E) 0)
def ahL{E dr:ey}(Z:sep (oF E) (oF dr)=true)(aa:sep (py E) (py dr)=true):Alike (eE E (eE dr g)) (eE dr (eE E g)):=by
 refine⟨λt=>?_,λq=>?_,?_,by simp only [GY]⟩
 ·by_cases aF:t∈oF E
  ·have e6:=wv Z aF;have a:m_ (eE E (eE dr g)) (eE E g) t:=NX (wu e6);have b:m_ (eE dr (eE E g)) (eE E g) t:=wu e6;exact⟨a.1.trans b.1.symm,a.2.trans b.2.symm⟩
  ·have a:m_ (eE E (eE dr g)) (eE dr g) t:=wu aF;have b:m_ (eE dr (eE E g)) (eE dr g) t:=NX (wu aF);exact⟨a.1.trans b.1.symm,a.2.trans b.2.symm⟩
 ·by_cases aF:q∈py E
  ·have e6:=wv aa aF;exact(NZ (E:=E) (yV (E:=dr) (g:=g) e6)).trans (yV (E:=dr) (g:=eE E g) e6).symm
  ·exact(yV (E:=E) (g:=eE dr g) aF).trans (NZ (E:=dr) (yV (E:=E) (g:=g) aF)).symm
 ·simp only [GX];omega
end
section
variable {tt:dH} {ops:List Oper} {ck:gF} {o:Oper} {E:ey} {g g1 g2:dk}
def W0(h:∀t,t∈qg ops o→m_ g1 g2 t):p4 ops g1 o=p4 ops g2 o:=by
 unfold p4;split
 ·rfl
 ·rename_i j w hg;cases aF:(ops[j]?).bind (·.dst) with
  |none=>rfl
  |some t=>
   have:=h t (by simp [qg,hg,aF])
   simp only [this.1,this.2]
def GZ:∀{p:Path} {q:Prop},(∀x,x∈p→m_ g1 g2 x.1)→under g1 p q=under g2 p q
 |[],_,_=>rfl
 |(t,w)::p,q,h=>by
  have aF:=h (t,w) (by simp)
  have aM:=GZ (p:=p) (q:=q) λx hx=>h x (by simp [hx])
  have:Bz g1.env g1.b6 t=Bz g2.env g2.b6 t:=by unfold Bz;rw [aF.1,aF.2]
  simp only [under,this,aM]
def ahM{p:Path}(hs:∀x,x∈o.op.operands.toList→∀t,x = .tmp t→look g1.env t=look g2.env t∧look g1.b6 t=look g2.b6 t)(rj:g1.ids=g2.ids)(eN:∀q,q∈jf tt g1 p o→look g1.H q=look g2.H q):jf tt g1 p o=jf tt g2 p o:=by
 have R:∀x,x∈o.op.operands.toList→∀p ty,rd g1.env g1.b6 p tt ty x=rd g2.env g2.b6 p tt ty x:=λx hx p ty=>NS (hs x hx) p ty
 cases ay:o.op with
 |alloc t=>simp only [jf,ay,rj]
 |box t x=>simp only [jf,ay,rj]
 |load t a=>simp only [ay,Op.operands]at R;simp only [jf,ay,R a (by simp)]
 |store t a x=>simp only [ay,Op.operands]at R;simp only [jf,ay,R a (by simp)]
 |call c=>
  simp only [ay,Op.operands,Call.operands]at R;cases hc:c.callee with
  |value x=>
   have hx:=R x (by simp [hc])
   have ha:l5 (rd g1.env g1.b6 p tt) c.args.toList c.argTypes.toList=l5 (rd g2.env g2.b6 p tt) c.args.toList c.argTypes.toList:=NT λy b1 t=>R y (by rw [Array.toList_append];exact List.mem_append_right _ b1) p t
   simp only [jf,ay,hc,hx,ha]at eN ⊢;split
   ·rename_i f fm ds Z aa;simp only [Z,aa]at eN;exact NU eN
   ·rfl
  |_=>simp only [jf,ay,hc]
 |_=>simp only [jf,ay]
structure N0(ck:gF)(tt:dH)(ops:List Oper)(o:Oper)(E:ey)(g:dk):Prop where
 G0:p4 ops g o=some E.p
 st:step1 ck tt ops {g with rs:=E.rs} E.p o=some (bif Nat.beq E.e8 0 then .go E.f else .aJ E.wo E.qf E.f.a8)
 a8:∀q,q∈E.f.a8→under g E.p q
 kB:∀q,q∈jf tt g E.p o→q∈E.kB
 fin:E.e8=1→∀q,q∈E.kB→look g.H q=look E.ul q
def Can(ck:gF)(tt:dH)(ops:List Oper)(o:Oper)(E:ey)(g:dk):Prop:=E.e8=2∨N0 ck tt ops o E g
def Can.congr(h:Can ck tt ops o E g1)(ww:∀t,t∈qg ops o++E.p.map (·.1)→t∈E.nB)(po:ri o=E.qe)(hs:∀t,t∈E.nB→m_ g1 g2 t)(hb:∀q,q∈E.kB→wq g1 g2 q)(hn:E.qe=true→g1.aX=g2.aX)(rj:g1.ids=g2.ids):Can ck tt ops o E g2:=by
 rcases h with h|h
 ·exact .inl h
 right
 have f7:∀x,x∈o.op.operands.toList→∀t,x = .tmp t→look g1.env t=look g2.env t∧look g1.b6 t=look g2.b6 t:=by
  rintro x hx t rfl
  exact hs t (ww t (List.mem_append_left _ (by simp only [qg,List.mem_append,List.mem_filterMap];exact .inl ⟨_,hx,rfl⟩)))
 have mc:jf tt g1 E.p o=jf tt g2 E.p o:=ahM f7 rj (λq ao=>hb q (h.kB q ao))
 refine⟨?_,?_,λq ao=>?_,(by rw [←mc];exact h.kB),λhk q ao=>(hb q ao).symm.trans (h.fin hk q ao)⟩
 ·rw [←W0 (g1:=g1) (g2:=g2) λt aF=>hs t (ww t (List.mem_append_left _ aF))];exact h.G0
 ·rw [←h.st];refine(NV (g1:={g1 with rs:=E.rs}) (g2:={g2 with rs:=E.rs}) f7 rfl rj (λhm=>hn (by rw [←po];exact hm)) (λq ao=>hb q ?_)).symm
  exact h.kB q ao
 ·rw [←GZ (g1:=g1) (g2:=g2) λx hx=>hs x.1 (ww _ (List.mem_append_right _ (List.mem_map.2 ⟨x,hx,rfl⟩)))]
  exact h.a8 q ao
def wx(o:Oper)(rs:List fu):Nat:=
 match o.op with
 |.load _ _=>match rs with
  |.own::_=>2
  |.marks _::_=>0
  |_=>1
 |_=>0
def um(g1 g2:dk)(q:Nat):Prop:=(look g1.H q).map (·.map (·.d))=(look g2.H q).map (·.map (·.d))
def W1:∀(cs:List aW) (off:Nat) (e:aW),cs[off]? = some e→(setAt cs off [{d:=e.d}]).map (·.d)=cs.map (·.d)
 |[],off,e,h=>by simp at h
 |c::cs,0,e,h=>by
  simp only [List.getElem?_cons_zero,Option.some.injEq]at h;subst h;simp [setAt]
 |c::cs,off+1,e,h=>by
  simp only [List.getElem?_cons_succ]at h;simp only [setAt,List.map_cons,W1 cs off e h]
def ahN(h:N0 ck tt ops o E g)(ab:wx o E.rs=2)(hk:E.e8=0)(q:Nat):um (eE E g) g q:=by
 have c_:=h.st;rw [hk]at c_;unfold wx at ab;split at ab
 case h_2=>cases ab
 rename_i t a ay;simp only [step1,ay,show Nat.beq 0 0=true from rfl,cond_true]at c_
 have nil:E.f.hs=[]→um (eE E g) g q:=by
  intro bn;unfold um;rcases NY (E:=E) (g:=g)with Z|Z<;>rw [Z]
  rw [bn];rfl
 split at c_
 ·rename_i ahO off aE ai bw;split at c_
  ·rename_i cs ej;rw [Bool.cond_eq_ite]at c_;split at c_
   ·rw [Bool.cond_eq_ite]at c_;split at c_
    ·split at c_
     ·rename_i eK;rw [eK]at ab;cases ab
     ·simp only [Option.map_some,Option.some.injEq,om.go.injEq]at c_;exact nil (by rw [←c_])
    ·cases c_
   ·split at c_
    ·rename_i e he;split at c_
     ·rw [Bool.cond_eq_ite]at c_;split at c_
      ·simp only [Option.some.injEq,om.go.injEq]at c_;unfold um;rcases NY (E:=E) (g:=g)with Z|Z<;>rw [Z]
       rw [←c_];simp only [List.cons_append,List.nil_append,dC];split
       ·rename_i ao;subst ao;rw [ej];simp only [Option.map_some,W1 cs off e he]
       ·rfl
      ·cases c_
     ·simp only [Option.map_some,Option.some.injEq,om.go.injEq]at c_;exact nil (by rw [←c_])
    ·cases c_
  ·cases c_
 ·rename_i x aE ai bw;rw [Bool.cond_eq_ite]at c_;split at c_
  ·simp only [Option.map_some,Option.some.injEq,om.go.injEq]at c_;exact nil (by rw [←c_])
  ·cases c_
 ·cases c_
def ahP{p:Path}{rs:List fu}{t:TypeId}{a:Operand}(ay:o.op = .load t a)(eK:∀l,rs ≠ .own::l)(G1:∀c l,rs ≠ .marks c::l)(R:rd g1.env g1.b6 p tt o.type a=rd g2.env g2.b6 p tt o.type a)(ahQ:∀q off,rd g2.env g2.b6 p tt o.type a=some (.ptr q off)→um g1 g2 q):
 step1 ck tt ops {g1 with rs:=rs} p o=step1 ck tt ops {g2 with rs:=rs} p o:=by
 simp only [step1,ay,R];split
 ·rename_i q off aE ai bw;have hd:=ahQ q off ai;unfold um at hd;cases Z:look g1.H q with
  |none=>
   rw [Z]at hd;cases aa:look g2.H q with
   |none=>rfl
   |some c2=>rw [aa]at hd;cases hd
  |some c1=>
   rw [Z]at hd;cases aa:look g2.H q with
   |none=>rw [aa]at hd;cases hd
   |some c2=>
    rw [aa]at hd;simp only [Option.map_some,Option.some.injEq]at hd;have hlen:c1.length=c2.length:=by have:=congrArg List.length hd;simpa using this
    have ahR:((c1.drop off).take aE.size).map (·.d)=((c2.drop off).take aE.size).map (·.d):=by rw [List.map_take,List.map_drop,hd,←List.map_drop,←List.map_take]
    have jb:(c1[off]?).map (·.d)=(c2[off]?).map (·.d):=by rw [←List.getElem?_map,hd,List.getElem?_map]
    simp only [hlen,ahR];cases aE.k.isAgg with
    |true=>
     cases rs with
     |nil=>rfl
     |cons x l=>
      cases x with
      |marks=>exact absurd rfl (G1 _ l)
      |_=>rfl
    |false=>
     simp only [cond_false];cases W2:c1[off]? with
     |none=>
      rw [W2]at jb;cases G2:c2[off]? with
      |none=>rfl
      |some e2=>rw [G2]at jb;cases jb
     |some e1=>
      rw [W2]at jb;cases G2:c2[off]? with
      |none=>rw [G2]at jb;cases jb
      |some e2=>
       rw [G2]at jb;simp only [Option.map_some,Option.some.injEq]at jb;cases rs with
       |nil=>cases e1.own<;>cases e2.own<;>simp [jb]
       |cons r l=>
        cases r with
        |own=>exact absurd rfl (eK l)
        |val x=>cases e1.own<;>cases e2.own<;>simp [jb]
        |raw=>cases e1.own<;>cases e2.own<;>simp [jb]
        |marks=>exact absurd rfl (G1 _ l)
        |call u v z=>cases e1.own<;>cases e2.own<;>simp [jb]
 ·rfl
 ·rfl
def Can.W3(h:Can ck tt ops o E g1)(ab:wx o E.rs=1)(hk:E.e8=0)(ww:∀t,t∈qg ops o++E.p.map (·.1)→t∈E.nB)(hs:∀t,t∈E.nB→m_ g1 g2 t)(hb:∀q,um g1 g2 q):Can ck tt ops o E g2:=by
 rcases h with h|h
 ·exact .inl h
 right
 have f7:∀x,x∈o.op.operands.toList→∀t,x = .tmp t→look g1.env t=look g2.env t∧look g1.b6 t=look g2.b6 t:=by
  rintro x hx t rfl
  exact hs t (ww t (List.mem_append_left _ (by simp only [qg,List.mem_append,List.mem_filterMap];exact .inl ⟨_,hx,rfl⟩)))
 unfold wx at ab;split at ab
 case h_2=>cases ab
 rename_i t a ay
 have eK:∀l,E.rs ≠ .own::l:=by
  intro l e;rw [e]at ab;cases ab
 have G1:∀c l,E.rs ≠ .marks c::l:=by
  intro c l e;rw [e]at ab;cases ab
 have R:rd g1.env g1.b6 E.p tt o.type a=rd g2.env g2.b6 E.p tt o.type a:=NS (f7 a (by simp [ay,Op.operands])) _ _
 have mc:jf tt g1 E.p o=jf tt g2 E.p o:=by simp only [jf,ay,R]
 refine⟨?_,?_,λq ao=>?_,(by rw [←mc];exact h.kB),λlm=>by rw [hk]at lm;cases lm⟩
 ·rw [←W0 (g1:=g1) (g2:=g2) λt aF=>hs t (ww t (List.mem_append_left _ aF))];exact h.G0
 ·rw [←h.st];exact(ahP ay eK G1 R λq off _=>hb q).symm
 ·rw [←GZ (g1:=g1) (g2:=g2) λx hx=>hs x.1 (ww _ (List.mem_append_right _ (List.mem_map.2 ⟨x,hx,rfl⟩)))]
  exact h.a8 q ao
end
def iN(ops:List Oper)(o:Oper)(E:ey):Bool:=ahS (qg ops o++E.p.map (·.1)) E.nB&&(ri o == E.qe)&&decide (E.dst=o.dst)&&(match E.f.rs with|[]=>true|_=>false)&&(Nat.beq E.oE 0||Nat.beq E.oE (wx o E.rs)&&Nat.beq E.e8 0)
where ahS (a b:List Nat):Bool:=a.all λx=>b.any (Nat.beq x)
def G3{ops:List Oper}{o:Oper}{E:ey}(h:iN ops o E=true):(∀t,t∈qg ops o++E.p.map (·.1)→t∈E.nB)∧ri o=E.qe∧E.dst=o.dst∧E.f.rs=[]:=by
 simp only [iN,Bool.and_eq_true,beq_iff_eq,decide_eq_true_eq]at h;obtain⟨⟨⟨⟨Z,aa⟩,am⟩,aK⟩,_⟩:=h;refine⟨λt aF=>?_,aa,am,?_⟩
 ·obtain⟨y,b1,hl⟩:=List.any_eq_true.1 (List.all_eq_true.1 Z t aF);have:t=y:=by simpa using hl
  rw [this];exact b1
 ·split at aK
  ·assumption
  ·cases aK
def waits(ops:List Oper)(i:Nat):Nat→Nat→Bool
 | 0,_=>false
 |n+1,j=>match ops[j]? with
  |some o=>o.after.toList.any λe=>Region.binds .any e&&(Nat.beq e.on i||waits ops i n e.on)
  |none=>false
def oG(opsA:Array Oper)(listed:Array Bool):Prop:=∀(j:Nat) o,opsA[j]? = some o→listed.getD j false=true→∀e,e∈o.after→Region.binds .any e=true→listed.getD e.on false=true
def G4{opsA:Array Oper}{listed:Array Bool}(hc:oG opsA listed){i:Nat}:∀{n j:Nat},waits opsA.toList i n j=true→listed.getD j false=true→listed.getD i false=true
 | 0,_,h,_=>by simp [waits]at h
 |n+1,j,h,hj=>by
  simp only [waits]at h;split at h
  ·rename_i o ay;obtain⟨e,he,hb⟩:=List.any_eq_true.1 h;simp only [Bool.and_eq_true,Bool.or_eq_true,Nat.beq_eq]at hb;have Z:=hc j o (by simpa using ay) hj e (by simpa using he) hb.1
   rcases hb.2 with rfl|aa
   ·exact Z
   ·exact G4 hc aa Z
  ·cases h
def oG.set{opsA:Array Oper}{listed:Array Bool}(hc:oG opsA listed){i:Nat}(ai:i∈Region.ready .any opsA listed):oG opsA (listed.setIfInBounds i true):=by
 intro j o ay hj e he hb;by_cases qh:i=j
 ·subst qh;obtain⟨_,o',lg,lK⟩:=mem_ready.1 ai;rw [ay]at lg;cases lg;exact getD_set_true (lK e he hb)
 ·rw [getD_set_ne false qh]at hj;exact getD_set_true (hc j o ay hj e he hb)
section
variable {ck:gF} {tt:dH} {opsA:Array Oper} {cJ:List ey} {Fi:dk→Prop} {g g1 g2:dk}
def jQ(ck:gF)(tt:dH)(opsA:Array Oper)(cJ:List ey)(Fi:dk→Prop):Nat→Array Bool→dk→Prop
 | 0,listed,g=>Region.ready .any opsA listed=[]∧Fi g
 |n+1,listed,g=>(Region.ready .any opsA listed=[]→Fi g)∧∀i,i∈Region.ready .any opsA listed→∃o E,opsA[i]? = some o∧cJ[i]? = some E∧Can ck tt opsA.toList o E g∧
  jQ ck tt opsA cJ Fi n (listed.setIfInBounds i true) (eE E g)
def jQ.alike(ee:∀(i:Nat) o E,opsA[i]? = some o→cJ[i]? = some E→iN opsA.toList o E=true)(dz:∀g1 g2,Alike g1 g2→Fi g1→Fi g2):∀{n:Nat} {listed:Array Bool} {g1 g2:dk},Alike g1 g2→jQ ck tt opsA cJ Fi n listed g1→jQ ck tt opsA cJ Fi n listed g2
 | 0,_,_,_,ha,h=>⟨h.1,dz _ _ ha h.2⟩
 |n+1,_,_,_,ha,h=>⟨λai=>dz _ _ ha (h.1 ai),λi hi=>by
  obtain⟨o,E,ay,b2,kd,hn⟩:=h.2 i hi;obtain⟨dc,aj,_,_⟩:=G3 (ee i o E ay b2);exact⟨o,E,ay,b2,kd.congr dc aj (λt _=>ha.slot t) (λq _=>ha.box q) (λ_=>ha.aX) ha.ids,jQ.alike ee dz ha.ap hn⟩⟩
def Cj{ops:List Oper}{o:Oper}{E:ey}{n:Nat}(h:iN ops o E=true)(ab:E.oE=n+1):wx o E.rs=n+1∧E.e8=0:=by
 simp only [iN,Bool.and_eq_true,Bool.or_eq_true,Nat.beq_eq]at h;rcases h.2 with h|h
 ·rw [ab]at h;cases h
 ·exact⟨h.1.symm.trans ab,h.2⟩
def Can.data{ck:gF}{tt:dH}{ops:List Oper}{o:Oper}{E:ey}{g:dk}(h:Can ck tt ops o E g)(ee:iN ops o E=true)(ab:E.oE=2)(q:Nat):um (eE E g) g q:=by
 obtain⟨Z,aa⟩:=Cj ee ab;rcases h with h|h
 ·rw [aa]at h;cases h
 ·exact ahN h Z aa q
def ahT{E dr:ey}(h:Ci E dr=true):sep (oF E) dr.nB=true∧sep (oF E) (oF dr)=true∧sep (oF dr) E.nB=true∧(sep (py E) dr.kB=true∨E.oE=2∧dr.oE=1)∧sep (py E) (py dr)=true∧(sep (py dr) E.kB=true∨dr.oE=2∧E.oE=1)∧(E.qe=true→yW dr=0)∧(dr.qe=true→yW E=0):=by
 simp only [Ci,Bool.and_eq_true,Bool.or_eq_true,Bool.not_eq_true',Nat.beq_eq]at h;obtain⟨⟨⟨⟨⟨⟨⟨Z,aa⟩,am⟩,aK⟩,bd⟩,b'⟩,eb⟩,d'⟩:=h;exact⟨Z,aa,am,aK,bd,b',λhm=>eb.resolve_left (by simp [hm]),λhm=>d'.resolve_left (by simp [hm])⟩
def jQ.first(ee:∀(i:Nat) o E,opsA[i]? = some o→cJ[i]? = some E→iN opsA.toList o E=true)(dz:∀g1 g2,Alike g1 g2→Fi g1→Fi g2){i:Nat}{o:Oper}{E:ey}(hi:opsA[i]? = some o)(b2:cJ[i]? = some E):
 ∀(fuel:Nat) (listed:Array Bool) (g:dk),
  (∀(j:Nat) qi mA,opsA[j]? = some qi→cJ[j]? = some mA→j≠i→listed.getD j true=false→waits opsA.toList i 3 j=false→Ci E mA=true)→oG opsA listed→
  i∈Region.ready .any opsA listed→Can ck tt opsA.toList o E g→jQ ck tt opsA cJ Fi fuel (listed.setIfInBounds i true) (eE E g)→jQ ck tt opsA cJ Fi (fuel+1) listed g:=by
 intro fuel;induction fuel with
 |zero=>
  intro listed g _ _ ai kd H;refine⟨λh=>(by rw [h]at ai;cases ai),λj hj=>?_⟩
  by_cases qh:j=i
  ·subst qh;exact⟨o,E,hi,b2,kd,H⟩
  ·have:=ready_mono hj qh
   rw [H.1]at this;cases this
 |succ fuel aM=>
  intro listed g kO gM ai kd H;refine⟨λh=>(by rw [h]at ai;cases ai),λj hj=>?_⟩
  by_cases qh:j=i
  ·subst qh;exact⟨o,E,hi,b2,kd,H⟩
  obtain⟨qi,mA,qj,un,W4,ahU⟩:=H.2 j (ready_mono hj qh);obtain⟨W5,aty,W6,lK⟩:=mem_ready.1 hj;rw [qj]at W6;cases W6
  have oH:listed.getD i false=false:=by
   have h0:=(mem_ready.1 ai).1;rcases Nat.lt_or_ge i listed.size with cG|cG
   ·simpa [Array.getD_eq_getD_getElem?,cG]using h0
   ·simp [Array.getD_eq_getD_getElem?,Array.getElem?_eq_none cG]
  have ahV:waits opsA.toList i 3 j=false:=by
   rw [Bool.eq_false_iff];intro hw;rw [waits]at hw;have ab:opsA.toList[j]? = some qi:=by simpa using qj
   simp only [ab]at hw;obtain⟨e,he,hb⟩:=List.any_eq_true.1 hw;simp only [Bool.and_eq_true,Bool.or_eq_true,Nat.beq_eq]at hb;have Z:=lK e (by simpa using he) hb.1
   rcases hb.2 with rfl|aa
   ·rw [oH]at Z;cases Z
   ·rw [G4 gM aa Z]at oH;cases oH
  obtain⟨d1,d2,d3,d4,d5,d6,d7,d8⟩:=ahT (kO j qi mA qj un qh W5 ahV);obtain⟨dc,aj,_,_⟩:=G3 (ee i o E hi b2);obtain⟨hf,jr,_,_⟩:=G3 (ee j qi mA qj un)
  have c1:Can ck tt opsA.toList qi mA g:=by
   rcases d4 with d4|⟨e1,e2⟩
   ·exact W4.congr hf jr (λt aF=>wu λhw=>wv d1 hw aF) (λq ao=>yV λhw=>wv d4 hw ao) (λhm=>by rw [GX,d8 hm];rfl) GY
   ·exact W4.W3 (Cj (ee j qi mA qj un) e2).1 (Cj (ee j qi mA qj un) e2).2 hf (λt aF=>wu λhw=>wv d1 hw aF) (kd.data (ee i o E hi b2) e1)
  have c2:Can ck tt opsA.toList o E (eE mA g):=by
   have yX:∀t,t∈E.nB→m_ g (eE mA g) t:=λt aF=>by have:=wu (E:=mA) (g:=g) (t:=t) λhw=>wv d3 hw aF;exact⟨this.1.symm,this.2.symm⟩
   rcases d6 with d6|⟨e1,e2⟩
   ·exact kd.congr dc aj yX (λq ao=>(yV (E:=mA) (g:=g) (q:=q) λhw=>wv d6 hw ao).symm) (λhm=>by rw [GX,d7 hm];rfl) GY.symm
   ·exact kd.W3 (Cj (ee i o E hi b2) e2).1 (Cj (ee i o E hi b2) e2).2 dc yX (λq=>(c1.data (ee j qi mA qj un) e1 q).symm)
  refine⟨qi,mA,qj,un,c1,aM (listed.setIfInBounds j true) (eE mA g) ?_ (gM.set hj) (ready_mono ai (Ne.symm qh)) c2 ?_⟩
  ·intro k ok ahW hk ahX G5 oH pt;refine kO k ok ahW hk ahX G5 ?_ pt;by_cases uo:j=k
   ·subst uo;exact W5
   ·rw [getD_set_ne true uo]at oH;exact oH
  ·rw [Array.setIfInBounds_comm _ _ qh];exact jQ.alike ee dz (ahL d2 d5).symm ahU
structure G6(n k:Nat)(listed:Array Bool):Prop where
 size:listed.size=n
 at':∀j,j<n→listed[j]? = some (decide (j<k))
def G6.set{n k:Nat}{listed:Array Bool}(h:G6 n k listed):G6 n (k+1) (listed.setIfInBounds k true):=by
 refine⟨by simp [h.size],λj hj=>?_⟩
 by_cases uo:k=j
 ·subst uo;simp [h.size,hj]
 ·rw [Array.getElem?_setIfInBounds_ne uo,h.at' j hj]
  congr 1
  have:(j<k)=(j<k+1):=by apply propext;omega
  simp [this]
def ahY(o:Oper)(k:Nat):Bool:=o.after.toList.all λe=>!Region.binds .any e||Nat.blt e.on k
def G7(ops:List Oper)(E:ey)(k:Nat):Nat→List (Oper×ey)→Bool
 |_,[]=>true
 |j,(_,dr)::l=>(Ci E dr||waits ops k 3 j)&&G7 ops E k (j+1) l
def G8(ops:List Oper):Nat→List (Oper×ey)→Bool
 |_,[]=>true
 |k,(o,E)::l=>ahY o k&&G7 ops E k (k+1) l&&G8 ops (k+1) l
def G9(ck:gF)(tt:dH)(ops:List Oper)(Fi:dk→Prop):List (Oper×ey)→dk→Prop
 |[],g=>Fi g
 |(o,E)::l,g=>Can ck tt ops o E g∧G9 ck tt ops Fi l (eE E g)
def W7{ops:List Oper}{E:ey}{k:Nat}:∀{l:List (Oper×ey)} {n:Nat},G7 ops E k n l=true→∀(j:Nat) o dr,l[j]? = some (o,dr)→waits ops k 3 (n+j)=false→Ci E dr=true
 |[],_,_,j,o,dr,hj,_=>by simp at hj
 |(cR,a_)::l,n,h,j,o,dr,hj,pt=>by
  simp only [G7,Bool.and_eq_true,Bool.or_eq_true]at h;cases j with
  |zero=>
   simp at hj
   obtain⟨rfl,rfl⟩:=hj;exact h.1.resolve_right (by rw [Nat.add_zero]at pt;rw [pt];simp)
  |succ j=>exact W7 h.2 j o dr (by simpa using hj) (by rwa [show n+1+j=n+(j+1)by omega])
def jQ.text(ee:∀(i:Nat) o E,opsA[i]? = some o→cJ[i]? = some E→iN opsA.toList o E=true)(dz:∀g1 g2,Alike g1 g2→Fi g1→Fi g2):
 ∀(l:List (Oper×ey)) (k:Nat) (listed:Array Bool) (g:dk),(∀j:Nat,(l[j]?).map (·.1)=opsA[k+j]?)→(∀j:Nat,(l[j]?).map (·.2)=cJ[k+j]?)→G6 opsA.size k listed→oG opsA listed→G8 opsA.toList k l=true→G9 ck tt opsA.toList Fi l g→
  jQ ck tt opsA cJ Fi l.length listed g
 |[],k,listed,g,Z,_,dm,_,_,hc=>by
  refine⟨?_,hc⟩
  have hk:opsA[k]? = none:=by have:=Z 0;simpa using this.symm
  have lm:opsA.size≤k:=by simpa using hk
  refine List.eq_nil_iff_forall_not_mem.2 λj hj=>?_
  obtain⟨hu,o,ay,_⟩:=mem_ready.1 hj;have bw:j<opsA.size:=(Array.getElem?_eq_some_iff.1 ay).1;have:=dm.at' j bw
  rw [Array.getD_eq_getD_getElem?,this]at hu;have uo:j<k:=by omega
  simp [uo]at hu
 |(o,E)::l,k,listed,g,Z,aa,dm,gM,hx,hc=>by
  have ay:opsA[k]? = some o:=by have:=Z 0;simpa using this.symm
  have b2:cJ[k]? = some E:=by have:=aa 0;simpa using this.symm
  have bw:k<opsA.size:=(Array.getElem?_eq_some_iff.1 ay).1;simp only [G8,Bool.and_eq_true]at hx;obtain⟨⟨ai,bP⟩,hx⟩:=hx
  have W8:k∈Region.ready .any opsA listed:=by
   refine mem_ready.2 ⟨?_,o,ay,λe he hb=>?_⟩
   ·rw [Array.getD_eq_getD_getElem?,dm.at' k bw];simp
   ·have:=List.all_eq_true.1 ai e (by simpa using he)
    simp only [hb,Bool.not_true,Bool.false_or,Nat.blt_eq]at this;rw [Array.getD_eq_getD_getElem?,dm.at' e.on (by omega)]
    simp [this]
  refine jQ.first ee dz ay b2 l.length listed g ?_ gM W8 hc.1 (jQ.text ee dz l (k+1) _ _ (λj=>?_) (λj=>?_) dm.set (gM.set W8) hx hc.2)
  ·intro j qi mA qj un dL oH pt;have vZ:j<opsA.size:=(Array.getElem?_eq_some_iff.1 qj).1
   have uo:k<j:=by
    rw [Array.getD_eq_getD_getElem?,dm.at' j vZ]at oH;simp at oH
    omega
   have e1:=Z (j-k);have e2:=aa (j-k);have W9:k+(j-k)=j:=by omega
   rw [W9,qj]at e1;rw [W9,un]at e2
   have e3:(((o,E)::l)[j-k]?)=l[j-k-1]? := by
    have:j-k=(j-k-1)+1:=by omega
    rw [this];simp
   rw [e3]at e1 e2;cases ab:l[j-k-1]? with
   |none=>rw [ab]at e1;simp at e1
   |some x=>
    rw [ab]at e1 e2;simp at e1 e2
    obtain⟨gw,gW⟩:=x;simp only at e1 e2
    subst e1;subst e2;exact W7 bP _ _ _ ab (by rwa [show k+1+(j-k-1)=j by omega])
  ·have:=Z (j+1);simpa [Nat.add_assoc,Nat.add_comm 1 j]using this
  ·have:=aa (j+1);simpa [Nat.add_assoc,Nat.add_comm 1 j]using this
end
def rk(N:Nat)(E:ey):Bool:=
 match E.dst with
 |none=>E.p.isEmpty
 |some t=>Nat.blt t N&&match E.p with
  |[]=>true
  |p=>E.f.e.isSome&&E.f.hs.isEmpty&&E.f.hy.isEmpty&&p.all (λy=>!Nat.beq y.1 t)&&Nat.beq E.f.fv 0
def Ck(ops:List Oper)(i:Nat)(t:Nat):Nat→List ey→Bool
 |_,[]=>true
 |j,dr::l=>(match dr.p with
  |[]=>true
  |p=>(match dr.dst with |some bX=>Nat.beq bX t |none=>false)||p.all (λy=>!Nat.beq y.1 t)||waits ops i 3 j)&&Ck ops i t (j+1) l
def G'(ops:List Oper)(cJ:List ey):Nat→List ey→Bool
 |_,[]=>true
 |i,E::l=>(match E.dst with
  |none=>true
  |some t=>Ck ops i t 0 cJ)&&G' ops cJ (i+1) l
def Cl(ops:List Oper)(cJ:List ey):Bool:=G' ops cJ 0 cJ
def W'{ops:List Oper}{i t:Nat}:∀{l:List ey} {k:Nat},Ck ops i t k l=true→∀(j:Nat) (dr:ey),l[j]? = some dr→dr.p≠[]→
 ((match dr.dst with|some bX=>Nat.beq bX t|none=>false)||dr.p.all (λy=>!Nat.beq y.1 t))=true∨waits ops i 3 (k+j)=true
 |[],_,_,j,dr,h,_=>by simp at h
 |a_::l,k,h,j,dr,hj,dL=>by
  simp only [Ck,Bool.and_eq_true]at h;cases j with
  |zero=>
   simp at hj
   subst hj;have Z:=h.1;split at Z
   ·rename_i p5;exact absurd p5 dL
   ·rw [Bool.or_eq_true]at Z;exact Z
  |succ j=>
   have:=W' h.2 j dr (by simpa using hj) dL
   rwa [show k+(j+1)=k+1+j by omega]
def W_{ops:List Oper}{cJ:List ey}:∀{l:List ey} {k:Nat},G' ops cJ k l=true→∀(i:Nat) (E:ey) (t:Nat),l[i]? = some E→E.dst=some t→Ck ops (k+i) t 0 cJ=true
 |[],_,_,i,E,t,h,_=>by simp at h
 |a_::l,k,h,i,E,t,hi,hd=>by
  simp only [G',Bool.and_eq_true]at h;cases i with
  |zero=>
   simp at hi
   subst hi;have Z:=h.1;rw [hd]at Z;exact Z
  |succ i=>
   have:=W_ h.2 i E t (by simpa using hi) hd
   rwa [show k+(i+1)=k+1+i by omega]
section
variable {P:Program} {K:Ctx} {N:Nat} {M:Mem} {β:Nat→Option Nat} {tt:dH} {opsA:Array Oper} {cJ:List ey} {g:dk} {w:World} {tmps:Array Value}
def uq(cJ:List ey)(listed:Array Bool)(g:dk):Prop:=∀x,x∈g.b6→∃(i:Nat) (E:ey),cJ[i]? = some E∧listed.getD i false=true∧E.dst=some x.1∧E.p=x.2.1∧E.p≠[]
def G_{α:Type}:∀{l:List (Nat×α)} {t:Nat} {x:Nat×α},x∈del l t→x∈l
 |[],_,_,h=>by simp [del]at h
 |(j,y)::l,t,x,h=>by
  simp only [del]at h;rw [Bool.cond_eq_ite]at h;split at h
  ·exact List.mem_cons_of_mem _ (G_ h)
  ·rcases List.mem_cons.1 h with rfl|h
   ·simp
   ·exact List.mem_cons_of_mem _ (G_ h)
def uq.ap{listed:Array Bool}{i:Nat}{E:ey}(b2:cJ[i]? = some E)(hi:i<listed.size)(h:uq cJ listed g):uq cJ (listed.setIfInBounds i true) (eE E g):=by
 have cG:uq cJ (listed.setIfInBounds i true) g:=λx hx=>by
  obtain⟨j,dr,Z,aa,am⟩:=h x hx;exact⟨j,dr,Z,getD_set_true aa,am⟩
 intro x hx;unfold eE at hx;cases hd:E.dst with
 |none=>simp only [hd]at hx;exact cG x hx
 |some t=>
  simp only [hd]at hx;cases hp:E.p with
  |nil=>simp only [hp]at hx;exact cG x (G_ hx)
  |cons y p=>
   simp only [hp]at hx;cases he:E.f.e with
   |none=>simp only [he]at hx;exact cG x hx
   |some e=>
    simp only [he]at hx;rcases List.mem_cons.1 hx with rfl|hx
    ·exact⟨i,E,b2,by simp [hi],by simp [hd],by simp [hp],by simp [hp]⟩
    ·exact cG x (G_ hx)
def ahZ{listed:Array Bool}{i:Nat}{E:ey}{t:Nat}(kO:Cl opsA.toList cJ=true)(b2:cJ[i]? = some E)(hd:E.dst=some t)(hc:oG opsA listed)(hi:listed.getD i false=false)(h:uq cJ listed g):yn g.b6 t=true:=by
 unfold yn;rw [List.all_eq_true];intro x hx;obtain⟨j,dr,sD,ab,jM,yO,dL⟩:=h x hx;have Z:=W_ kO i E t b2 hd;rw [Nat.zero_add]at Z;rcases W' Z j dr sD dL with aa|aa
 ·rw [jM,yO]at aa;exact aa
 ·rw [Nat.zero_add]at aa;have:=G4 hc aa ab
  rw [hi]at this;cases this
def Xa{listed:Array Bool}{ck:gF}{o:Oper}{E:ey}{i:Nat}(ky:E.e8=0)(kd:N0 ck tt opsA.toList o E g)(b2:cJ[i]? = some E)(ee:iN opsA.toList o E=true)(aZ:rk N E=true)(kO:Cl opsA.toList cJ=true)(hc:oG opsA listed)(hi:listed.getD i false=false)(jn:uq cJ listed g):
 kr ck tt N opsA.toList {g with rs:=E.rs,a8:=[]} o=some (.go {eE E g with rs:=[],a8:=E.f.a8.map (under g E.p)}):=by
 obtain⟨_,_,fp,eQ⟩:=G3 ee;have hg:p4 opsA.toList {g with rs:=E.rs,a8:=[]} o=some E.p:=kd.G0
 have hs:step1 ck tt opsA.toList {g with rs:=E.rs,a8:=[]} E.p o=some (.go E.f):=by
  have c_:=kd.st;rw [ky]at c_;refine Eq.trans ?_ c_;exact NV (g1:={g with rs:=E.rs,a8:=[]}) (g2:={g with rs:=E.rs}) (λ_ _ _ _=>⟨rfl,rfl⟩) rfl rfl (λ_=>rfl) (λ_ _=>rfl)
 have hu:∀q,under {g with rs:=E.rs,a8:=[]} E.p q=under g E.p q:=λq=>GZ λ_ _=>⟨rfl,rfl⟩
 unfold kr;rw [hg]
 dsimp only
 rw [hs]
 dsimp only
 rw [←fp];have cx:E.f.a8.map (under {g with rs:=E.rs,a8:=[]} E.p)++[]=E.f.a8.map (under g E.p):=by rw [List.append_nil];exact List.map_congr_left λq _=>hu q
 rw [cx,eQ];unfold rk at aZ;unfold eE;cases hd:E.dst with
 |none=>
  rw [hd]at aZ
  dsimp only at aZ ⊢
  rw [aZ];rfl
 |some t=>
  rw [hd]at aZ;have bP:=ahZ kO b2 hd hc hi jn;simp only [Bool.and_eq_true]at aZ;obtain⟨bw,aZ⟩:=aZ
  dsimp only
  rw [bw,bP];cases hp:E.p with
  |nil=>rfl
  |cons x p=>
   rw [hp]at aZ;simp only [Bool.and_eq_true,List.isEmpty_iff,Nat.beq_eq,Option.isSome_iff_exists]at aZ;obtain⟨⟨⟨⟨⟨e,he⟩,bn⟩,hc⟩,lK⟩,hn⟩:=aZ;simp only [he,bn,hc,hn,lK];rfl
def jQ.sound(cf:fe P tt=true)(ky:∀(i:Nat) E,cJ[i]? = some E→E.e8=0)(ee:∀(i:Nat) o E,opsA[i]? = some o→cJ[i]? = some E→iN opsA.toList o E=true)(aZ:∀(i:Nat) E,cJ[i]? = some E→rk N E=true)(kO:Cl opsA.toList cJ=true){Fi:dk→Prop}{Q:Exit→Act→World→Prop}
 (ew:∀g ek w' M' β',Fi g→fJ P K N M' β' g ek w'→Q .normal ⟨ek,K.ds⟩ w'):
 ∀(n:Nat) (listed:Array Bool) (g:dk) (tmps:Array Value) (w:World) (M:Mem) (β:Nat→Option Nat),jQ (hR P) tt opsA cJ Fi n listed g→listed.size=opsA.size→oG opsA listed→uq cJ listed g→fJ P K N M β g tmps w→wpAny P .any opsA Q n listed ⟨tmps,K.ds⟩ w
 | 0,_,g,tmps,w,M,β,h,_,_,_,hs=>⟨h.1,ew g tmps w M β h.2 hs⟩
 |n+1,listed,g,tmps,w,M,β,h,en,gM,jn,hs=>by
  refine⟨λai=>ew g tmps w M β (h.1 ai) hs,λi hi=>?_⟩
  obtain⟨o,E,ay,b2,Ha,hn⟩:=h.2 i hi;have kd:=Ha.resolve_left (by rw [ky i E b2];simp)
  have bw:i<listed.size:=by rw [en];exact(Array.getElem?_eq_some_iff.1 ay).1
  have oH:listed.getD i false=false:=by have:=(mem_ready.1 hi).1;simpa [Array.getD_eq_getD_getElem?,bw]using this
  have N1:=Xa (N:=N) (ky i E b2) kd b2 (ee i o E ay b2) (aZ i E b2) kO gM oH jn;have gg:fJ P K N M β {g with rs:=E.rs,a8:=[]} tmps w:=⟨hs.bo,hs.size,hs.fresh,hs.cond⟩;unfold wpOp;simp only [ay];refine Ce gg cf (opsA:=opsA) rfl N1 (λq ao=>?_) (λek w' M' β' cG=>?_)
  ·obtain⟨q',p_,rfl⟩:=List.mem_map.1 ao;exact kd.a8 q' p_
  ·exact jQ.sound cf ky ee aZ kO ew n _ (eE E g) ek w' M' β' hn (by simpa using en) (gM.set hi) (jn.ap b2 bw) ⟨cG.bo,cG.size,cG.fresh,cG.cond⟩
end
def findD(ck:gF)(tt:dH)(ops:List Oper)(g:dk)(o:Oper)(rs:List fu):Option ey:=
 match p4 ops g o with
 |none=>none
 |some p=>match step1 ck tt ops {g with rs:=rs} p o with
  |some (.go f)=>some {dst:=o.dst,p,f,kB:=jf tt g p o,nB:=qg ops o++p.map (·.1),qe:=ri o,rs,oE:=wx o rs}
  |_=>none
def wy(ck:gF)(tt:dH)(ops:List Oper):List Oper→List (List fu)→dk→Option (List ey×dk×List Prop)
 |[],[],g=>some ([],g,[])
 |o::l,rs::ke,g=>match findD ck tt ops g o rs with
  |some E=>match wy ck tt ops l ke (eE E g) with
   |some (cJ,e0,a8)=>some (E::cJ,e0,a8++E.f.a8.map (under g E.p))
   |none=>none
  |none=>none
 |_,_,_=>none
def lN:List Oper→List ey→List (Oper×ey)
 |o::l,E::m=>(o,E)::lN l m
 |_,_=>[]
def Hb(N:Nat)(ops:List Oper)(cJ:List ey):Bool:=
 (lN ops cJ).all (λx=>iN ops x.1 x.2)&&cJ.all (rk N)&&Cl ops cJ&&G8 ops 0 (lN ops cJ)
section
variable {ck:gF} {tt:dH} {ops:List Oper}
def Xb{Fi:dk→Prop}:∀{l:List Oper} {ke:List (List fu)} {g:dk} {cJ:List ey} {e0:dk} {a8:List Prop},wy ck tt ops l ke g=some (cJ,e0,a8)→(∀q,q∈a8→q)→Fi e0→
 cJ.length=l.length∧(∀E,E∈cJ→E.e8=0)∧G9 ck tt ops Fi (lN l cJ) g
 |[],[],g,cJ,e0,a8,h,_,dz=>by
  simp only [wy,Option.some.injEq,Prod.mk.injEq]at h;obtain⟨rfl,rfl,rfl⟩:=h;exact⟨rfl,by simp,dz⟩
 |o::l,rs::ke,g,cJ,e0,a8,h,cx,dz=>by
  simp only [wy]at h;split at h
  case h_2=>cases h
  rename_i E b2;split at h
  case h_2=>cases h
  rename_i wz g1 Hc Z;simp only [Option.some.injEq,Prod.mk.injEq]at h;obtain⟨rfl,rfl,rfl⟩:=h;obtain⟨aa,ah0,am⟩:=Xb Z (λq ao=>cx q (List.mem_append_left _ ao)) dz
  have ah1:E.e8=0:=by
   unfold findD at b2;split at b2
   ·cases b2
   split at b2
   ·cases b2;rfl
   ·cases b2
  refine⟨by simp [aa],λdr sD=>?_,?_,am⟩
  ·rcases List.mem_cons.1 sD with rfl|sD
   ·exact ah1
   ·exact ah0 dr sD
  have N2:∀q,q∈E.f.a8→under g E.p q:=λq ao=>cx _ (List.mem_append_right _ (List.mem_map.2 ⟨q,ao,rfl⟩))
  unfold findD at b2;split at b2
  ·cases b2
  rename_i p hp;split at b2
  ·rename_i f bP;cases b2;exact .inr ⟨hp,bP,N2,λ_ h=>h,λh=>by cases h⟩
  ·cases b2
 |[],_::_,_,_,_,_,h,_,_=>by simp [wy]at h
 |_::_,[],_,_,_,_,h,_,_=>by simp [wy]at h
def wA:∀{l:List Oper} {m:List ey},m.length=l.length→∀(j:Nat),((lN l m)[j]?).map (·.1)=l[j]? ∧ ((lN l m)[j]?).map (·.2)=m[j]?
 |[],[],_,j=>by simp [lN]
 |o::l,E::m,h,j=>by
  cases j with
  |zero=>simp [lN]
  |succ j=>simpa [lN]using wA (by simpa using h) j
 |[],_::_,h,_=>by simp at h
 |_::_,[],h,_=>by simp at h
def N3:∀{l:List Oper} {m:List ey},m.length=l.length→(lN l m).length=l.length
 |[],[],_=>rfl
 |_::l,_::m,h=>by simp [lN,N3 (l:=l) (m:=m) (by simpa using h)]
 |[],_::_,h=>by simp at h
 |_::_,[],h=>by simp at h
end
section
variable {P:Program} {N E:Nat} {st:aH} {tt:dH}
def Alike.bo{K:Ctx}{M:Mem}{β:Nat→Option Nat}{g1 g2:dk}{tmps:Array Value}{w:World}(ha:Alike g1 g2)(h:bI P K M β {env:=g1.env,H:=g1.H,aX:=g1.aX} tmps w):bI P K M β {env:=g2.env,H:=g2.H,aX:=g2.aX} tmps w:=by
 have fo:∀l,({env:=g2.env,H:=g2.H,aX:=g2.aX}:aH).at l=({env:=g1.env,H:=g1.H,aX:=g1.aX}:aH).at l:=by
  intro l;cases l with
  |slot s=>exact(ha.slot s).1.symm
  |cell r i=>simp only [aH.at];rw [←ha.box r]
 have hb:∀r,look g2.H r=look g1.H r:=λr=>(ha.box r).symm
 constructor
 ·intro l e ab;rw [fo]at ab;exact h.e4 l e ab
 ·intro l e T ab;rw [fo]at ab;exact h.own l e T ab
 ·intro l cH e aY T T' b ab aD cO;rw [fo]at ab cO;exact h.uniq l cH e aY T T' b ab aD cO
 ·intro l e T b r cs ab aD nx ai;rw [fo]at ab;exact h.unbox l e T b r cs ab aD nx (by rw [←hb r];exact ai)
 ·intro r cs ai;exact h.box r cs (by rw [←hb r];exact ai)
 ·intro r cI b cs cs' ai fb;exact h.inj r cI b cs cs' (by rw [←hb r];exact ai) (by rw [←hb cI];exact fb)
 ·intro r b ai;exact(by have:=h.lt r b ai;simpa [ha.aX]using this)
 ·exact h.mem
 ·exact h.m0
 ·exact h.frame
 ·exact h.iL
 ·exact h.jm
 ·exact h.h3
def bI.drew{K:Ctx}{M:Mem}{β:Nat→Option Nat}{tmps:Array Value}{w:World}(h:bI P K M β st tmps w)(k:Nat):bI P K M β st tmps {w with drawn:=k}:=
 ⟨h.e4,h.own,h.uniq,h.unbox,h.box,h.inj,h.lt,h.mem,h.m0,h.frame,h.iL,h.jm,h.h3⟩
end
def ba.scope{P:Program}{N E:Nat}{c:Code}{Q:cr→aH→Prop}{st:aH}(h:ba P N E c Q st):ba P N E (.scope c) Q st:=by
 intro K eh a w hs;refine wp_scope_straight (wp_mono (h K eh a w hs) ?_)
 rintro e dv w' ⟨fr,bY,Z,aa⟩
 cases fr with
 |normal=>obtain⟨rfl,am⟩:=Z;exact⟨.normal,bY,⟨rfl,am⟩,aa⟩
 |exit i=>obtain⟨rfl,am⟩:=Z;exact⟨.exit i,bY,⟨rfl,am⟩,aa⟩
 |ret=>obtain⟨rfl,am⟩:=Z;exact⟨.ret,bY,⟨rfl,am⟩,aa⟩
 |aJ x=>obtain⟨v,rfl,am⟩:=Z;exact⟨.aJ x,bY,⟨v,rfl,am⟩,aa⟩
def iA.on{α β dO:Type}(x:α ⊕ β)(f:α→dO)(g:β→dO):dO:=
 match x with
 |.inl a=>f a
 |.inr b=>g b
def Hd.on{α β dO:Type}(x:α×β)(f:α→β→dO):dO:=f x.1 x.2
def He(P:Program)(w:World):Prop:=(∀g,g∈Mq P→∃fQ,w.cell? ⟨g,0,none⟩=some fQ∧(fQ = .nilIface∨∃cm sg,fQ = .iface cm sg))∧
 ∀ g, P.globalNamed "internal/strconv.uint64pow10" = some g → ∃ t ld, w.heap[g]? = some (.cells Mr t ld)
section
variable {P:Program}
def bI.ah2{K:Ctx}{M:Mem}{β:Nat→Option Nat}{st:aH}{tmps:Array Value}{w:World}(h:bI P K M β st tmps w):He P w:=⟨λg hg=>by
 obtain⟨cs,t,ld,fQ,Z,aa,am⟩:=h.jm.1 g hg;refine⟨fQ,?_,am⟩
 have:=(h.frame g _ Z).1
 unfold World.cell?;rw [this];exact aa,λg hg=>by
 obtain⟨t,ld,Z⟩:=h.jm.2 g hg;exact⟨t,ld,(h.frame g _ Z).1⟩⟩
def Xc {f : FuncId} {args : List D} {vsOf : World → List Value → Prop} {d : D} {fd : Func} (kw : P.funcs[f]? = some fd) (hb : fd.body.isSome = true) (hn : decide (fd.name = "runtime.NumGoroutine") = false)
 (e5:∀(w:World) (M:Mem) (β:Nat→Option Nat) (vs:List Value),(∀b o v,M b o=some v→w.cell? ⟨b,o,none⟩=some v)→vs.length=args.length→(∀(i:Nat) v a,vs[i]? = some v→args[i]? = some a→cv M β v a)→vsOf w vs)
 (wj:∀(vs:List Value) (w:World),vsOf w vs→He P w→Calls P f ⟨vs⟩ w λe w'=>∃v,e = .returned v∧(∀M β,cv M β v d)∧(∀(b:Nat) (a8:Obj),w.heap[b]? = some a8→w'.heap[b]? = some a8)∧(w'.os,w'.output)=(w.os,w.output)):
 gL P f args [] [] (.ret d none) []:=by
 refine⟨⟨fd,kw,hb,by simpa using hn⟩,λK w vs M β hlen hs hH=>?_⟩
 have au:vsOf w vs:=e5 w M β vs hs.mem hlen λi v a hi ha=>by
  have Z:=hs.e4 (.slot i) ⟨a,none⟩ (by
   simp only [aH.at,h7,nz,BX,ha,Option.map_some,look])
  have aa:ce (⟨vs⟩:Array Value) w β (.slot i)=v:=by
   simp [ce,hi]
  rw [aa]at Z;exact Z
 refine(wj vs w au hs.ah2).mono ?_
 rintro e w' ⟨v,rfl,fX,q3,pj⟩
 refine⟨.ret d none,[],v,M,β,⟨rfl,rfl⟩,rfl,?_⟩
 have iz:∀b o v,w.cell? ⟨b,o,none⟩=some v→w'.cell? ⟨b,o,none⟩=some v:=by
  intro b o v h;unfold World.cell? at h ⊢;cases hb:w.heap[b]? with
  |none=>simp [hb]at h
  |some a8=>rw [q3 b a8 hb];rw [hb]at h;exact h
 constructor
 ·intro l e ab;cases l with
  |slot s=>
   simp only [aH.at,ih,dC]at ab;split at ab
   ·rename_i h0;subst h0;cases ab;exact fX M β
   ·simp [look]at ab
  |cell r i=>simp [aH.at,cX,look]at ab
 ·intro l e T ab aD;cases l with
  |slot s=>
   simp only [aH.at,ih,dC]at ab;split at ab
   ·cases ab;cases aD
   ·simp [look]at ab
  |cell r i=>simp [aH.at,cX,look]at ab
 ·intro l cH e aY T T' b ab aD;cases l with
  |slot s=>
   simp only [aH.at,ih,dC]at ab;split at ab
   ·cases ab;cases aD
   ·simp [look]at ab
  |cell r i=>simp [aH.at,cX,look]at ab
 ·intro l e T b r cs ab aD hb ai;simp [cX,look]at ai
 ·intro r cs ai;simp [cX,look]at ai
 ·intro r cI b cs cs' ai;simp [cX,look]at ai
 ·exact hs.lt
 ·exact λb o v h=>iz b o v (hs.mem b o v h)
 ·exact hs.m0
 ·exact λb a8 h=>⟨q3 b a8 (hs.frame b a8 h).1,(hs.frame b a8 h).2⟩
 ·exact hs.iL
 ·exact hs.jm
 ·exact pj.trans hs.h3
def wB {f : FuncId} {args : List D} {vsOf : List Value → Prop} {d : D} {fd : Func} (kw : P.funcs[f]? = some fd) (hb : fd.body.isSome = true) (hn : decide (fd.name = "runtime.NumGoroutine") = false)
 (e5:∀(M:Mem) (β:Nat→Option Nat) (vs:List Value),vs.length=args.length→(∀(i:Nat) v a,vs[i]? = some v→args[i]? = some a→cv M β v a)→vsOf vs)
 (wj:∀(vs:List Value) (w:World),vsOf vs→He P w→Calls P f ⟨vs⟩ w λe w'=>∃v,e = .returned v∧(∀M β,cv M β v d)∧(∀(b:Nat) (a8:Obj),w.heap[b]? = some a8→w'.heap[b]? = some a8)∧(w'.os,w'.output)=(w.os,w.output)):
 gL P f args [] [] (.ret d none) []:=
 Xc (vsOf:=λ_ vs=>vsOf vs) kw hb hn (λ_ M β vs _=>e5 M β vs) wj
end
def wC(ck:gF)(tt:dH)(N:Nat)(ops:List Oper)(rs:List fu)(st:aH):Option Fin:=
 match tT ck tt N ops ops {env:=st.env,b6:=[],H:=st.H,aX:=st.aX,rs,a8:=[]} with
 |some (.go g)=>match g.rs with
  |[]=>some (.go {env:=g.env,H:=g.H,aX:=g.aX} g.a8)
  |_=>none
 |some (.aJ x st a8)=>some (.aJ x st a8)
 |none=>none
def wD:List Oper→Nat→List (Nat×Nat)
 |[],_=>[]
 |o::l,n=>match ri o,o.dst with
  |true,some t=>(t,n)::wD l (n+1)
  |_,_=>wD l n
def Hf(ops:List Oper)(st:aH):dk:=
 {env:=st.env,b6:=[],H:=st.H,aX:=st.aX+(wD ops st.aX).length,rs:=[],a8:=[],ids:=wD ops st.aX}
def Hg(ck:gF)(tt:dH)(N:Nat)(ops:List Oper)(ke:List (List fu))(st:aH):Option Fin:=
 match wy ck tt ops ops ke (Hf ops st) with
 |some (cJ,g,a8)=>bif Hb N ops cJ then some (.go {env:=g.env,H:=g.H,aX:=g.aX} a8)else none
 |none=>none
def kf:Option Fin→aH
 |some (.go st _)=>st
 |some (.aJ _ st _)=>st
 |none=>{env:=[],H:=[],aX:=0}
def mB:Option Fin→Option (List Prop)
 |some (.go _ a8)=>some a8
 |_=>none
def N4:Option Fin→Option (V×List Prop)
 |some (.aJ x _ a8)=>some (x,a8)
 |_=>none
def spread:Nat→Nat→List (Nat×List fu)→List (List fu)
 | 0,_,_=>[]
 |n+1,i,l=>(look l i).getD []::spread n (i+1) l
def Hh:∀(l:List Oper) (n:Nat) (x:Nat×Nat),x∈wD l n→n≤x.2∧True
 |[],n,x,h=>by simp [wD]at h
 |o::l,n,x,h=>by
  unfold wD at h;split at h
  ·rcases List.mem_cons.1 h with h|h
   ·subst h;exact⟨Nat.le_refl _,trivial⟩
   ·have:=(Hh l (n+1) x h).1;exact⟨by omega,trivial⟩
  ·exact Hh l n x h
def bI.up{P:Program}{K:Ctx}{M:Mem}{β:Nat→Option Nat}{st:aH}{tmps:Array Value}{w:World}(h:bI P K M β st tmps w)(k:Nat):bI P K M β {env:=st.env,H:=st.H,aX:=st.aX+k} tmps w:=
 ⟨h.e4,h.own,h.uniq,h.unbox,h.box,h.inj,(λr b hb=>Nat.lt_of_lt_of_le (h.lt r b hb) (Nat.le_add_right _ _)),h.mem,h.m0,h.frame,h.iL,h.jm,h.h3⟩
section
variable {P:Program} {N E:Nat} {st:aH} {tt:dH}
def ba.rg{id:Nat}{opsA:Array Oper}{Q:cr→aH→Prop}(cf:fe P tt=true)(rs:List fu){bu:List Prop}(ai:mB (wC (hR P) tt N opsA.toList rs st)=some bu)(cx:lp bu)
 (ew:Q .normal (kf (wC (hR P) tt N opsA.toList rs st))):ba P N E (.region id opsA false) Q st:=by
 rintro K eh a w ⟨_,hd,en,M,β,cT⟩
 obtain⟨tmps,ds⟩:=a;simp only at hd en
 subst hd;have qk:fJ P K N M β {env:=st.env,b6:=[],H:=st.H,aX:=st.aX,rs:=rs,a8:=[]} tmps w:=⟨cT,en,(λ_ _ h=>by simp [look]at h),λ_ _ _ h=>by simp [look]at h⟩
 refine wp_region ?_;unfold wC at ai ew;have hlen:List.range opsA.size=List.range' 0 opsA.toList.length:=by rw [List.range_eq_range'];simp
 rw [hlen];split at ai
 ·rename_i g eO;split at ai
  case h_2=>cases ai
  rename_i eK;simp only [mB,Option.some.injEq]at ai;subst ai;rw [eO]at ew;simp only [eK,kf]at ew;refine NL cf rfl (fin:=.go g) cx.mem ?_ opsA.toList 0 _ tmps w M β (λj=>by simp) qk eO
  intro ek w' M' β' cG;exact⟨.normal,_,⟨rfl,rfl,cG.size,M',β',cG.bo⟩,ew⟩
 ·cases ai
 ·cases ai
def ba.N5{id:Nat}{opsA:Array Oper}{Q:cr→aH→Prop}(cf:fe P tt=true)(rs:List fu){x:V}{bu:List Prop}(ai:N4 (wC (hR P) tt N opsA.toList rs st)=some (x,bu))(cx:lp bu)
 (ew:Q (.aJ x) (kf (wC (hR P) tt N opsA.toList rs st))):ba P N E (.region id opsA false) Q st:=by
 rintro K eh a w ⟨_,hd,en,M,β,cT⟩
 obtain⟨tmps,ds⟩:=a;simp only at hd en
 subst hd;have qk:fJ P K N M β {env:=st.env,b6:=[],H:=st.H,aX:=st.aX,rs:=rs,a8:=[]} tmps w:=⟨cT,en,(λ_ _ h=>by simp [look]at h),λ_ _ _ h=>by simp [look]at h⟩
 refine wp_region ?_;unfold wC at ai ew;have hlen:List.range opsA.size=List.range' 0 opsA.toList.length:=by rw [List.range_eq_range'];simp
 rw [hlen];split at ai
 ·split at ai<;>cases ai
 ·rename_i y bY a8 eO;simp only [N4,Option.some.injEq,Prod.mk.injEq]at ai;obtain⟨rfl,rfl⟩:=ai;rw [eO]at ew;refine NL cf rfl (fin:=.aJ y bY a8) cx.mem ?_ opsA.toList 0 _ tmps w M β (λj=>by simp) qk eO
  intro e dv w' cG;exact⟨.aJ y,_,cG,ew⟩
 ·cases ai
def ba.Hi{id:Nat}{opsA:Array Oper}{Q:cr→aH→Prop}(cf:fe P tt=true)(hm:P.follows .mixedOrders=true)(ke:List (Nat×List fu)){bu:List Prop}(ai:mB (Hg (hR P) tt N opsA.toList (spread opsA.toList.length 0 ke) st)=some bu)(cx:lp bu)
 (ew:Q .normal (kf (Hg (hR P) tt N opsA.toList (spread opsA.toList.length 0 ke) st))):ba P N E (.region id opsA true) Q st:=by
 rintro K eh a w ⟨_,hd,en,M,β,cT⟩
 obtain⟨tmps,ds⟩:=a;simp only at hd en
 subst hd;refine wp_region_any hm ?_;unfold Hg at ai ew;split at ai
 case h_2=>cases ai
 rename_i cJ g ui eO;rw [eO]at ew
 dsimp only at ew
 rw [Bool.cond_eq_ite]at ai ew;split at ai
 case isFalse=>cases ai
 rename_i hc;rw [if_pos hc]at ew;simp only [mB,Option.some.injEq]at ai;subst ai;simp only [kf]at ew;obtain⟨hlen,ky,N6⟩:=Xb (Fi:=λg1=>Alike g g1) eO cx.mem Alike.refl
 simp only [Hb,Bool.and_eq_true]at hc;obtain⟨⟨⟨c1,c2⟩,c3⟩,c4⟩:=hc
 have ee:∀(i:Nat) o E,opsA[i]? = some o→cJ[i]? = some E→iN opsA.toList o E=true:=by
  intro i o E ay b2;obtain⟨ll,z2⟩:=wA hlen i;have lg:opsA.toList[i]? = some o:=by simpa using ay
  rw [lg]at ll;rw [b2]at z2;cases cY:(lN opsA.toList cJ)[i]? with
  |none=>rw [cY]at ll;simp at ll
  |some x=>
   rw [cY]at ll z2;simp at ll z2
   subst ll;subst z2;exact List.all_eq_true.1 c1 x (List.mem_of_getElem? cY)
 have aZ:∀(i:Nat) E,cJ[i]? = some E→rk N E=true:=λi E b2=>List.all_eq_true.1 c2 E (List.mem_of_getElem? b2)
 have Cm:oG opsA (Array.replicate opsA.size false):=λj o ay hj=>by have bw:j<opsA.size:=(Array.getElem?_eq_some_iff.1 ay).1;simp [Array.getD_eq_getD_getElem?,bw]at hj
 have Cn:=jQ.text ee (λg1 g2 gx Z=>Alike.trans Z gx) (lN opsA.toList cJ) 0 (Array.replicate opsA.size false) _ (λj=>by have:=(wA hlen j).1;simpa using this) (λj=>by have:=(wA hlen j).2;simpa using this)
  ⟨by simp,λj hj=>by simp [hj]⟩ Cm c4 N6
 have vW:(lN opsA.toList cJ).length=opsA.size:=by rw [N3 hlen];simp
 rw [vW]at Cn;refine jQ.sound (K:=K) cf (λi E b2=>ky E (List.mem_of_getElem? b2)) ee aZ c3 ?_ _ _ _ tmps _ M β Cn (by simp) Cm (λx hx=>by cases hx) ⟨(cT.drew _).up _,en,(λs id h _ b hb=>by have Z:=cT.lt _ _ hb;have aa:=(Hh _ _ _ (sj h)).1;simp only at aa;omega),λ_ _ _ h=>by simp [Hf,look]at h⟩
 intro g1 ek w' M' β' ah3 cG;exact⟨.normal,_,⟨rfl,rfl,cG.size,M',β',Alike.bo ah3.symm cG.bo⟩,ew⟩
def ba.N7{α:Type}{b:Bool}{x y:Option α}{r:Option α}(h:(bif b then x else y)=r){c:Nat}{wE wF:Code}{Q:cr→aH→Prop}(hc:(look st.env c).map (·.d)=some (.v (.bool b)))
 (aF:x=r→ba P N E wE Q st) (bP:y=r→ba P N E wF Q st):ba P N E (.cond (.tmp c) wE wF) Q st:=by
 simp only [Option.map_eq_some_iff]at hc;obtain⟨⟨d,own⟩,he,rfl⟩:=hc;exact ba.cond b own he (λhb=>aF (by subst hb;exact h)) (λhb=>bP (by subst hb;exact h))
def ba.Xd{c:Nat}{wE wF:Code}{Q:cr→aH→Prop}(hc:(look st.env c).map (·.d)=some (.v (.bool true)))(aF:ba P N E wE Q st):ba P N E (.cond (.tmp c) wE wF) Q st:=by
 simp only [Option.map_eq_some_iff]at hc;obtain⟨⟨d,own⟩,he,rfl⟩:=hc;exact ba.cond true own he (λ_=>aF) (λhb=>by cases hb)
def ba.N8{c:Nat}{wE wF:Code}{Q:cr→aH→Prop}(hc:(look st.env c).map (·.d)=some (.v (.bool false)))(bP:ba P N E wF Q st):ba P N E (.cond (.tmp c) wE wF) Q st:=by
 simp only [Option.map_eq_some_iff]at hc;obtain⟨⟨d,own⟩,he,rfl⟩:=hc;exact ba.cond false own he (λhb=>by cases hb) (λ_=>bP)
end
def bF{P:Program}{f:FuncId}{args:List D}{er:List (Nat×TypeId)}{H cE:List (List aW)}{out:Out}(_:gL P f args er H out cE)(os:List Nat):fu:=.call out (some cE) os
def be{P:Program}{f:FuncId}{args:List D}{er:List (Nat×TypeId)}{H cE:List (List aW)}{out:Out}(_:gL P f args er H out cE)(os:List Nat):fu:=.call out none os
def dA{c:Prop}{P:Program}{f:FuncId}{args:List D}{er:List (Nat×TypeId)}{H cE:List (List aW)}{out:Out}(_:c→gL P f args er H out cE):fu:=.call out none []
def yY{c c2:Prop}{P:Program}{f:FuncId}{args:List D}{er:List (Nat×TypeId)}{H cE:List (List aW)}{out:Out}(_:c→c2→gL P f args er H out cE):fu:=.call out none []
def hA{raw x:V}(_:hv raw x):fu:=.val x
def eR{α:Type}[Inhabited α]{k:Nat}{e:α→V}(l:List α):hv (.bJ k l.length λi=>(l.map e).getD i .fC) (ag k e l):=ahE rfl _ rfl
def nC(l:List Int):Bool:=l.all λx=>decide (0≤x)&&decide (x<256)
def kg(l:List Int):au':=l.map λx=>UInt8.ofNat x.toNat
def Co{l:List Int}(h:nC l=true):(kg l).length=l.length∧∀i,i<l.length→V.int .u8 (l.getD i default) = .int .u8 (((kg l).getD i 0).toNat:Int):=by
 refine⟨by simp [kg],λi hi=>?_⟩
 unfold nC at h;rw [List.all_eq_true]at h;have:=h l[i] (List.getElem_mem hi)
 simp only [Bool.and_eq_true,decide_eq_true_eq]at this;simp only [kg,List.getD,List.getElem?_map,List.getElem?_eq_getElem hi,Option.getD_some,Option.map_some,UInt8.toNat_ofNat'];rw [Nat.mod_eq_of_lt (by omega)]
 congr 1
 omega
def Cp(T:TypeId):V→Option (Int×Int)
 |.iface t (.agg [.int .i64 a,.int .i64 b])=>bif Nat.beq t T then some (a,b)else none
 |_=>none
def Xe{T:TypeId}{x:V}{r:Int×Int}(h:Cp T x=some r):x = .iface T (.agg [.int .i64 r.1,.int .i64 r.2]):=by
 unfold Cp at h;split at h
 ·rw [Bool.cond_eq_ite]at h;split at h
  ·rename_i hb;cases h;rw [Nat.beq_eq]at hb;subst hb;rfl
  ·cases h
 ·cases h
def wG(M:Mem):Option V→FrameMode→Prop
 |none,m=>m = .returning
 |some x,m=>∃v,m = .panicking [{v,recovered:=false}]∧dq M v x
def ur(P:Program)(fd:FuncId)(args:List D)(H:List (List aW))(x:Option V)(R:List (List aW)→Prop):Prop:=
 ∀(K:Ctx) (w:World) (vs:List Value) (M:Mem) (β:Nat→Option Nat) (mode:FrameMode),vs.length=args.length→
  bI P K M β {env:=h7 args [],H:=cX 0 H,aX:=H.length} ⟨vs⟩ w→(∀r b,β r=some b→K.j' r=some b)→wG M x mode→
  CallsD P fd ⟨vs⟩ mode w λe nD w'=>∃v H' M' β',e = .returned v∧settle nD = .returning∧R H'∧bI P K M' β' {env:=ih (.ret (.cn []) none),H:=cX 0 H',aX:=H.length} #[v] w'
section
variable {P:Program} {K:Ctx} {M:Mem} {β:Nat→Option Nat} {st:aH} {tmps:Array Value} {w:World} {tt:dH}
def wG.ah4{x:Option V}{m:FrameMode}(h:wG M x m):m ≠ .run:=by
 cases x with
 |none=>intro hm;rw [hm]at h;cases h
 |some x=>obtain⟨v,Z,_⟩:=h;intro hm;rw [hm]at Z;cases Z
def wG.mono{M':Mem}(c7:M.le M'){x:Option V}{m:FrameMode}(h:wG M x m):wG M' x m:=by
 cases x with
 |none=>exact h
 |some x=>obtain⟨v,Z,aa⟩:=h;exact⟨v,Z,aa.mono c7⟩
def rl(P:Program)(tt:dH)(E:Nat)(rs:List ResultVar)(fd:FuncId)(ds:List D)(R:Out→List (List aW)→Prop)(x:Option V)(st:aH):Prop:=
 ∃(ρ:List Nat) (bs H1:List (List aW)) (jZ:List D) (N9:List (List aW)→Prop),nu ρ=true∧boxes st.H ρ=some bs∧kp (idx ρ) bs=some H1∧lD (idx ρ) ds=some jZ∧ur P fd jZ H1 x N9∧
  ∀cE,N9 cE→∃i' o H',cE.length=ρ.length∧kp (λj=>ρ[j]?) cE=some i'∧Ab.leave tt E rs {env:=st.env,H:=lE ρ i'++st.H,aX:=st.aX}=some (o,H')∧R o (oD H')
def N'{fn:Func}{E:Nat}(cf:fe P tt=true)(eh:∀r b,K.j' r=some b→r<E)(hs:bI P K M β st tmps w){fd:FuncId}{ds:List D}{vs:List Value}(hlen:vs.length=ds.length)(au:∀(i:Nat) v d,vs[i]? = some v→ds[i]? = some d→cv M β v d)
 {x : Option V} {mode : FrameMode} (hm : wG M x mode) {f : Func} (bP : P.funcs[fd]? = some f) (hb : f.body.isSome = true) (kb : decide (f.name = "runtime.NumGoroutine") = false) {R : Out → List (List aW) → Prop} (ln : rl P tt E fn.results.toList fd ds R x st) :
 Leaves P fn tmps (λe w'=>∃o H' v M' β',R o H'∧e=q9 o v∧bI P K M' β' {env:=ih o,H:=cX 0 H',aX:=E} #[v] w') [{target:=.fn (.func fd) ⟨vs⟩,args := #[]}] mode w:=by
 obtain⟨ρ,bs,H1,jZ,N9,hn,lj,my,e5,hd,sB⟩:=ln;have rf:f.body≠none:=by intro bn;rw [bn]at hb;cases hb
 have Cq : f.name ≠ "runtime.NumGoroutine" := by simpa using kb
 refine leaves_cons (f:=fd) (args:=⟨vs⟩) hm.ah4 (by simp [invoke,callFunc,bP,rf,Cq]) ?_
 have hc:=VZ (hd:=[]) hs hn lj my hlen au e5 ⟨by simp,by simp,by simp⟩
 have eV:H1.length=ρ.length:=by rw [(yG my).1,(vX lj).1]
 refine(hd (kP M β st tmps w ρ []) w vs M _ mode (by rw [hlen,Wp e5]) hc (λr b h=>h) hm).mono ?_
 rintro e nD w' ⟨v,H',M',β',rfl,hu,ah5,cT⟩
 obtain⟨i',o,Xf,Z,aa,am,aK⟩:=sB H' ah5;rw [eV]at cT;obtain⟨c7,N_,_,_⟩:=Ni hs hn lj aa Z cT
 dsimp only
 rw [hu];obtain⟨v2,bd,jO,M2,sE,b',eb⟩:=GU cf eh N_ am;exact⟨v2,bd,o,oD Xf,jO,M2,sE,aK,b',eb.era⟩
def ql(P:Program)(_tt:dH)(fn:Func)(E:Nat)(c:Code)(R:Out→List (List aW)→Prop)(st:aH):Prop:=
 ∀(K:Ctx),K.ds=[]→(∀r b,K.j' r=some b→r<E)→∀(a:Act) (w:World),rh P K fn.ntmps .normal st .normal a w→
  c.wp P (bodyPostD P fn λe w'=>∃o H' v M' β',R o H'∧e=q9 o v∧bI P K M' β' {env:=ih o,H:=cX 0 H',aX:=E} #[v] w') a w
def Oa(P:Program)(tt:dH)(fn:Func)(E:Nat)(y:Code)(R:Out→List (List aW)→Prop):cr→aH→Prop
 |.normal,st=>ql P tt fn E y R st
 |.ret,st=>∃o H',Ab.leave tt E fn.results.toList st=some (o,H')∧R o (oD H')
 |_,_=>False
def ql.seq{fn:Func}{E:Nat}{x y:Code}{R:Out→List (List aW)→Prop}(cf:fe P tt=true)(h:ba P fn.ntmps E x (Oa P tt fn E y R) st):ql P tt fn E (.seq x y) R st:=by
 intro K ii eh a w hs;refine wp_seq (wp_mono (h K eh a w hs) ?_)
 rintro e dv w' ⟨fr,bY,Z,aa⟩
 cases fr with
 |normal=>obtain⟨rfl,am⟩:=Z;exact aa K ii eh dv w' ⟨rfl,am⟩
 |ret=>
  obtain⟨rfl,hd,_,M',β',cT⟩:=Z;obtain⟨o,H',am,aK⟩:=aa;obtain⟨v,bd,jO,M2,sE,b',eb⟩:=GU cf eh cT am;show Leaves P fn dv.tmps _ dv.defers .returning w'
  rw [hd,ii];exact⟨v,bd,o,oD H',jO,M2,sE,aK,b',eb.era⟩
 |exit i=>exact aa.elim
 |aJ x=>exact aa.elim
def Ob(P:Program)(tt:dH)(E:Nat)(rs:List ResultVar)(fd:FuncId)(ds:List D)(R:Out→List (List aW)→Prop):cr→aH→Prop
 |.normal,st |.ret,st=>rl P tt E rs fd ds R none st
 |.aJ x,st=>rl P tt E rs fd ds R (some x) st
 |.exit _,_=>False
def ql.defer{fn:Func}{E:Nat}{id:Nat}{opsA:Array Oper}{cR il:Oper}{y:Code}{R:Out→List (List aW)→Prop}(cf:fe P tt=true)(nA:opsA = #[cR,il]){t:Nat}{fd:FuncId}{fm:Array Operand}{c:Call}
 (Z:cR.op = .makeFunc (.func fd) #[] fm) (aa:cR.dst=some t) (am:cR.guard=none) (aK:il.op = .defer c) (bd:il.dst=none) (b':il.guard=none) (eb:c.callee = .value (.tmp t)) (d':c.args = #[]) (aF:Nat.blt t fn.ntmps=true)
 {ds : List D} (ah6 : mapM' (rd st.env [] [] tt 0) fm.toList = some ds) (_hE : Nat.ble E st.aX = true) {f : Func} (bP : P.funcs[fd]? = some f) (hb : f.body.isSome = true) (kb : decide (f.name = "runtime.NumGoroutine") = false)
 (ii:vD st.aX ds=true)
 (h:ba P fn.ntmps st.aX y (Ob P tt E fn.results.toList fd ds R) {env:=del st.env t,H:=st.H,aX:=st.aX}):ql P tt fn E (.seq (.region id opsA false) y) R st:=by
 rintro K ah7 eh a w ⟨_,hd,en,M,β,cT⟩
 obtain⟨tmps,defers⟩:=a;simp only at hd en
 rw [ah7]at hd;subst hd;have bw:t<tmps.size:=by rw [en];simpa using aF
 -- lJ captured values
 obtain⟨eV,eD⟩:=tZ ah6;have qk:fJ P K fn.ntmps M β {env:=st.env,b6:=[],H:=st.H,aX:=st.aX,rs:=[],a8:=[]} tmps w:=⟨cT,en,(λ_ _ h=>by simp [look]at h),λ_ _ _ h=>by simp [look]at h⟩
 have ny:∀(i:Nat) v d,(fm.toList.map (⟨tmps,[]⟩:Act).eval)[i]? = some v→ds[i]? = some d→cv M β v d:=by
  intro i v d au hd;rw [List.getElem?_map,Option.map_eq_some_iff]at au;obtain⟨x,hx,rfl⟩:=au;exact ed (ds:=[]) (p:=[]) qk (λx hx=>by cases hx) (eD i x d hx hd)
 have hlen:(fm.toList.map (⟨tmps,[]⟩:Act).eval).length=ds.length:=by simp at eV ⊢;omega
 -- lJ frame behind lJ region
 have qm:bI P K M β {env:=del st.env t,H:=st.H,aX:=st.aX} (tmps.setIfInBounds t (.func (.func fd) #[] ⟨fm.toList.map (⟨tmps,[]⟩:Act).eval⟩)) w:=cT.drop
 let rm:Ctx:={vF:=M,F:=K.F,j':=λr=>if r<st.aX then β r else none,h3:=K.h3,ds:=[{target:=.fn (.func fd) ⟨fm.toList.map (⟨tmps,[]⟩:Act).eval⟩,args := #[]}]}
 have N_:bI P rm M β {env:=del st.env t,H:=st.H,aX:=st.aX} (tmps.setIfInBounds t (.func (.func fd) #[] ⟨fm.toList.map (⟨tmps,[]⟩:Act).eval⟩)) w:=
  ⟨qm.e4,qm.own,qm.uniq,qm.unbox,qm.box,qm.inj,qm.lt,qm.mem,Mem.le_refl _,(λb a8 dz=>⟨(qm.frame b a8 dz).1,λ_=>rfl⟩),(λr b hb=>by
   simp only [rm]at hb;split at hb
   ·exact hb
   ·cases hb),qm.jm,qm.h3⟩
 have Oc:∀{M':Mem} {β':Nat→Option Nat} {bY:aH} {ek:Array Value} {w':World},bI P rm M' β' bY ek w'→bI P K M' β' bY ek w':=by
  intro M' β' bY ek w' cG
  exact⟨cG.e4,cG.own,cG.uniq,cG.unbox,cG.box,cG.inj,cG.lt,cG.mem,Mem.le_trans cT.m0 cG.m0,(λb a8 dz=>⟨(cG.frame b a8 dz).1,λo=>((cG.frame b a8 dz).2 o).trans ((cT.frame b a8 dz).2 o)⟩),(λr b hb=>cG.iL r b (by
   have iM:=cT.iL r b hb;have lr:=cT.lt r b iM;simp only [rm];rw [if_pos lr];exact iM)),cG.jm,cG.h3⟩
 have hH:∀{M':Mem} {β':Nat→Option Nat} {bY:aH} {ek:Array Value} {w':World},bI P rm M' β' bY ek w'→∀r,r<st.aX→∀b,β r=some b→β' r=some b:=λcG r ai b hb=>cG.iL r b (by simp only [rm];rw [if_pos ai];exact hb)
 refine wp_seq (wp_region ?_);subst nA
 have e1:(execOp (Act.eval ⟨tmps,[]⟩) cR).run P w = .ok (.value (.func (.func fd) #[] ⟨fm.toList.map (⟨tmps,[]⟩:Act).eval⟩)) w:=by
  simp only [execOp,Z,Instr.makeFunc];refine jo _ ?_;simp
  congr 1
  apply Array.ext';simp
 have e2:(execOp (Act.eval ⟨tmps.setIfInBounds t (.func (.func fd) #[] ⟨fm.toList.map (⟨tmps,[]⟩:Act).eval⟩),[]⟩) il).run P w = .ok (.defer {target:=.fn (.func fd) ⟨fm.toList.map (⟨tmps,[]⟩:Act).eval⟩,args := #[]}) w:=by
  simp [execOp,aK,resolve,eb,d',Deferred.ofValue,Act.eval,bw]
 show wpOps P #[cR,il] _ (List.range 2) ⟨tmps,[]⟩ w
 simp only [List.range,List.range.loop,wpOps];have Hj:∀kR,Region.wanted cR (yielded #[cR,il] kR)=true:=λkR=>by simp [Region.wanted,am]
 have Cr:∀kR,Region.wanted il (yielded #[cR,il] kR)=true:=λkR=>by simp [Region.wanted,b']
 simp only [show(#[cR,il]:Array Oper)[0]? = some cR from rfl,show(#[cR,il]:Array Oper)[1]? = some il from rfl,Hj,Cr,if_true]
 refine .inl ?_;unfold Oper.wp;rw [e1,Oper.upon_value,aa];refine .inl ?_;have ah8:(execOp ((⟨tmps,[]⟩:Act).put (some t) (.func (.func fd) #[] ⟨fm.toList.map (⟨tmps,[]⟩:Act).eval⟩)).eval il).run P w = .ok (.defer {target:=.fn (.func fd) ⟨fm.toList.map (⟨tmps,[]⟩:Act).eval⟩,args := #[]}) w:=e2;rw [ah8,Oper.upon_defer,bd];show y.wp P _ ⟨tmps.setIfInBounds t _,[_]⟩ w
 have sD:∀r b,rm.j' r=some b→r<st.aX:=by
  intro r b hb;simp only [rm]at hb;split at hb
  ·assumption
  ·cases hb
 refine wp_mono (h rm sD _ w ⟨rfl,rfl,by simpa using en,M,β,N_⟩) ?_
 rintro e dv w' ⟨fr,bY,g1,g2⟩
 have pq:∀{M':Mem} {β':Nat→Option Nat} {bY:aH} {ek:Array Value} {w':World},bI P rm M' β' bY ek w'→∀(i:Nat) v d,(fm.toList.map (⟨tmps,[]⟩:Act).eval)[i]? = some v→ds[i]? = some d→cv M' β' v d:=by
  intro M' β' bY ek w' cG i v d au hd;have c7:M.le M':=cG.m0;exact((ny i v d au hd).mono c7).afh (λr ai b hb=>hH cG r ai b hb) (tU ii hd)
 cases fr with
 |normal=>
  obtain⟨rfl,hd,_,M',β',hs⟩:=g1;show Leaves P fn dv.tmps _ dv.defers .returning w'
  rw [hd];exact N' cf eh (Oc hs) hlen (pq hs) (x:=none) rfl bP hb kb g2
 |ret=>
  obtain⟨rfl,hd,_,M',β',hs⟩:=g1;show Leaves P fn dv.tmps _ dv.defers .returning w'
  rw [hd];exact N' cf eh (Oc hs) hlen (pq hs) (x:=none) rfl bP hb kb g2
 |exit i=>exact g2.elim
 |aJ x=>
  obtain⟨v,rfl,hd,M',β',fX,hs⟩:=g1;show Leaves P fn dv.tmps _ dv.defers (.panicking _) w'
  rw [hd];exact N' cf eh (Oc hs) hlen (pq hs) (x:=some x) ⟨v,rfl,fX⟩ bP hb kb g2
def q_.ah9 {f : FuncId} {fn : Func} {c : Code} {args : List D} {er : List (Nat × TypeId)} {H : List (List aW)} {R : Out → List (List aW) → Prop} (bP : P.funcs[f]? = some fn) (hb : fn.body = some c) (kb : decide (fn.name = "runtime.NumGoroutine") = false)
 (e5:Nat.ble args.length fn.ntmps=true) (h:ql P tt fn H.length c R {env:=h7 args er,H:=cX 0 H,aX:=H.length}):q_ P f args er H R:=by
 refine⟨⟨fn,bP,by rw [hb];rfl,by simpa using kb⟩,?_⟩
 intro cU w vs M β hlen NO NP
 suffices key:∀K:Ctx,K.ds=[]→bI P K M β {env:=h7 args er,H:=cX 0 H,aX:=H.length} ⟨vs⟩ w→(∀r b,β r=some b→K.j' r=some b)→
  Calls P f ⟨vs⟩ w λe w'=>∃o H' v M' β',R o H'∧e=q9 o v∧bI P K M' β' {env:=ih o,H:=cX 0 H',aX:=H.length} #[v] w' from
  (key {cU with ds:=[]} rfl (NO.wm []) NP).mono λe w' ⟨o,H',v,M',β',Z,aa,am⟩=>⟨o,H',v,M',β',Z,aa,am.wm cU.ds⟩
 intro K ii cT hH;have eh:∀r b,K.j' r=some b→r<H.length:=λr b hb=>cT.lt r b (cT.iL r b hb)
 simp only [Nat.ble_eq]at e5;exact calls_of_wp_defers bP hb (h K ii eh {tmps:=(⟨vs⟩:Array Value)++Array.replicate (fn.ntmps-(⟨vs⟩:Array Value).size) undef,defers:=[]} w ⟨rfl,ii.symm,by simp;omega,M,β,NN hlen cT⟩)
def ur.Xg{fd:FuncId}{fn:Func}{i0:Nat}{opsA:Array Oper}{cR il:Oper}{rest:Code}{r t2:Nat}{c:Call}(cf:fe P tt=true)(bP:P.funcs[fd]? = some fn)(hb:fn.body=some (.seq (.region i0 opsA false) rest))(nA:opsA = #[cR,il])
 (Z:cR.op = .call c) (aa:cR.dst=some r) (am:cR.guard=none) (aK:c.callee = .builtin .recover) (bd:c.args = #[]) (b':il.op = .assign (.tmp r)) (eb:il.dst=some t2) (d':il.guard=none)
 {args:List D} {H:List (List aW)} {x:Option V} {R:List (List aW)→Prop} (ai:Nat.blt r fn.ntmps=true) (kc:Nat.blt t2 fn.ntmps=true) (e5:Nat.ble args.length fn.ntmps=true)
 (h:ba P fn.ntmps H.length rest (sA tt H.length fn.results.toList λo H'=>o = .ret (.cn []) none∧R H') {env:=(t2,{d:=.v (x.getD .jL)})::del (h7 args []) r,H:=cX 0 H,aX:=H.length}):ur P fd args H x R:=by
 intro K w vs M β mode hlen cT hH hm;have eh:∀r b,K.j' r=some b→r<H.length:=λr b hb=>cT.lt r b (cT.iL r b hb)
 simp only [Nat.ble_eq]at e5;simp only [Nat.blt_eq]at ai kc;refine callsD_of_wpS bP hb λut cs hu=>?_
 apply wpS_seq;apply wpS_region;subst nA;have Hj:∀kR,Region.wanted cR (yielded #[cR,il] kR)=true:=λkR=>by simp [Region.wanted,am]
 have Cr:∀kR,Region.wanted il (yielded #[cR,il] kR)=true:=λkR=>by simp [Region.wanted,d']
 have e1:∀a:Act,(execOp a.eval cR).run P w = .ok .recover w:=λa=>by
  simp [execOp,Z,resolve,aK,bd,invoke,builtin]
 have c_:=NN (n:=fn.ntmps-(⟨vs⟩:Array Value).size) hlen cT
 -- Gs 'recover' ag_
 have key:∃(v:Value) (nD:FrameMode),dq M v (x.getD .jL)∧settle nD = .returning∧(recoverD (ut::cs)=some (v,{ut with mode:=nD}::cs)∨(recoverD (ut::cs)=none∧v = .nilIface∧({ut with mode:=nD}:Frame)=ut)):=by
  cases x with
  |none=>
   have kA:mode = .returning:=hm;subst kA;exact⟨.nilIface,.returning,.jL,rfl,.inr ⟨by simp [recoverD,hu],rfl,by rw [←hu]⟩⟩
  |some y=>
   obtain⟨v,kA,au⟩:=hm;subst kA;exact⟨v,.panicking [{v,recovered:=true}],au,by simp [settle],.inl (by simp [recoverD,hu])⟩
 obtain⟨v,nD,au,lH,Cs⟩:=key;show wpOpsS P #[cR,il] _ (List.range 2) _ (ut::cs) w
 simp only [List.range,List.range.loop,wpOpsS,show(#[cR,il]:Array Oper)[0]? = some cR from rfl,show(#[cR,il]:Array Oper)[1]? = some il from rfl,Hj,Cr,if_true,e1]
 have e2:∀kR:Array Value,r<kR.size→(execOp (Act.eval ⟨kR.setIfInBounds r v,[]⟩) il).run P w = .ok (.value v) w:=λkR aF=>by
  simp [execOp,b',Act.eval,aF]
 have en:((⟨vs⟩:Array Value)++Array.replicate (fn.ntmps-(⟨vs⟩:Array Value).size) undef).size=fn.ntmps:=by simp;omega
 generalize atz:(⟨vs⟩:Array Value)++Array.replicate (fn.ntmps-(⟨vs⟩:Array Value).size) undef=kR at c_ en
 have ln:∀cs',cs'={ut with mode:=nD}::cs→rest.wpS P (bodyPostS P fn ut cs λe nD w'=>∃v H' M' β',e = .returned v∧settle nD = .returning∧R H'∧bI P K M' β' {env:=ih (.ret (.cn []) none),H:=cX 0 H',aX:=H.length} #[v] w')
  ⟨(kR.setIfInBounds r v).setIfInBounds t2 v,[]⟩ cs' w:=by
  intro cs' ej
  have Ct:bI P {K with ds:=[]} M β {env:=(t2,{d:=.v (x.getD .jL)})::del (h7 args []) r,H:=cX 0 H,aX:=H.length} ((kR.setIfInBounds r v).setIfInBounds t2 v) w:=
   ((c_.drop (t:=r) (v:=v)).put (t:=t2) (v:=v) (e:={d:=.v (x.getD .jL)}) (by rw [Array.size_setIfInBounds,en];exact kc) (.v _ _ au) (λT aD=>by cases aD)).wm []
  refine wpS_of_wp (wp_mono (h {K with ds:=[]} eh _ w ⟨rfl,rfl,by simpa using en,M,β,Ct⟩) ?_)
  rintro e dv w' ⟨fr,bY,g1,g2⟩
  cases fr with
  |normal=>
   obtain⟨rfl,hd,_,M',β',hs⟩:=g1;obtain⟨o,H',g3,rfl,g4⟩:=g2;obtain⟨v2,g5,jO,M2,sE,g6,g7⟩:=WQ cf (K:={K with ds:=[]}) eh hs g3;cases g6;exact⟨hd,nD,ej,v2,g5,v2,H',M2,sE,rfl,lH,g4,g7.wm K.ds⟩
  |ret=>
   obtain⟨rfl,hd,_,M',β',hs⟩:=g1;obtain⟨o,H',g3,rfl,g4⟩:=g2;obtain⟨v2,g5,jO,M2,sE,g6,g7⟩:=WQ cf (K:={K with ds:=[]}) eh hs g3;cases g6;exact⟨hd,nD,ej,v2,g5,v2,H',M2,sE,rfl,lH,g4,g7.wm K.ds⟩
  |exit i=>exact g2.elim
  |aJ y=>
   obtain⟨H',_,g4,_⟩:=g2;cases g4
 have e3:(execOp ((({tmps:=kR,defers:=[]}:Act).put cR.dst v).eval) il).run P w = .ok (.value v) w:=by
  rw [aa];exact e2 kR (by omega)
 rcases Cs with Cs|⟨Cs,rfl,hc0⟩
 ·simp only [Cs,e3];rw [Oper.upon_value,aa,eb];exact ln _ rfl
 ·simp only [Cs,e3];rw [Oper.upon_value,aa,eb];exact ln _ (by rw [hc0])
end
def qn(H:List (Nat×List aW)):Nat→List (Nat×List aW)
 | 0=>[]
 |n+1=>match look H n with
  |some cs=>(n,cs)::qn H n
  |none=>qn H n
def Od{H:List (Nat×List aW)}:∀{n q:Nat} {cs:List aW},look (qn H n) q=some cs→q<n∧look H q=some cs
 | 0,q,cs,h=>by simp [qn,look]at h
 |n+1,q,cs,h=>by
  unfold qn at h;split at h
  ·rename_i c hc;rw [dC]at h;split at h
   ·rename_i ao;subst ao;cases h;exact⟨by omega,hc⟩
   ·obtain⟨Z,aa⟩:=Od h;exact⟨by omega,aa⟩
  ·obtain⟨Z,aa⟩:=Od h;exact⟨by omega,aa⟩
def Xh(mk:Nat)(ops:List Oper)(o:Oper)(x:V)(hs:List (Nat×List aW))(a8:List Prop)(kB:List Nat)(rs:List fu)(ul:List (Nat×List aW)):ey:=
 {dst:=o.dst,p:=[],f:={e:=none,rs:=[],hs:=[(mk,[])],a8},kB,nB:=qg ops o,qe:=ri o,rs,e8:=1,wo:=x,qf:=hs,ul}
def Xi(ops:List Oper)(o:Oper):ey:=
 {dst:=o.dst,p:=[],f:={e:=none,rs:=[]},kB:=[],nB:=qg ops o,qe:=ri o,rs:=[],e8:=2}
def sF(ck:gF)(tt:dH)(ops:List Oper)(gy mk:Nat):Nat→List Oper→List (List fu)→dk→Option (List ey×dk×List Prop×List (V×List (Nat×List aW)))
 |_,[],[],g=>some ([],g,[],[])
 |i,o::l,rs::ke,g=>bif Nat.beq i gy then match p4 ops g o with
  |some []=>match step1 ck tt ops {g with rs:=rs} [] o with
   |some (.aJ x hs a8)=>match sF ck tt ops gy mk (i+1) l ke (eE (Xh mk ops o x hs a8 (jf tt g [] o++List.range mk) rs g.H) g) with
    |some (cJ,e0,ui,xs)=>some (Xh mk ops o x hs a8 (jf tt g [] o++List.range mk) rs g.H::cJ,e0,ui++a8,(x,hs++qn g.H mk)::xs)
    |none=>none
   |_=>none
  |_=>none
  else bif waits ops gy 3 i then match sF ck tt ops gy mk (i+1) l ke (eE (Xi ops o) g) with
   |some (cJ,e0,ui,xs)=>some (Xi ops o::cJ,e0,ui,xs)
   |none=>none
  else match findD ck tt ops g o rs with
   |some E=>bif E.f.hs.all (λy=>!Nat.beq y.1 mk)then match sF ck tt ops gy mk (i+1) l ke (eE E g) with
    |some (cJ,e0,ui,xs)=>some (E::cJ,e0,ui++E.f.a8.map (under g E.p),xs)
    |none=>none
    else none
   |none=>none
 |_,_,_,_=>none
def Cu(ck:gF)(tt:dH)(N:Nat)(ops:List Oper)(gy mk:Nat)(ke:List (List fu))(st:aH):Option (V×List (Nat×List aW)×List Prop):=
 match sF ck tt ops gy mk 0 ops ke (Hf ops st) with
 |some (cJ,g,a8,[(x,hs)])=>bif Hb N ops cJ&&(look g.H mk).isSome&&(look st.H mk).isNone then some (x,hs,a8)else none
 |_=>none
def Oe:Option (V×List (Nat×List aW)×List Prop)→Option (V×List Prop)
 |some (x,_,bu)=>some (x,bu)
 |none=>none
def Of:Option (V×List (Nat×List aW)×List Prop)→List (Nat×List aW)
 |some (_,H,_)=>H
 |none=>[]
section
variable {P:Program} {K:Ctx} {N E:Nat} {st:aH} {tt:dH} {opsA:Array Oper} {ck:gF}
structure Xj(opsA:Array Oper)(cJ:List ey)(gy mk:Nat)(x:V)(hs:List (Nat×List aW)):Prop where
 dead:∀(i:Nat) E,cJ[i]? = some E→E.e8=2→waits opsA.toList gy 3 i=true
 aJ:∀(i:Nat) E,cJ[i]? = some E→E.e8=1→E.p=[]∧E.wo=x∧E.qf++qn E.ul mk=hs∧∀q,q<mk→q∈E.kB
 go:∀(i:Nat) E,cJ[i]? = some E→E.e8=0→i≠gy∧(E.f.hs.all (λy=>!Nat.beq y.1 mk))=true
 e8:∀(i:Nat) E,cJ[i]? = some E→E.e8=0∨E.e8=1∨E.e8=2
def ah'{listed:Array Bool}(gM:oG opsA listed){i gy:Nat}(hi:i∈Region.ready .any opsA listed){n:Nat}(hw:waits opsA.toList gy n i=true):listed.getD gy false=true:=by
 cases n with
 |zero=>simp [waits]at hw
 |succ n=>
  obtain⟨_,o,ay,lK⟩:=mem_ready.1 hi;rw [waits]at hw;have ab:opsA.toList[i]? = some o:=by simpa using ay
  simp only [ab]at hw;obtain⟨e,he,hb⟩:=List.any_eq_true.1 hw;simp only [Bool.and_eq_true,Bool.or_eq_true,Nat.beq_eq]at hb;have Z:=lK e (by simpa using he) hb.1
  rcases hb.2 with rfl|aa
  ·exact Z
  ·exact G4 gM aa Z
def Og{mk:Nat}:∀{l H:List (Nat×List aW)},(l.all λy=>!Nat.beq y.1 mk)=true→look H mk=none→look (l++H) mk=none
 |[],_,_,h=>h
 |(a,b)::l,H,ab,h=>by
  simp only [List.all_cons,Bool.and_eq_true,Bool.not_eq_true']at ab;rw [List.cons_append,dC];have:a≠mk:=by intro e;subst e;simp at ab
  rw [if_neg this];exact Og ab.2 h
def ah_{E:ey}{g:dk}{mk:Nat}(h:(E.f.hs.all λy=>!Nat.beq y.1 mk)=true)(hg:look g.H mk=none):look (eE E g).H mk=none:=by
 unfold eE;cases E.dst with
 |none=>exact Og h hg
 |some t=>
  cases E.p with
  |nil=>exact Og h hg
  |cons x p=>dsimp only;cases E.f.e<;>exact hg
def jQ.Xk(cf:fe P tt=true){cJ:List ey}{gy mk:Nat}{x:V}{hs:List (Nat×List aW)}(md:Xj opsA cJ gy mk x hs)(ee:∀(i:Nat) o E,opsA[i]? = some o→cJ[i]? = some E→iN opsA.toList o E=true)(aZ:∀(i:Nat) E,cJ[i]? = some E→rk N E=true)(kO:Cl opsA.toList cJ=true){Q:Exit→Act→World→Prop}
 (ew:∀n e dv w',rh P K N (.aJ x) {env:=[],H:=hs,aX:=n} e dv w'→Q e dv w'):
 ∀(n:Nat) (listed:Array Bool) (g:dk) (tmps:Array Value) (w:World) (M:Mem) (β:Nat→Option Nat),jQ (hR P) tt opsA cJ (λg=>(look g.H mk).isSome=true) n listed g→listed.size=opsA.size→oG opsA listed→uq cJ listed g→listed.getD gy false=false→look g.H mk=none→fJ P K N M β g tmps w→wpAny P .any opsA Q n listed ⟨tmps,K.ds⟩ w
 | 0,_,g,tmps,w,M,β,h,_,_,_,_,eN,_=>by have:(look g.H mk).isSome=true:=h.2;rw [eN]at this;cases this
 |n+1,listed,g,tmps,w,M,β,h,en,gM,jn,Xl,eN,gg=>by
  refine⟨(λai=>by have:(look g.H mk).isSome=true:=h.1 ai;rw [eN]at this;cases this),λi hi=>?_⟩
  obtain⟨o,E,ay,b2,Ha,hn⟩:=h.2 i hi;have bw:i<listed.size:=by rw [en];exact(Array.getElem?_eq_some_iff.1 ay).1
  have oH:listed.getD i false=false:=by have:=(mem_ready.1 hi).1;simpa [Array.getD_eq_getD_getElem?,bw]using this
  have qc:fJ P K N M β {g with rs:=E.rs,a8:=[]} tmps w:=⟨gg.bo,gg.size,gg.fresh,gg.cond⟩;unfold wpOp;simp only [ay];rcases md.e8 i E b2 with hk|hk|hk
  ·have kd:=Ha.resolve_left (by rw [hk];simp)
   obtain⟨rn,wi⟩:=md.go i E b2 hk;have N1:=Xa (N:=N) hk kd b2 (ee i o E ay b2) (aZ i E b2) kO gM oH jn;refine Ce qc cf (opsA:=opsA) rfl N1 (λq ao=>?_) (λek w' M' β' cG=>?_)
   ·obtain⟨q',p_,rfl⟩:=List.mem_map.1 ao;exact kd.a8 q' p_
   ·exact jQ.Xk cf md ee aZ kO ew n _ (eE E g) ek w' M' β' hn (by simpa using en) (gM.set hi) (jn.ap b2 bw) (by rw [getD_set_ne false rn];exact Xl) (ah_ wi eN) ⟨cG.bo,cG.size,cG.fresh,cG.cond⟩
  ·have kd:=Ha.resolve_left (by rw [hk];simp)
   obtain⟨hp,hx,aia,pu⟩:=md.aJ i E b2 hk
   have c_:step1 (hR P) tt opsA.toList {g with rs:=E.rs,a8:=[]} [] o=some (.aJ x E.qf E.f.a8):=by
    have Z:=kd.st;rw [hk,hp,hx]at Z;refine Eq.trans ?_ Z;exact NV (g1:={g with rs:=E.rs,a8:=[]}) (g2:={g with rs:=E.rs}) (λ_ _ _ _=>⟨rfl,rfl⟩) rfl rfl (λ_=>rfl) (λ_ _=>rfl)
   have Oh:p4 opsA.toList {g with rs:=E.rs,a8:=[]} o=some []:=by rw [←hp];exact kd.G0
   have aib:kr (hR P) tt N opsA.toList {g with rs:=E.rs,a8:=[]} o=some (.aJ x {env:=p3 g.env,H:=E.qf++g.H,aX:=g.aX} (E.f.a8++[])):=by
    unfold kr;rw [Oh]
    dsimp only
    rw [c_];rfl
   refine WE qc cf (opsA:=opsA) rfl aib (λq ao=>?_) (λe dv w' sD=>?_)
   ·rw [List.append_nil]at ao;have:=kd.a8 q ao
    rw [hp]at this;exact this
   ·obtain⟨v,Z,aa,vQ,sq,am,aK⟩:=sD;have ln:=kd.fin hk
    have mb:∀q cs,look hs q=some cs→look (E.qf++g.H) q=some cs:=by
     intro q cs ao;rw [←aia,yU]at ao;rw [yU];cases ab:look E.qf q with
     |some c=>rw [ab]at ao;exact ao
     |none=>
      rw [ab]at ao;obtain⟨bd,b'⟩:=Od ao;rw [←b'];exact ln q (pu q bd)
    refine ew g.aX e dv w' ⟨v,Z,aa,vQ,sq,am,(aK.Cc _).sub rfl (λl aY ab=>?_) (λq cs ao=>⟨cs,mb q cs ao,rfl⟩)⟩
    cases l with
    |slot s=>simp [aH.at,look]at ab
    |cell q i=>
     simp only [aH.at]at ab ⊢;cases ao:look hs q with
     |none=>rw [ao]at ab;simp at ab
     |some cs=>
      rw [ao]at ab;rw [mb q cs ao];exact⟨aY,ab,rfl,λ_ h=>h⟩
  ·have:=ah' gM hi (md.dead i E b2 hk)
   rw [Xl]at this;cases this
def Hk{ops:List Oper}{gy mk:Nat}{Fi:dk→Prop}:∀{l:List Oper} {i:Nat} {ke:List (List fu)} {g:dk} {cJ:List ey} {e0:dk} {a8:List Prop} {xs:List (V×List (Nat×List aW))},sF ck tt ops gy mk i l ke g=some (cJ,e0,a8,xs)→(∀q,q∈a8→q)→Fi e0→
 cJ.length=l.length∧G9 ck tt ops Fi (lN l cJ) g∧
 (∀(j:Nat) E,cJ[j]? = some E→(E.e8=0∧i+j≠gy∧(E.f.hs.all (λy=>!Nat.beq y.1 mk))=true)∨(E.e8=1∧E.p=[]∧(E.wo,E.qf++qn E.ul mk)∈xs∧∀q,q<mk→q∈E.kB)∨(E.e8=2∧waits ops gy 3 (i+j)=true))
 |[],i,[],g,cJ,e0,a8,xs,h,_,dz=>by
  simp only [sF,Option.some.injEq,Prod.mk.injEq]at h;obtain⟨rfl,rfl,rfl,rfl⟩:=h;exact⟨rfl,dz,by simp⟩
 |[],_,_::_,_,_,_,_,_,h,_,_=>by simp [sF]at h
 |_::_,_,[],_,_,_,_,_,h,_,_=>by simp [sF]at h
 |o::l,i,rs::ke,g,cJ,e0,a8,xs,h,cx,dz=>by
  have next:∀{E:ey} {wz:List ey} {yZ:List (V×List (Nat×List aW))},(∀(j:Nat) E,wz[j]? = some E→(E.e8=0∧i+1+j≠gy∧(E.f.hs.all (λy=>!Nat.beq y.1 mk))=true)∨(E.e8=1∧E.p=[]∧(E.wo,E.qf++qn E.ul mk)∈yZ∧∀q,q<mk→q∈E.kB)∨(E.e8=2∧waits ops gy 3 (i+1+j)=true))→(∀z,z∈yZ→z∈xs)→
   ((E.e8=0∧i≠gy∧(E.f.hs.all (λy=>!Nat.beq y.1 mk))=true)∨(E.e8=1∧E.p=[]∧(E.wo,E.qf++qn E.ul mk)∈xs∧∀q,q<mk→q∈E.kB)∨(E.e8=2∧waits ops gy 3 i=true))→
   ∀(j:Nat) dr,(E::wz)[j]? = some dr→(dr.e8=0∧i+j≠gy∧(dr.f.hs.all (λy=>!Nat.beq y.1 mk))=true)∨(dr.e8=1∧dr.p=[]∧(dr.wo,dr.qf++qn dr.ul mk)∈xs∧∀q,q<mk→q∈dr.kB)∨(dr.e8=2∧waits ops gy 3 (i+j)=true):=by
   intro E wz yZ Z hx aa j dr hj;cases j with
   |zero=>simp at hj;subst hj;exact aa
   |succ j=>
    have:=Z j dr (by simpa using hj)
    rw [show i+1+j=i+(j+1)by omega]at this
    rcases this with am|⟨am,aK,bd,b'⟩|am
    ·exact .inl am
    ·exact .inr (.inl ⟨am,aK,hx _ bd,b'⟩)
    ·exact .inr (.inr am)
  simp only [sF]at h;rw [Bool.cond_eq_ite]at h;split at h
  ·rename_i rn;split at h
   case h_2=>cases h
   rename_i Oh;split at h
   case h_2=>cases h
   rename_i x hs Hc c_;split at h
   case h_2=>cases h
   rename_i wz g1 Xm yZ Z;simp only [Option.some.injEq,Prod.mk.injEq]at h;obtain⟨rfl,rfl,rfl,rfl⟩:=h;obtain⟨aa,am,aK⟩:=Hk Z (λq ao=>cx q (List.mem_append_left _ ao)) dz
   refine⟨by simp [aa],⟨.inr ⟨Oh,c_,(λq ao=>cx q (List.mem_append_right _ ao)),(λq ao=>List.mem_append_left _ ao),λ_ q _=>rfl⟩,am⟩,next aK (λz cY=>List.mem_cons_of_mem _ cY) (.inr (.inl ⟨rfl,rfl,List.mem_cons_self ..,λq ao=>List.mem_append_right _ (List.mem_range.2 ao)⟩))⟩
  ·rename_i rn;rw [Bool.cond_eq_ite]at h;split at h
   ·rename_i hw;split at h
    case h_2=>cases h
    rename_i wz g1 Xm yZ Z;simp only [Option.some.injEq,Prod.mk.injEq]at h;obtain⟨rfl,rfl,rfl,rfl⟩:=h;obtain⟨aa,am,aK⟩:=Hk Z cx dz;exact⟨by simp [aa],⟨.inl rfl,am⟩,next aK (λz cY=>cY) (.inr (.inr ⟨rfl,hw⟩))⟩
   ·split at h
    case h_2=>cases h
    rename_i E b2;rw [Bool.cond_eq_ite]at h;split at h
    case isFalse=>cases h
    rename_i p5;split at h
    case h_2=>cases h
    rename_i wz g1 Xm yZ Z;simp only [Option.some.injEq,Prod.mk.injEq]at h;obtain⟨rfl,rfl,rfl,rfl⟩:=h;obtain⟨aa,am,aK⟩:=Hk Z (λq ao=>cx q (List.mem_append_left _ ao)) dz
    have N2:∀q,q∈E.f.a8→under g E.p q:=λq ao=>cx _ (List.mem_append_right _ (List.mem_map.2 ⟨q,ao,rfl⟩))
    have wi:=p5;unfold findD at b2;split at b2
    ·cases b2
    rename_i p hp;split at b2
    ·rename_i f bP;cases b2;exact⟨by simp [aa],⟨.inr ⟨hp,bP,N2,λ_ h=>h,λh=>by cases h⟩,am⟩,next aK (λz cY=>cY) (.inl ⟨rfl,(by simpa using rn),wi⟩)⟩
    ·cases b2
def ba.aic{id:Nat}{Q:cr→aH→Prop}(cf:fe P tt=true)(hm:P.follows .mixedOrders=true)(gy:Nat)(ke:List (Nat×List fu)){x:V}{bu:List Prop}(ai:Oe (Cu (hR P) tt N opsA.toList gy (st.aX+opsA.toList.length) (spread opsA.toList.length 0 ke) st)=some (x,bu))(cx:lp bu)
 (ew:∀n,Q (.aJ x) {env:=[],H:=Of (Cu (hR P) tt N opsA.toList gy (st.aX+opsA.toList.length) (spread opsA.toList.length 0 ke) st),aX:=n}):ba P N E (.region id opsA true) Q st:=by
 rintro K eh a w ⟨_,hd,en,M,β,cT⟩
 obtain⟨tmps,ds⟩:=a;simp only at hd en
 subst hd;refine wp_region_any hm ?_;cases mc:Cu (hR P) tt N opsA.toList gy (st.aX+opsA.toList.length) (spread opsA.toList.length 0 ke) st with
 |none=>rw [mc]at ai;cases ai
 |some res=>
 obtain⟨sn,aid,Oi⟩:=res;rw [mc]at ai ew;simp only [Oe,Option.some.injEq,Prod.mk.injEq]at ai;obtain⟨rfl,rfl⟩:=ai;simp only [Of]at ew;unfold Cu at mc;split at mc
 case h_2=>cases mc
 rename_i cJ g ui B4 gg eO;rw [Bool.cond_eq_ite]at mc;split at mc
 case isFalse=>cases mc
 rename_i hc;simp only [Option.some.injEq,Prod.mk.injEq]at mc;obtain⟨rfl,rfl,rfl⟩:=mc;simp only [Bool.and_eq_true,Option.isNone_iff_eq_none]at hc;obtain⟨⟨hc,po⟩,Xn⟩:=hc;generalize atA:st.aX+opsA.toList.length=mk at eO po Xn
 obtain⟨hlen,N6,Hl⟩:=Hk (Fi:=λg=>(look g.H mk).isSome=true) eO cx.mem po
 simp only [Hb,Bool.and_eq_true]at hc;obtain⟨⟨⟨c1,c2⟩,c3⟩,c4⟩:=hc
 have ee:∀(i:Nat) o E,opsA[i]? = some o→cJ[i]? = some E→iN opsA.toList o E=true:=by
  intro i o E ay b2;obtain⟨ll,z2⟩:=wA hlen i;have lg:opsA.toList[i]? = some o:=by simpa using ay
  rw [lg]at ll;rw [b2]at z2;cases cY:(lN opsA.toList cJ)[i]? with
  |none=>rw [cY]at ll;simp at ll
  |some x=>
   rw [cY]at ll z2;simp at ll z2
   subst ll;subst z2;exact List.all_eq_true.1 c1 x (List.mem_of_getElem? cY)
 have aZ:∀(i:Nat) E,cJ[i]? = some E→rk N E=true:=λi E b2=>List.all_eq_true.1 c2 E (List.mem_of_getElem? b2)
 have Cm:oG opsA (Array.replicate opsA.size false):=λj o ay hj=>by have bw:j<opsA.size:=(Array.getElem?_eq_some_iff.1 ay).1;simp [Array.getD_eq_getD_getElem?,bw]at hj
 have Cn:=jQ.text ee (λg1 g2 gx Z=>by rw [←gx.box mk];exact Z) (lN opsA.toList cJ) 0 (Array.replicate opsA.size false) _ (λj=>by have:=(wA hlen j).1;simpa using this) (λj=>by have:=(wA hlen j).2;simpa using this)
  ⟨by simp,λj hj=>by simp [hj]⟩ Cm c4 N6
 have vW:(lN opsA.toList cJ).length=opsA.size:=by rw [N3 hlen];simp
 rw [vW]at Cn
 have md:Xj opsA cJ gy mk B4 gg:=by
  constructor
  ·intro i E b2 hk;rcases Hl i E b2 with⟨Z,_⟩|⟨Z,_⟩|⟨_,Z⟩
   ·omega
   ·omega
   ·simpa using Z
  ·intro i E b2 hk;rcases Hl i E b2 with⟨Z,_⟩|⟨_,Z,aa,am⟩|⟨Z,_⟩
   ·omega
   ·simp only [List.mem_singleton,Prod.mk.injEq]at aa;exact⟨Z,aa.1,aa.2,am⟩
   ·omega
  ·intro i E b2 hk;rcases Hl i E b2 with⟨_,Z,aa⟩|⟨Z,_⟩|⟨Z,_⟩
   ·exact⟨by simpa using Z,aa⟩
   ·omega
   ·omega
  ·intro i E b2;rcases Hl i E b2 with⟨Z,_⟩|⟨Z,_⟩|⟨Z,_⟩
   ·exact .inl Z
   ·exact .inr (.inl Z)
   ·exact .inr (.inr Z)
 refine jQ.Xk (K:=K) (mk:=mk) cf md ee aZ c3 (λn e dv w' cG=>⟨_,_,cG,ew n⟩) _ _ _ tmps _ M β Cn (by simp) Cm (λx hx=>by cases hx) ?_ Xn ⟨(cT.drew _).up _,en,(λs id h _ b hb=>by have Z:=cT.lt _ _ hb;have aa:=(Hh _ _ _ (sj h)).1;simp only at aa;omega),λ_ _ _ h=>by simp [Hf,look]at h⟩
 rw [Array.getD_eq_getD_getElem?];by_cases pz:gy<opsA.size
 ·simp [pz]
 ·simp [pz]
end
section
variable {P:Program} {tt:dH} {fn:Func} {E:Nat} {st:aH}
def Oj{y:Code}{R:Out→List (List aW)→Prop}(h:ql P tt fn E y R st):Oa P tt fn E y R .normal st:=h
def aie{y:Code}{out:Out}{Cv:List (List aW)}(h:(Ab.leave tt E fn.results.toList st).map (λx=>(x.1,oD x.2))=some (out,Cv)):Oa P tt fn E y (λo H'=>o=out∧H'=Cv) .ret st:=by
 rw [Option.map_eq_some_iff]at h;obtain⟨⟨o,H'⟩,Z,aa⟩:=h;cases aa;exact⟨o,H',Z,rfl,rfl⟩
def Xo(tt:dH)(E:Nat)(rs:List ResultVar)(ds:List D)(ρ:List Nat)(cE:List (List aW))(st:aH):Option (List (List aW)×List D×Out×List (List aW)):=
 bif !nu ρ then none else match boxes st.H ρ,lD (idx ρ) ds,kp (λj=>ρ[j]?) cE with
  |some bs,some jZ,some i'=>bif Nat.beq cE.length ρ.length then match kp (idx ρ) bs,Ab.leave tt E rs {env:=st.env,H:=lE ρ i'++st.H,aX:=st.aX} with
   |some H1,some (o,H')=>some (H1,jZ,o,oD H')
   |_,_=>none
   else none
  |_,_,_=>none
def rl.of{rs:List ResultVar}{fd:FuncId}{ds jZ:List D}{x:Option V}(ρ:List Nat){H1 cE Cv:List (List aW)}{o:Out}(d:ur P fd jZ H1 x λH'=>H'=cE)(hc:Xo tt E rs ds ρ cE st=some (H1,jZ,o,Cv)):
 rl P tt E rs fd ds (λo' H'=>o'=o∧H'=Cv) x st:=by
 unfold Xo at hc;rw [Bool.cond_eq_ite]at hc;split at hc
 ·cases hc
 rename_i hn;split at hc
 case h_2=>cases hc
 rename_i bs a i' lj ha v_;rw [Bool.cond_eq_ite]at hc;split at hc
 case isFalse=>cases hc
 rename_i ab;split at hc
 case h_2=>cases hc
 rename_i aif o' H' my hz;simp only [Option.some.injEq,Prod.mk.injEq]at hc;obtain⟨rfl,rfl,rfl,rfl⟩:=hc;refine⟨ρ,bs,aif,a,_,(by simpa using hn),lj,my,ha,d,λXf am=>?_⟩
 subst am;exact⟨i',o',H',(by simpa using ab),v_,hz,rfl,rfl⟩
def aig{rs:List ResultVar}{fd:FuncId}{ds:List D}{R:Out→List (List aW)→Prop}(h:rl P tt E rs fd ds R none st):Ob P tt E rs fd ds R .ret st:=h
def Xp{rs:List ResultVar}{fd:FuncId}{ds:List D}{R:Out→List (List aW)→Prop}{x:V}(h:rl P tt E rs fd ds R (some x) st):Ob P tt E rs fd ds R (.aJ x) st:=h
end
section
variable {P:Program}
def aih{w:World}{b off:Nat}{vs:List Value}{T:TypeId}{pi:Nat×Nat}(h:w.heap[b]? = some (.cells ⟨vs⟩ T pi))(u:Value):
 (w.setCell ⟨b,off,none⟩ u).heap[b]? = some (.cells ⟨vs.set off u⟩ T pi):=by
 have bw:=lt_of_heap h;have cG:w.heap[b] = .cells ⟨vs⟩ T pi:=by simpa [Array.getElem?_eq_getElem bw]using h
 show(w.heap.modify b _)[b]? = _
 rw [Array.getElem?_eq_getElem (by simpa using bw),Array.getElem_modify_self,cG]
 simp
def aii{w:World}{b off:Nat}{u:Value}(k:Nat)(h:k≠b):(w.setCell ⟨b,off,none⟩ u).heap[k]? = w.heap[k]? := Go.RowKit.Below.heap_setCell w ⟨b,off,none⟩ u k h
def Xq {f : FuncId} {fd : Func} {off : Nat} {u : TypeId} (kw : P.funcs[f]? = some fd) (Ok : fd.body.isSome = true) (hn : decide (fd.name = "runtime.NumGoroutine") = false)
 (aij:∀(b:Nat) (w:World),w.cell? ⟨b,off,none⟩=some (.pointer (some ⟨b,off,none⟩))→Calls P f #[.pointer (some ⟨b,off,none⟩)] w λe w'=>e = .returned (.tuple #[])∧w'=w)
 (aik:∀(b:Nat) (w:World) (T:TypeId) (k:Nat),w.cell? ⟨b,off,none⟩=some (.pointer none)→w.shape? b=some (T,k)→off<k→liesAt P P.depth T (k / P.cellsOf T) off u 1=true→w.frozen? ⟨b,off,none⟩=false→
  Calls P f #[.pointer (some ⟨b,off,none⟩)] w λe w'=>e = .returned (.tuple #[])∧w'=w.setCell ⟨b,off,none⟩ (.pointer (some ⟨b,off,none⟩)))
 {cs:List aW} (ej:cs[off]? = some ⟨.cu 0 off u,none⟩):gL P f [.ptr 0 off] [] [cs] (.ret (.cn []) none) [cs]:=by
 refine⟨⟨fd,kw,Ok,by simpa using hn⟩,λK w vs M β hlen hs hH=>?_⟩
 obtain⟨v,rfl⟩:∃v,vs=[v]:=by
  match vs,hlen with
  |[v],_=>exact⟨v,rfl⟩
 have p':=hs.e4 (.slot 0) ⟨.ptr 0 off,none⟩ (by simp [aH.at,h7,ss,cX,look])
 have wc:ce (⟨[v]⟩:Array Value) w β (.slot 0)=v:=by simp [ce]
 rw [wc]at p';obtain⟨b,hb,rfl⟩:∃b,β 0=some b∧v = .pointer (some ⟨b,off,none⟩):=by cases p' with|ptr r o b h=>exact⟨b,h,rfl⟩
 have hl0:look (cX 0 [cs]) 0=some cs:=by simp [cX,look]
 obtain⟨bE,ws,T,bQ,bn,Xr,ail,aim,gH,hlies⟩:=hs.box 0 cs hl0;rw [hb]at bQ;cases bQ;have ue:off<cs.length:=(List.getElem?_eq_some_iff.1 ej).1;have Cw:ws[off]? = some ws[off]:=List.getElem?_eq_getElem (by omega)
 have iz:w.cell? ⟨b,off,none⟩=some ws[off]:=by rw [cell_of_heap bn,Cw]
 have fX:=hs.e4 (.cell 0 off) ⟨.cu 0 off u,none⟩ (by simp [aH.at,hl0,ej])
 have co:ce (⟨[.pointer (some ⟨b,off,none⟩)]⟩:Array Value) w β (.cell 0 off)=ws[off]:=by simp [ce,hb,iz]
 rw [co]at fX
 have fin:∀w',bI P K M β {env:=[],H:=cX 0 [cs],aX:=[cs].length} #[.tuple #[]] w'→bI P K M β {env:=ih (.ret (.cn []) none),H:=cX 0 [cs],aX:=[cs].length} #[.tuple #[]] w':=λw' h=>by
  have:=h.put (t:=0) (v:=.tuple #[]) (e:=⟨.cn [],none⟩) (by simp) (.cn [] [] rfl λi v c au=>by simp at au) (λT aD=>by cases aD)
  exact this
 generalize hx:ws[off]=x at iz fX Cw
 cases fX with
 |l6 r o nD=>
  have hsh:w.shape? b=some (T,ws.length):=by simp [World.shape?,bn]
  have hfz:w.frozen? ⟨b,off,none⟩=false:=by simp [World.frozen?,bn]
  have lf:=hlies _ (List.mem_of_getElem? ej) 0 off u rfl;refine(aik b w T ws.length iz hsh (by omega) lf hfz).mono ?_
  rintro e w' ⟨rfl,rfl⟩
  refine⟨_,_,.tuple #[],M,β,⟨rfl,rfl⟩,rfl,fin _ ?_⟩
  have Z:=(hs.Cc #[.tuple #[]]).Ge (r:=0) (b:=b) (cs:=cs) (w':=w.setCell ⟨b,off,none⟩ (.pointer (some ⟨b,off,none⟩))) hl0 hb bn (vs':=ws.set off (.pointer (some ⟨b,off,none⟩))) (cs':=cs) (by simpa using Xr)
   (λy b1=>by
    rcases List.mem_or_eq_of_mem_set b1 with h|rfl
    ·exact gH y h
    ·rfl) (λh=>by rw [List.length_set];exact h) rfl (aih bn _) (λk hk=>aii k hk) cs.length (λi y e b1 he=>by
    by_cases hi:off=i
    ·subst hi;rw [List.getElem?_set_self (by omega)]at b1
     cases b1;rw [ej]at he;cases he;exact⟨.cu 0 off b u hb,λT aD=>by cases aD⟩
    ·rw [List.getElem?_set_ne hi]at b1;have tY:=(List.getElem?_eq_some_iff.1 he).1;refine⟨?_,λT aD=>.inl ⟨by omega,⟨e,he,aD⟩,b1⟩⟩
     have:=hs.e4 (.cell 0 i) e (by simp [aH.at,hl0,he])
     simpa [ce,hb,cell_of_heap bn,b1]using this)
  refine Z.sub rfl (λl e ab=>⟨e,?_,rfl,λ_ h=>h⟩) (λr c ai=>⟨c,?_,rfl⟩)
  ·cases l with
   |slot s=>exact ab
   |cell r i=>
    simp only [aH.at,dC]at ab ⊢;by_cases ai:r=0
    ·subst ai;rw [hl0]at ab;simpa using ab
    ·simp [cX,dC,Ne.symm ai,look]at ab
  ·simp only [dC]at ai ⊢;by_cases mw:r=0
   ·subst mw;rw [hl0]at ai;simpa using ai
   ·simp [cX,dC,Ne.symm mw,look]at ai
 |cu r o ho nD fc=>
  rw [hb]at fc;cases fc;refine(aij b w iz).mono ?_
  rintro e w' ⟨rfl,rfl⟩
  exact⟨_,_,.tuple #[],M,β,⟨rfl,rfl⟩,rfl,fin _ (hs.Cc _)⟩
end
section
variable {P:Program}
def Xs {f : FuncId} {fd : Func} {T5 : TypeId} (kw : P.funcs[f]? = some fd) (Ok : fd.body.isSome = true) (hn : decide (fd.name = "runtime.NumGoroutine") = false) (ain : P.cellsOf T5 = 1)
 (p5:∀(b:Nat) (w:World),w.cell? ⟨b,1,none⟩=some (.slice none 0 0)→Calls P f #[.pointer (some ⟨b,0,none⟩)] w λe w'=>e = .returned (.string ⟨#[]⟩)∧w'=w.drew)
 (gu:∀(b g cap:Nat) (w:World),cap≠0→w.cell? ⟨b,1,none⟩=some (.slice (some ⟨g,0,none⟩) 0 cap)→Calls P f #[.pointer (some ⟨b,0,none⟩)] w λe w'=>e = .returned (.string ⟨#[]⟩)∧w'=w.drew)
 (aio:∀(b g:Nat) (w:World) (vs:List Value),w.cell? ⟨b,1,none⟩=some (.slice (some ⟨g,0,none⟩) 0 0)→b<w.heap.size→w.heap[g]? = some (.cells ⟨vs⟩ T5 (0,0))→
  Calls P f #[.pointer (some ⟨b,0,none⟩)] w λe w'=>e = .returned (.string ⟨#[]⟩)∧w'=(w.drew.alloc (.view ⟨g,0,none⟩ T5)))
 (v':∀(b g cap:Nat) (w:World) (vs:List Value) (l:au'),l≠[]→w.cell? ⟨b,1,none⟩=some (.slice (some ⟨g,0,none⟩) l.length cap)→w.heap[g]? = some (.cells ⟨vs⟩ T5 (0,0))→
  l.length≤cap→cap≤vs.length→l.length≤9223372036854775807→(∀(j:Nat) (x:UInt8),l[j]? = some x→vs[j]? = some (Value.int .u8 x.toNat))→
  Calls P f #[.pointer (some ⟨b,0,none⟩)] w λe w'=>e = .returned (.string ⟨l.toArray⟩)∧w'=w.drew.freeze ⟨g,0,none⟩ l.length)
 {d0:aW} {cs:List aW} {l:au'} {n:Nat} {get:Nat→V} (jb:n=l.length∧∀i,i<l.length→get i = .int .u8 ((l.getD i 0).toNat:Int)) (h63:l.length≤9223372036854775807):
 gL P f [.ptr 0 0] [] [d0::⟨.v (.bJ 1 n get),some T5⟩::cs] (.ret (.v (.str l)) none) [d0::⟨.v (.bJ 1 n get),none⟩::cs]:=by
 obtain⟨rfl,jb⟩:=jb;refine⟨⟨fd,kw,Ok,by simpa using hn⟩,λK w vs M β hlen hs hH=>?_⟩
 obtain⟨v,rfl⟩:∃v,vs=[v]:=by
  match vs,hlen with
  |[v],_=>exact⟨v,rfl⟩
 have p':=hs.e4 (.slot 0) ⟨.ptr 0 0,none⟩ (by simp [aH.at,h7,ss,cX,look])
 have wc:ce (⟨[v]⟩:Array Value) w β (.slot 0)=v:=by simp [ce]
 rw [wc]at p';obtain⟨b,hb,rfl⟩:∃b,β 0=some b∧v = .pointer (some ⟨b,0,none⟩):=by cases p' with|ptr r o b h=>exact⟨b,h,rfl⟩
 generalize l9:d0::(⟨.v (.bJ 1 l.length get),some T5⟩:aW)::cs=nE at hs
 have jN:nE[1]? = some ⟨.v (.bJ 1 l.length get),some T5⟩:=by rw [←l9];rfl
 have hl0:look (cX 0 [nE]) 0=some nE:=by simp [cX,look]
 obtain⟨bE,ws,T,bQ,bn,Xr,ail,aim,gH⟩:=hs.box 0 nE hl0;rw [hb]at bQ;cases bQ;have ue:1<nE.length:=(List.getElem?_eq_some_iff.1 jN).1;have Cw:ws[1]? = some ws[1]:=List.getElem?_eq_getElem (by omega)
 have iz:w.cell? ⟨b,1,none⟩=some ws[1]:=by rw [cell_of_heap bn,Cw]
 have Xt:({env:=h7 [.ptr 0 0] [],H:=cX 0 [nE],aX:=[nE].length}:aH).at (.cell 0 1)=some ⟨.v (.bJ 1 l.length get),some T5⟩:=by simp [aH.at,hl0,jN]
 have fX:=hs.e4 _ _ Xt;have fW:=hs.own _ _ T5 Xt rfl;have co:ce (⟨[.pointer (some ⟨b,0,none⟩)]⟩:Array Value) w β (.cell 0 1)=ws[1]:=by simp [ce,hb,iz]
 rw [co]at fX fW
 -- lJ state behind it
 have v8:∀(j:Nat) aY,(d0::(⟨.v (.bJ 1 l.length get),none⟩:aW)::cs)[j]? = some aY→∃bK,nE[j]? = some bK∧bK.d=aY.d∧(∀T,aY.own=some T→bK.own=some T∧j≠1):=by
  intro j aY hj;rw [←l9]
  match j with
  | 0=>simp only [List.getElem?_cons_zero,Option.some.injEq]at hj ⊢;subst hj;exact⟨_,rfl,rfl,λT aD=>⟨aD,by omega⟩⟩
  | 1=>simp only [List.getElem?_cons_succ,List.getElem?_cons_zero,Option.some.injEq]at hj ⊢;subst hj;exact⟨_,rfl,rfl,λT aD=>by cases aD⟩
  |j+2=>simp only [List.getElem?_cons_succ]at hj ⊢;exact⟨aY,hj,rfl,λT aD=>⟨aD,by omega⟩⟩
 obtain⟨qc,pt⟩:=hs.Vj (r:=0) (i:=1) (cs':=d0::⟨.v (.bJ 1 l.length get),none⟩::cs) hl0 jN rfl (by rw [←l9];rfl) v8 (.slot 0)
 rw [co]at pt
 have fin:∀w' M',bI P K M' β {env:=h7 [.ptr 0 0] [],H:=(0,d0::⟨.v (.bJ 1 l.length get),none⟩::cs)::cX 0 [nE],aX:=[nE].length} ⟨[.pointer (some ⟨b,0,none⟩)]⟩ w'→
  bI P K M' β {env:=ih (.ret (.v (.str l)) none),H:=cX 0 [d0::⟨.v (.bJ 1 l.length get),none⟩::cs],aX:=[nE].length} #[.string ⟨⟨l⟩⟩] w':=λw' M' h=>by
  have Z:=(h.Cc #[.string ⟨⟨l⟩⟩]).put (t:=0) (v:=.string ⟨⟨l⟩⟩) (e:=⟨.v (.str l),none⟩) (by simp) (.v _ _ (.str l)) (λT aD=>by cases aD)
  refine Z.sub rfl (λq e ao=>⟨e,?_,rfl,λ_ h=>h⟩) (λr c ai=>⟨c,?_,rfl⟩)
  ·cases q with
   |slot s=>exact ao
   |cell r i=>
    simp only [aH.at,dC]at ao ⊢;by_cases ai:r=0
    ·subst ai;simpa [cX,look]using ao
    ·simp [cX,dC,Ne.symm ai,look]at ao
  ·simp only [dC]at ai ⊢;by_cases mw:r=0
   ·subst mw;simpa [cX,look]using ai
   ·simp [cX,dC,Ne.symm mw,look]at ai
 have aip:b<w.heap.size:=lt_of_heap bn;have Hm:bI P K M β {env:=h7 [.ptr 0 0] [],H:=(0,d0::⟨.v (.bJ 1 l.length get),none⟩::cs)::cX 0 [nE],aX:=[nE].length} ⟨[.pointer (some ⟨b,0,none⟩)]⟩ w.drew:=qc.drew _;have Xu:[nE].length=1:=rfl;generalize hx:ws[1]=x at iz fX fW pt Cw
 rcases ku.bJ fW (fX)with h0|⟨g,n,cap,us,T',Z,aa,am,aK,bd,b',eb⟩
 ·subst h0;obtain⟨_,ab⟩|⟨_,_,_,_,h,_⟩:=tX fX
  ·obtain rfl:=List.eq_nil_of_length_eq_zero ab;refine(p5 b w iz).mono ?_
   rintro e w' ⟨rfl,rfl⟩
   exact⟨_,_,_,M,β,⟨rfl,rfl⟩,rfl,fin _ M Hm⟩
  ·cases h
 ·subst eb
  have aiq:∃(b off cap:Nat) (val:Nat→Nat→Value),x = .slice (some ⟨b,off,none⟩) l.length cap∧l.length≤cap∧(∀i,i<l.length→(get i).cells.length=1)∧(∀i j,i<l.length→j<1→M b (off+i*1+j)=some (val i j))∧
   (∀i j,i<l.length→j<1→(val i j).oneCell'=true)∧(∀(i j:Nat) c,i<l.length→(get i).cells[j]? = some c→dq M (val i j) c):=by
   rcases tX fX with⟨h|⟨a,h⟩,cY⟩|hx
   ·rw [Z]at h;cases h
   ·rw [Z]at h;simp only [Value.slice.injEq,Option.some.injEq]at h;obtain⟨rfl,rfl,rfl⟩:=h;exact⟨g,0,0,λ_ _=>undef,Z.trans (by rw [cY]),by omega,λi hi=>by omega,λi j hi=>by omega,λi j hi=>by omega,λi j c hi=>by omega⟩
   ·exact hx
  obtain⟨g2,off,atB,val,au,hc,hk,c7,atC,ie⟩:=aiq
  focus
  ·rw [Z]at au;simp only [Value.slice.injEq,Option.some.injEq,Addr.mk.injEq,and_true]at au;obtain⟨⟨rfl,rfl⟩,rfl,rfl⟩:=au;rw [ain,Nat.mul_one]at aK;subst Z;by_cases ab:l=[]
   ·subst ab;by_cases hcap:cap=0
    ·subst hcap;refine(aio b g w us iz aip am).mono ?_
     rintro e w' ⟨rfl,rfl⟩
     refine⟨_,_,_,M,β,⟨rfl,rfl⟩,rfl,fin _ M (Hm.grow (λk hk=>?_))⟩
     exact Go.Lib.alloc_old _ _ k hk
    ·refine(gu b g cap w hcap iz).mono ?_
     rintro e w' ⟨rfl,rfl⟩
     exact⟨_,_,_,M,β,⟨rfl,rfl⟩,rfl,fin _ M Hm⟩
   ·have BS:∀(j:Nat) (x:UInt8),l[j]? = some x→us[j]? = some (Value.int .u8 x.toNat):=by
     intro j x hx;have hj:j<l.length:=(List.getElem?_eq_some_iff.1 hx).1;have e1:=hs.mem _ _ _ (c7 j 0 hj (by omega))
     have e2:=jb j hj;have e3:=ie j 0 (.int .u8 ((l.getD j 0).toNat:Int)) hj (by rw [e2];rfl)
     rw [cell_of_heap am,show 0+j*1+0=j by omega]at e1
     rw [e1];generalize val j 0=y at e3 ⊢
     cases e3;simp [List.getD,hx]
    refine(v' b g cap w us l ab iz am hc aK h63 BS).mono ?_
    rintro e w' ⟨rfl,rfl⟩
    refine⟨_,_,.string ⟨⟨l⟩⟩,M,β,⟨rfl,rfl⟩,rfl,fin _ M ?_⟩
    have hfz:(w.drew.freeze ⟨g,0,none⟩ l.length).os=w.drew.os∧(w.drew.freeze ⟨g,0,none⟩ l.length).output=w.drew.output∧(∀k,k≠g→(w.drew.freeze ⟨g,0,none⟩ l.length).heap[k]? = w.drew.heap[k]?)∧∃pi,(w.drew.freeze ⟨g,0,none⟩ l.length).heap[g]? = some (.cells ⟨us⟩ T' pi):=by
     have hg':w.drew.heap[g]? = some (.cells ⟨us⟩ T' (0,0)):=am;have bw:=lt_of_heap hg';have cG:w.drew.heap[g] = .cells ⟨us⟩ T' (0,0):=by simpa [Array.getElem?_eq_getElem bw]using hg'
     unfold World.freeze;split
     ·exact⟨rfl,rfl,λ_ _=>rfl,_,hg'⟩
     ·refine⟨rfl,rfl,λk hk=>?_,?_⟩
      ·simp only [Array.getElem?_modify];rw [if_neg (by simpa using(Ne.symm hk))]
      ·simp only [Array.getElem?_modify];rw [if_pos trivial,hg'];exact⟨_,rfl⟩
    obtain⟨f1,f2,f3,pi,f4⟩:=hfz;refine Hm.free g b' (λr c ai mz=>pt.unbox g r c rfl ai mz) (λq e hh ao t' air=>?_) (λk hk _=>f3 k hk) (Mem.le_refl _) (λ_ _ _=>rfl) (λo v au=>?_) (by rw [f1,f2])
    ·refine pt.apart q e hh g ao t' ?_ rfl air
     rintro rfl
     simp only [aH.at,h7,ss,cX,look]at ao;simp at ao;subst ao;cases t'
    ·have:=hs.mem _ _ _ au
     rw [cell_of_heap am]at this;rw [cell_of_heap f4,this]
end
def wH(w:World):Mem:=λb o=>w.cell? ⟨b,o,none⟩
def ro(w:World)(vs:List Value)(cs:List V):Prop:=
 vs.length=cs.length∧(∀v,v∈vs→v.oneCell'=true)∧∀(i:Nat) v c,vs[i]? = some v→cs[i]? = some c→dq (wH w) v c
def ro.nil{w:World}:ro w [] []:=⟨rfl,(λv h=>by cases h),λi v c h=>by simp at h⟩
def ro.one{w:World}{v:Value}{c:V}(Z:v.oneCell'=true)(h:dq (wH w) v c):ro w [v] [c]:=
 ⟨rfl,(λu hu=>by obtain rfl:=List.mem_singleton.1 hu;exact Z),λi u d hu hd=>by
  match i with
  | 0=>cases hu;cases hd;exact h
  |i+1=>simp at hu⟩
def ro.app{w:World}{vs us:List Value}{cs ds:List V}(h:ro w vs cs)(cG:ro w us ds):ro w (vs++us) (cs++ds):=by
 refine⟨by simp [h.1,cG.1],λv au=>?_,λi v c au hc=>?_⟩
 ·rcases List.mem_append.1 au with au|au
  ·exact h.2.1 v au
  ·exact cG.2.1 v au
 ·by_cases hi:i<vs.length
  ·rw [List.getElem?_append_left hi]at au;rw [List.getElem?_append_left (by rw [←h.1];exact hi)]at hc
   exact h.2.2 i v c au hc
  ·rw [List.getElem?_append_right (by omega)]at au
   rw [List.getElem?_append_right (by rw [←h.1];omega),←h.1]at hc
   exact cG.2.2 _ v c au hc
def ro.agg{w:World}{vs:List Value}{cs:List V}(h:ro w vs cs):dq (wH w) (.agg ⟨vs⟩) (.agg cs):=.agg vs cs h.1 h.2.1 h.2.2
section
variable {H:Type} {enc:TypeId×Value→H} {P:Program} {w:World}
end
section
variable {P:Program} {K:Ctx} {N E:Nat} {M:Mem} {β:Nat→Option Nat} {st bY:aH} {tmps:Array Value} {w:World}
mutual
def rp(r:Nat)(x:V):D→D
 |.v y=>.v y
 |.ptr q off=>bif Nat.beq q r&&Nat.beq off 0 then .e' x else .ptr q off
 |.cu q off u=>.cu q off u
 |.e' y=>.e' y
 |.full k n g=>.full k n g
 |.fn f cs=>.fn f (rq r x cs)
 |.agg cs=>.agg (rq r x cs)
 |.cn cs=>.cn (rq r x cs)
def rq(r:Nat)(x:V):List D→List D
 |[]=>[]
 |d::l=>rp r x d::rq r x l
end
def Hn(r:Nat)(x:V):∀(l:List D) (i:Nat),(rq r x l)[i]? = (l[i]?).map (rp r x)
 |[],i=>by simp [rq]
 |d::l,0=>by simp [rq]
 |d::l,i+1=>by simp only [rq,List.getElem?_cons_succ];exact Hn r x l i
def Ho(r:Nat)(x:V):∀l:List D,(rq r x l).length=l.length
 |[]=>rfl
 |d::l=>by simp only [rq,List.length_cons,Ho r x l]
def cv.pi{M':Mem}(c7:M.le M'){r b:Nat}{x:V}{u:Value}(hb:β r=some b)(hx:x.isAgg=false)(hu:M' b 0=some u)(Z:u.oneCell'=true)(ai:dq M' u x){v:Value}{d:D}(h:cv M β v d):cv M' β v (rp r x d):=by
 induction h with
 |v u x h=>exact .v u x (h.mono c7)
 |ptr q off bE h=>
  simp only [rp];cases hc:Nat.beq q r&&Nat.beq off 0 with
  |false=>exact .ptr q off bE h
  |true=>
   simp only [Bool.and_eq_true,Nat.beq_eq]at hc;obtain⟨rfl,rfl⟩:=hc;rw [hb]at h;cases h;have yN:=yz hx;refine .e' b 0 x (λ_=>u) (λj hj=>?_) (λj hj=>Z) (λj c hc=>?_)
   ·rw [yN]at hj;simp at hj
    subst hj;exact hu
   ·rw [yN]at hc;cases j with
    |zero=>simp at hc;subst hc;exact ai
    |succ j=>simp at hc
 |l6 q off t=>exact .l6 q off t
 |cu q off bE t h=>exact .cu q off bE t h
 |e' b off x val hm Z h=>exact .e' b off x val (λj hj=>c7 _ _ _ (hm j hj)) Z (λj c hc=>(h j c hc).mono c7)
 |full base k n get h=>exact .full base k n get (h.mono c7)
 |fn f vs cs hn _ aM=>
  simp only [rp];refine .fn f vs _ (by rw [Ho];exact hn) λi v c au hc=>?_
  rw [Hn]at hc;simp only [Option.map_eq_some_iff]at hc;obtain⟨c0,h0,rfl⟩:=hc;exact aM i v c0 au h0
 |agg vs cs hn Z _ aM=>
  simp only [rp];refine .agg vs _ (by rw [Ho];exact hn) Z λi v c au hc=>?_
  rw [Hn]at hc;simp only [Option.map_eq_some_iff]at hc;obtain⟨c0,h0,rfl⟩:=hc;exact aM i v c0 au h0
 |cn vs cs hn _ aM=>
  simp only [rp];refine .cn vs _ (by rw [Ho];exact hn) λi v c au hc=>?_
  rw [Hn]at hc;simp only [Option.map_eq_some_iff]at hc;obtain⟨c0,h0,rfl⟩:=hc;exact aM i v c0 au h0
def y0(r:Nat)(x:V)(e:aW):aW:={d:=rp r x e.d,own:=e.own}
def Hp(r:Nat)(x:V):List (Nat×aW)→List (Nat×aW)
 |[]=>[]
 |(t,e)::l=>(t,y0 r x e)::Hp r x l
def Hq(r:Nat)(x:V):List (Nat×List aW)→List (Nat×List aW)
 |[]=>[]
 |(t,cs)::l=>(t,cs.map (y0 r x))::Hq r x l
def Xv(r:Nat)(x:V):∀(l:List (Nat×aW)) (s:Nat),look (Hp r x l) s=(look l s).map (y0 r x)
 |[],s=>rfl
 |(t,e)::l,s=>by
  simp only [Hp,dC];by_cases h:t=s
  ·simp [h]
  ·simp only [h,if_false];exact Xv r x l s
def Ol(r:Nat)(x:V):∀(l:List (Nat×List aW)) (s:Nat),look (Hq r x l) s=(look l s).map λcs=>cs.map (y0 r x)
 |[],s=>rfl
 |(t,cs)::l,s=>by
  simp only [Hq,dC];by_cases h:t=s
  ·simp [h]
  ·simp only [h,if_false];exact Ol r x l s
def uu(r:Nat)(x:V)(st:aH):aH:={env:=Hp r x st.env,H:=Hq r x (del st.H r),aX:=st.aX}
def Cx{r:Nat}{x:V}{l:Loc}{aY:aW}(h:(uu r x st).at l=some aY):∃e,aH.at {env:=st.env,H:=del st.H r,aX:=st.aX} l=some e∧aY=y0 r x e:=by
 cases l with
 |slot s=>
  simp only [aH.at,uu,Xv,Option.map_eq_some_iff]at h ⊢;obtain⟨e,Z,aa⟩:=h;exact⟨e,Z,aa.symm⟩
 |cell q i=>
  simp only [aH.at,uu,Ol,Option.bind_eq_some_iff,Option.map_eq_some_iff]at h ⊢;obtain⟨cs,⟨lM,Z,rfl⟩,aa⟩:=h;rw [List.getElem?_map,Option.map_eq_some_iff]at aa;obtain⟨e,am,aK⟩:=aa;exact⟨e,⟨lM,Z,am⟩,aK.symm⟩
def ais{r:Nat}{x:V}{d:D}{q off:Nat}{u:TypeId}(h:rp r x d = .cu q off u):d = .cu q off u:=by
 cases d<;>simp only [rp]at h
 case ptr q' o'=>cases hc:Nat.beq q' r&&Nat.beq o' 0<;>rw [hc]at h<;>cases h
 all_goals first|exact h|cases h
def bI.freeze(h:bI P K M β st tmps w){r:Nat}{x:V}{own:Option TypeId}(ai:look st.H r=some [⟨.v x,own⟩])(hx:x.isAgg=false):∃M',bI P K M' β (uu r x st) tmps w:=by
 obtain⟨b,vs,T,hb,bn,hlen,Xw,dz,gH,hlies⟩:=h.box r _ ai
 obtain⟨u,rfl⟩:∃u,vs=[u]:=by
  match vs,hlen with
  |[u],_=>exact⟨u,rfl⟩
 have Hr:∀q cs,look (del st.H r) q=some cs→q≠r∧look st.H q=some cs:=by
  intro q cs ao;rw [qY]at ao;split at ao
  ·cases ao
  ·rename_i dL;exact⟨λe=>dL e.symm,ao⟩
 have Z:bI P K M β {env:=st.env,H:=del st.H r,aX:=st.aX} tmps w:=h.sub rfl (λl e ab=>by
  cases l with
  |slot s=>exact⟨e,ab,rfl,λ_ h=>h⟩
  |cell q i=>
   simp only [aH.at,Option.bind_eq_some_iff]at ab ⊢;obtain⟨cs,aa,am⟩:=ab;exact⟨e,⟨cs,(Hr _ _ aa).2,am⟩,rfl,λ_ h=>h⟩) (λq cs ao=>⟨cs,(Hr _ _ ao).2,rfl⟩)
 have hle:M.le (jp M b 0 [u]):=MQ λo _=>Xw o
 have iz:jp M b 0 [u] b 0=some u:=by simp [jp]
 have aa:bI P K (jp M b 0 [u]) β {env:=st.env,H:=del st.H r,aX:=st.aX} tmps w:=by
  refine Z.free b dz (λq cs ao ait=>?_) (λl e T' ab aD nx=>?_) (λ_ _ _=>rfl) hle (λbE o dL=>by simp [jp,dL]) (λo v au=>?_)
  ·obtain⟨am,aK⟩:=Hr _ _ ao;exact am (h.inj q r b _ _ aK ai ait hb)
  ·have hl0:∃bK,st.at l=some bK∧bK.own=some T':=by
    cases l with
    |slot s=>exact⟨e,ab,aD⟩
    |cell q i=>
     simp only [aH.at,Option.bind_eq_some_iff]at ab ⊢;obtain⟨cs,am,aK⟩:=ab;exact⟨e,⟨cs,(Hr _ _ am).2,aK⟩,aD⟩
   obtain⟨bK,am,aK⟩:=hl0;exact h.unbox l bK T' b r _ am aK nx ai hb
  ·rw [cell_of_heap bn];unfold jp at au;split at au
   ·rename_i hc;simpa using au
   ·rw [Xw o]at au;cases au
 have fX:dq (jp M b 0 [u]) u x:=by
  have am:=h.e4 (.cell r 0) ⟨.v x,own⟩ (by rw [aH.Ms ai];rfl)
  have aK:ce tmps w β (.cell r 0)=u:=by simp only [ce,hb,cell_of_heap bn];simp
  rw [aK]at am;cases am with
  |v _ _ bd=>exact bd.mono hle
 refine⟨jp M b 0 [u],?_⟩
 have vG:∀q cs',look (uu r x st).H q=some cs'→∃cs,look (del st.H r) q=some cs∧cs'=cs.map (y0 r x):=by
  intro q cs' ao;simp only [uu,Ol,Option.map_eq_some_iff]at ao;obtain⟨cs,am,aK⟩:=ao;exact⟨cs,am,aK.symm⟩
 constructor
 ·intro l aY ab;obtain⟨e,am,rfl⟩:=Cx ab;exact(aa.e4 l e am).pi (Mem.le_refl _) hb hx iz (gH u (by simp)) fX
 ·intro l aY T' ab aD;obtain⟨e,am,rfl⟩:=Cx ab;exact aa.own l e T' am aD
 ·intro l cH e aY T' aiu bE ab aD cO ec;obtain⟨e1,am,rfl⟩:=Cx ab;obtain⟨e2,aK,rfl⟩:=Cx cO;exact aa.uniq l cH e1 e2 T' aiu bE am aD aK ec
 ·intro l e T' bE q cs ab aD nx ao;obtain⟨e1,am,rfl⟩:=Cx ab;obtain⟨lM,aK,_⟩:=vG q cs ao;exact aa.unbox l e1 T' bE q lM am aD nx aK
 ·intro q cs ao;obtain⟨lM,aK,rfl⟩:=vG q cs ao;obtain⟨bE,vs',T',g1,g2,g3,g4,g5,g6,g7⟩:=aa.box q lM aK;refine⟨bE,vs',T',g1,g2,by simpa using g3,g4,g5,g6,λe he q' off t hd=>?_⟩
  obtain⟨bK,Mw,rfl⟩:=List.mem_map.1 he;exact g7 bK Mw q' off t (ais hd)
 ·intro q q' bE cs cs' ao p_ cF fc;obtain⟨c1,am,_⟩:=vG q cs ao;obtain⟨c2,aK,_⟩:=vG q' cs' p_;exact aa.inj q q' bE c1 c2 am aK cF fc
 ·exact aa.lt
 ·exact aa.mem
 ·exact aa.m0
 ·exact aa.frame
 ·exact aa.iL
 ·exact aa.jm
 ·exact aa.h3
def Cy(H:List (Nat×List aW))(r:Nat):Option V:=
 match look H r with
 |some [⟨.v x,_⟩]=>bif x.isAgg then none else some x
 |_=>none
def ba.freeze{c:Code}{Q:cr→aH→Prop}(r:Nat)(x:V)(ai:Cy st.H r=some x)(h:ba P N E c Q (uu r x st)):ba P N E c Q st:=by
 rintro K eh a w ⟨he,hd,en,M,β,cT⟩
 unfold Cy at ai;split at ai
 ·rename_i y own ab;rw [Bool.cond_eq_ite]at ai;split at ai
  ·cases ai
  ·rename_i hx;cases ai;obtain⟨M',hs⟩:=cT.freeze ab (by simpa using hx)
   exact h K eh a w ⟨he,hd,en,M',β,hs⟩
 ·cases ai
def Cz(r:Nat)(st:aH):aH:=match Cy st.H r with
 |some x=>uu r x st
 |none=>st
def Om(r:Nat)(Q:cr→aH→Prop):cr→aH→Prop
 |.normal,st=>Q .normal (Cz r st)
 |.ret,st=>Q .ret (Cz r st)
 |e,st=>Q e st
def Xx{K:Ctx}{M:Mem}{β:Nat→Option Nat}{tmps:Array Value}{w:World}(r:Nat)(h:bI P K M β st tmps w):∃M',bI P K M' β (Cz r st) tmps w:=by
 unfold Cz;cases hx:Cy st.H r with
 |none=>exact⟨M,h⟩
 |some x=>
  unfold Cy at hx;split at hx
  ·rename_i y own ab;rw [Bool.cond_eq_ite]at hx;split at hx
   ·cases hx
   ·rename_i aiv;cases hx;exact h.freeze ab (by simpa using aiv)
  ·cases hx
def ba.pi{x:Code}{Q:cr→aH→Prop}(r:Nat)(h:ba P N E x (Om r Q) st):ba P N E x Q st:=by
 intro K eh a w hs;refine wp_mono (h K eh a w hs) ?_
 rintro e dv w' ⟨fr,bY,Z,aa⟩
 cases fr with
 |normal=>
  obtain⟨g1,g2,g3,M,β,g4⟩:=Z;obtain⟨M',g5⟩:=Xx r g4;exact⟨.normal,_,⟨g1,g2,g3,M',β,g5⟩,aa⟩
 |ret=>
  obtain⟨g1,g2,g3,M,β,g4⟩:=Z;obtain⟨M',g5⟩:=Xx r g4;exact⟨.ret,_,⟨g1,g2,g3,M',β,g5⟩,aa⟩
 |exit i=>exact⟨.exit i,bY,Z,aa⟩
 |aJ x=>exact⟨.aJ x,bY,Z,aa⟩
def CA(s e:aW):aW:=match s.own with|none=>{d:=e.d} |some _=>e
def y1:List (Nat×aW)→List (Nat×aW)→List (Nat×aW)
 |(_,s)::l,(t,e)::m=>(t,CA s e)::y1 l m
 |_,m=>m
def oI:List aW→List aW→List aW
 |s::l,e::m=>CA s e::oI l m
 |_,m=>m
def y2:List (Nat×List aW)→List (Nat×List aW)→List (Nat×List aW)
 |(_,s)::l,(t,cs)::m=>(t,oI s cs)::y2 l m
 |_,m=>m
def fit(s st:aH):aH:={env:=y1 s.env st.env,H:=y2 s.H st.H,aX:=st.aX}
def Hs(s e:aW):(CA s e).d=e.d∧∀T,(CA s e).own=some T→e.own=some T:=by
 unfold CA;split
 ·exact⟨rfl,λT h=>by cases h⟩
 ·exact⟨rfl,λT h=>h⟩
def Xy:∀(l m:List (Nat×aW)) (t:Nat) (aY:aW),look (y1 l m) t=some aY→∃e,look m t=some e∧e.d=aY.d∧∀T,aY.own=some T→e.own=some T
 |[],m,t,aY,h=>⟨aY,by simpa [y1]using h,rfl,λ_ h=>h⟩
 |(a,s)::l,[],t,aY,h=>by simp [y1,look]at h
 |(a,s)::l,(q,e)::m,t,aY,h=>by
  simp only [y1,dC]at h ⊢;split at h
  ·rename_i ao;rw [if_pos ao];cases h;exact⟨e,rfl,(Hs s e).1.symm,(Hs s e).2⟩
  ·rename_i ao;rw [if_neg ao];exact Xy l m t aY h
def Xz:∀(l m:List aW) (i:Nat) (aY:aW),(oI l m)[i]? = some aY→∃e,m[i]? = some e∧e.d=aY.d∧∀T,aY.own=some T→e.own=some T
 |[],m,i,aY,h=>⟨aY,by simpa [oI]using h,rfl,λ_ h=>h⟩
 |s::l,[],i,aY,h=>by simp [oI]at h
 |s::l,e::m,0,aY,h=>by
  simp only [oI,List.getElem?_cons_zero,Option.some.injEq]at h;subst h;exact⟨e,rfl,(Hs s e).1.symm,(Hs s e).2⟩
 |s::l,e::m,i+1,aY,h=>by
  simp only [oI,List.getElem?_cons_succ]at h ⊢;exact Xz l m i aY h
def XA:∀l m:List aW,(oI l m).length=m.length
 |[],m=>by simp [oI]
 |s::l,[]=>by simp [oI]
 |s::l,e::m=>by simp only [oI,List.length_cons,XA l m]
def On:∀(l m:List (Nat×List aW)) (t:Nat) (cs':List aW),look (y2 l m) t=some cs'→∃cs s,look m t=some cs∧cs'=oI s cs
 |[],m,t,cs',h=>⟨cs',[],by simpa [y2]using h,by simp [oI]⟩
 |(a,s)::l,[],t,cs',h=>by simp [y2,look]at h
 |(a,s)::l,(q,cs)::m,t,cs',h=>by
  simp only [y2,dC]at h ⊢;split at h
  ·rename_i ao;rw [if_pos ao];cases h;exact⟨cs,s,rfl,rfl⟩
  ·rename_i ao;rw [if_neg ao];exact On l m t cs' h
def bI.fit(h:bI P K M β st tmps w)(s:aH):bI P K M β (fit s st) tmps w:=
 h.sub rfl (λl aY ab=>by
  cases l with
  |slot t=>exact Xy _ _ _ _ ab
  |cell q i=>
   simp only [aH.at,Ab.fit,Option.bind_eq_some_iff]at ab;obtain⟨cs',Z,aa⟩:=ab;obtain⟨cs,z,am,rfl⟩:=On _ _ _ _ Z;obtain⟨e,aK,bd⟩:=Xz _ _ _ _ aa;exact⟨e,by simp only [aH.at,am,Option.bind_some];exact aK,bd⟩) (λq cs' ao=>by
   obtain⟨cs,z,am,rfl⟩:=On _ _ _ _ ao;exact⟨cs,am,(XA _ _).symm⟩)
def ba.fit{c:Code}{Q:cr→aH→Prop}(s:aH)(h:ba P N E c Q (Ab.fit s st)):ba P N E c Q st:=by
 rintro K eh a w ⟨he,hd,en,M,β,cT⟩
 exact h K eh a w ⟨he,hd,en,M,β,cT.fit s⟩
def ba.rr{c:Code}{Q:cr→aH→Prop}(s:aH)(live yu:List Nat)(n:Nat)(ai:(vE live yu n st.env st.H st.aX).map (Ab.fit s)=some bY)(b2:Nat.ble E n=true)(h:ba P N E c Q bY):ba P N E c Q st:=by
 simp only [Option.map_eq_some_iff]at ai;obtain⟨atD,Z,rfl⟩:=ai;exact ba.drop live yu n Z b2 (h.fit s)
def forget(pA:List Nat):List (Nat×aW)→List (Nat×aW)
 |[]=>[]
 |(t,e)::l=>(t,bif pA.any (Nat.beq t)then {d:=e.d}else e)::forget pA l
def XB(pA:List Nat):∀(m:List (Nat×aW)) (t:Nat) (aY:aW),look (forget pA m) t=some aY→∃e,look m t=some e∧e.d=aY.d∧∀T,aY.own=some T→e.own=some T
 |[],t,aY,h=>by simp [forget,look]at h
 |(q,e)::m,t,aY,h=>by
  simp only [forget,dC]at h ⊢;split at h
  ·rename_i ao;rw [if_pos ao];cases h;refine⟨e,rfl,?_⟩
   cases pA.any (Nat.beq q)
   ·exact⟨rfl,λ_ h=>h⟩
   ·exact⟨rfl,λT h=>by cases h⟩
  ·rename_i ao;rw [if_neg ao];exact XB pA m t aY h
def ba.forget{c:Code}{Q:cr→aH→Prop}(pA:List Nat)(h:ba P N E c Q {env:=Ab.forget pA st.env,H:=st.H,aX:=st.aX}):ba P N E c Q st:=by
 rintro K eh a w ⟨he,hd,en,M,β,cT⟩
 refine h K eh a w ⟨he,hd,en,M,β,cT.sub rfl (λl aY ab=>?_) (λq cs ao=>⟨cs,ao,rfl⟩)⟩
 cases l with
 |slot t=>exact XB _ _ _ _ ab
 |cell q i=>exact⟨aY,ab,rfl,λ_ h=>h⟩
end
def uv(st:aH):dk:={env:=st.env,b6:=[],H:=st.H,aX:=st.aX,rs:=[],a8:=[]}
def uw:Option tS→dk
 |some (.go g)=>g
 |_=>{env:=[],b6:=[],H:=[],aX:=0,rs:=[],a8:=[]}
def Oo:Option tS→Option (List Prop)
 |some (.go g)=>some g.a8
 |_=>none
def XC(g:dk):aH:={env:=g.env,H:=g.H,aX:=g.aX}
def ru(o:Oper)(b:Bool):Oper:={o with op:=.move (.const (.bool b))}
def XD{x:Option tS}{bu:List Prop}(h:Oo x=some bu):x=some (.go (uw x))∧(uw x).a8=bu:=by
 cases x with
 |none=>cases h
 |some f=>
  cases f with
  |go g=>exact⟨rfl,by injection h⟩
  |aJ _ _ _=>cases h
section
variable {P:Program} {N E:Nat} {st:aH} {tt:dH}
def ba.XE{id:Nat}{kS cR:Oper}{t1:Nat}{ty NF e:TypeId}{k n:Nat}{get:Nat→V}{own:Option TypeId}{Q:cr→aH→Prop}
 (cf:fe P tt=true) (Z:cR.op = .binOp .eql ty (.tmp t1) (.const (.slice none 0 0)) NF) (hg:cR.guard=none) (ps:P.underlying ty=some (.slice e))
 (aiw:Oo (kr (hR P) tt N [kS,cR] (uv st) kS)=some [])
 (au:look (uw (kr (hR P) tt N [kS,cR] (uv st) kS)).env t1=some ⟨.v (.bJ k n get),own⟩)
 (s1:∀b,Oo (kr (hR P) tt N [kS,ru cR b] (uw (kr (hR P) tt N [kS,cR] (uv st) kS)) (ru cR b))=some [])
 (ew:∀b:Bool,(b=true→n=0)→Q .normal (XC (uw (kr (hR P) tt N [kS,ru cR b] (uw (kr (hR P) tt N [kS,cR] (uv st) kS)) (ru cR b))))):
 ba P N E (.region id #[kS,cR] false) Q st:=by
 rintro K eh a w ⟨_,hd,en,M,β,cT⟩
 obtain⟨tmps,ds⟩:=a;simp only at hd en
 subst hd;have qk:fJ P K N M β (uv st) tmps w:=⟨cT,en,(λ_ _ h=>by simp [uv,look]at h),λ_ _ _ h=>by simp [uv,look]at h⟩
 refine wp_region ?_;obtain⟨bK,Oi⟩:=XD aiw;generalize uw (kr (hR P) tt N [kS,cR] (uv st) kS)=g1 at bK Oi au s1 ew
 show wpOps P #[kS,cR] _ [0,1] ⟨tmps,K.ds⟩ w
 rw [wpOps];refine Ce (ops:=[kS,cR]) qk cf (opsA := #[kS,cR]) rfl bK (λq ao=>by rw [Oi]at ao;cases ao) ?_
 intro ek w' M' β' cG;rw [wpOps];show if Region.wanted cR (yielded #[kS,cR] ek)=true then _ else _
 rw [if_pos (by unfold Region.wanted;rw [hg])]
 have ai:=cG.bo.e4 (.slot t1) _ au
 obtain⟨base,len,cap,co,hb⟩:∃(base:Option Addr) (len cap:Nat),ek.getD t1 undef = .slice base len cap∧(base=none→n=0):=by
  have fb:cv M' β' (ek.getD t1 undef) (.v (.bJ k n get)):=ai;generalize ek.getD t1 undef=v at fb
  cases fb with
  |v _ _ hx=>
   cases hx with
   |mu=>exact⟨none,0,0,rfl,λ_=>rfl⟩
   |pZ a=>exact⟨some a,0,0,rfl,λh=>by cases h⟩
   |bJ b off _ _ cap=>exact⟨some ⟨b,off,none⟩,_,cap,rfl,λh=>by cases h⟩
 obtain⟨e1,Hc⟩:=XD (s1 base.isNone);have ln:=ew base.isNone (λh=>hb (by cases base with|none=>rfl|some _=>cases h))
 generalize uw (kr (hR P) tt N [kS,ru cR base.isNone] g1 (ru cR base.isNone))=g2 at e1 Hc ln
 have ux:=Ce (ops:=[kS,ru cR base.isNone]) cG cf (opsA := #[kS,ru cR base.isNone]) rfl e1 (λq ao=>by rw [Hc]at ao;cases ao)
  (Q:=λe dv w'=>∃fr bY,rh P K N fr bY e dv w'∧Q fr bY) (next:=λdv w'=>∃fr bY,rh P K N fr bY .normal dv w'∧Q fr bY)
  (λatE nF M2 sE aa=>⟨.normal,XC g2,⟨rfl,rfl,aa.size,M2,sE,aa.bo⟩,ln⟩)
 rw [if_pos (by unfold Region.wanted ru;rw [hg])]at ux
 have hx:(execOp (Act.eval ⟨ek,K.ds⟩) cR).run P w' = .ok (.value (.bool base.isNone)) w':=by
  rw [yP];refine re (a:=.slice base len cap) (b:=.slice none 0 0) Z co rfl (wa (by simp) (by simp)) ?_
  exact Lib.run_eql_slice_nil w' ty e base len cap 0 0 ps
 refine .inl (show Oper.upon P cR ⟨ek,K.ds⟩ _ _ ((execOp (Act.eval ⟨ek,K.ds⟩) cR).run P w') from(?_))
 rw [hx,Oper.upon_value,wpOps];rcases ux with ux|⟨ux,_⟩
 ·unfold Oper.wp at ux;rw [show(execOp (Act.eval ⟨ek,K.ds⟩) (ru cR base.isNone)).run P w' = .ok (.value (.bool base.isNone)) w' from rfl,Oper.upon_value]at ux
  exact ux
 ·exact absurd ux.1 (by intro bn;have:noRoomEvent∈(#[]:Array Event):=bn;cases this with|mk h=>cases h)
end
end Go.Ab

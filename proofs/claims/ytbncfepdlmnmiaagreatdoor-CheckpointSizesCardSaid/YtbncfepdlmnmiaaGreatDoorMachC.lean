/- The abstract machine: a step of code over plain data, proved against the model. -/
import Derived.Orders
import Derived.Scope
import Derived.Recover
import Derived.Lib.Builder
import Derived.Lib.UnsafeStr
import Derived.ChangeSame
import Derived.OpenShut
import Derived.ReadAgain
import Derived.Lib.SliceRun
import Derived.Test.YtbncfepdlmnmiaaGreatDoorMachB
set_option linter.all false
namespace Go.Ab
def i_:List Prop→Prop
 |[]=>True
 |p::l=>p∧i_ l
def i_.mem:∀{l:List Prop},i_ l→∀q,q∈l→q
 |[],_,q,h=>by cases h
 |p::l,hp,q,h=>by
  rcases List.mem_cons.1 h with rfl|h
  ·exact hp.1
  ·exact i_.mem hp.2 q h
section
variable {P:Program} {N E:Nat} {st:aF} {tt:de}
def a7.cut{x y:Code}{Q:b8→aF→Prop}(J:aF→Prop)(ab:a7 P N E x (b8.then J Q) st)(ah:∀bG,J bG→a7 P N E y Q bG):a7 P N E (.seq x y) Q st:=
 a7.seq (ab.mono λeB bG h=>by cases eB<;>first|exact ah bG h|exact h)
def b8.mv{next:aF→Prop}{Q:b8→aF→Prop}(h:next st):b8.then next Q .normal st:=h
def b8.KC{next:aF→Prop}{Q:b8→aF→Prop}{x:V}(h:Q (.bb x) st):b8.then next Q (.bb x) st:=h
def b8.XL{Q:b8→aF→Prop}{i:Nat}(h:Q .normal st):b8.inBlock i Q (.exit i) st:=by simpa [b8.inBlock]using h
def b8.XM{Q:b8→aF→Prop}{i j:Nat}(dF:Nat.beq j i=false)(h:Q (.exit j) st):b8.inBlock i Q (.exit j) st:=by
 have:j≠i:=by rintro rfl;simp at dF
 simpa [b8.inBlock,this]using h
def XN {f : FuncId} {fn : Func} {c : Code} {args : List D} {dM : List (Nat × TypeId)} {H cn : List (List aR)} {out : Out} (b0 : eJ P tt = true) (b2 : P.funcs[f]? = some fn) (hb : fn.body = some c) (h9 : decide (fn.name = "runtime.NumGoroutine") = false)
 (fA:Nat.ble args.length fn.ntmps=true) (h:a7 P fn.ntmps H.length c (oH tt H.length fn.results.toList λo H'=>o=out∧H'=cn) {env:=gu args dM,H:=cH 0 H,aT:=H.length}):fP P f args dM H out cn:=
 nI.of_wp b0 b2 hb h9 fA h
def XO{rs:List ResultVar}{out:Out}{cn:List (List aR)}(h:leave tt E rs st=some (out,cn)):oH tt E rs (λo H'=>o=out∧H'=cn) .ret st:=⟨out,cn,.inl h,rfl,rfl⟩
def B7{rs:List ResultVar}{out:Out}{cn:List (List aR)}(h:leave tt E rs st=some (out,cn)):oH tt E rs (λo H'=>o=out∧H'=cn) .normal st:=⟨out,cn,.inl h,rfl,rfl⟩
def XP{rs:List ResultVar}{out:Out}{cn:List (List aR)}{c:Nat}(h:oG tt E c rs st=some (out,cn)):oH tt E rs (λo H'=>o=out∧H'=cn) .ret st:=⟨out,cn,.inr ⟨c,h⟩,rfl,rfl⟩
def XQ{rs:List ResultVar}{x:V}{cn:List (List aR)}(h:(xN E st.H).map lw=some cn):oH tt E rs (λo H'=>o = .bb x∧H'=cn) (.bb x) st:=by
 rw [Option.map_eq_some_iff]at h;obtain⟨H',ab,ah⟩:=h;exact⟨H',ab,rfl,ah⟩
end
def av{α:Type}(b:Bool)(x:Option α):Option α:=bif b then x else none
def oI{α:Type}{b:Bool}{x:Option α}{r:α}(h:av b x=some r):b=true∧x=some r:=by
 cases b
 ·cases h
 ·exact⟨rfl,h⟩
def bind_some{α β:Type}{x:Option α}{f:α→Option β}{r:β}(h:Option.bind x f=some r):∃a,x=some a∧f a=some r:=Option.bind_eq_some_iff.1 h
def cQ{α:Type}{b:Bool}{x y z:α}(hb:b=true)(h:(bif b then x else y)=z):x=z:=by subst hb;exact h
def fQ{c x:Bool}(h:(!c||x)=true)(hc:c=true):x=true:=by subst hc;simpa using h
def ey{c x:Bool}(h:(c||x)=true)(hc:c=false):x=true:=by subst hc;simpa using h
def ad{α:Type}[Inhabited α](k:Nat)(e:α→V)(l:List α):V:=.bz k l.length λi=>e (l.getD i default)
def gB(x:V):f6 x x:=λ_ _ h=>h
def m4{k n:Nat}{g eP:Nat→V}(h:∀i,i<n→g i=eP i):f6 (.bz k n g) (.bz k n eP):=by
 intro M v az;cases az with
 |jJ=>exact .jJ _ _
 |l'=>exact .l' _ _ _
 |bz b off k n cap g val hc hk cP ab aj=>
  exact .bz b off k n cap eP val hc (λi hi=>by rw [←h i hi];exact hk i hi) cP ab (λi j c hi j_=>aj i j c hi (by rw [h i hi];exact j_))
def XR{α:Type}[Inhabited α]{k:Nat}{e:α→V}{xs:List V}{l:List α}(h:xs=l.map e)(n:Nat)(hn:n=l.length):f6 (.bz k n λi=>xs.getD i .dV) (ad k e l):=by
 subst h;subst hn;refine m4 λi hi=>?_
 simp [List.getD,List.getElem?_eq_getElem hi]
def fx{α:Type}[Inhabited α]{k:Nat}{e:α→V}(l kb:List α):f6 (.bz k (l.length+kb.length) λi=>bif Nat.blt i l.length then e (l.getD i default)else e (kb.getD (i-l.length) default)) (ad k e (l++kb)):=by
 rw [ad,List.length_append];refine m4 λi hi=>?_
 by_cases h:i<l.length
 ·have hb:Nat.blt i l.length=true:=by simpa using h
  simp [hb,List.getD,List.getElem?_append_left h]
 ·have hb:Nat.blt i l.length=false:=by rw [Bool.eq_false_iff];simpa using h
  simp [hb,List.getD,List.getElem?_append_right (Nat.le_of_not_lt h)]
def KD(l:List Int)(s:ahs):f6 (.bz 1 (l.length+s.length) λi=>bif Nat.blt i l.length then .int .u8 (l.getD i default)else .int .u8 (s.getD (i-l.length) 0).toNat) (ad 1 (λx=>.int .u8 x) (l++s.map λb=>(b.toNat:Int))):=by
 have ag:(l++s.map λb=>(b.toNat:Int)).length=l.length+s.length:=by simp
 rw [ad,ag];refine m4 λi hi=>?_
 by_cases h:i<l.length
 ·have hb:Nat.blt i l.length=true:=by simpa using h
  simp [hb,List.getD,List.getElem?_append_left h]
 ·have hb:Nat.blt i l.length=false:=by rw [Bool.eq_false_iff];simpa using h
  have ah:i-l.length<s.length:=by omega
  simp [hb,List.getD,List.getElem?_append_right (Nat.le_of_not_lt h),ah]
def XS{α:Type}[Inhabited α]{k:Nat}{e:α→V}(l:List α)(a:Int):f6 (.bz k (l.length-a.toNat) λi=>e (l.getD (a.toNat+i) default)) (ad k e (l.drop a.toNat)):=by
 rw [ad,List.length_drop];exact m4 λi hi=>by simp [List.getD]
def B8{α:Type}[Inhabited α]{k:Nat}{e:α→V}(l:List α)(b:Int)(h:0≤b∧b≤l.length):f6 (.bz k b.toNat λi=>e (l.getD i default)) (ad k e (l.take b.toNat)):=by
 have:(l.take b.toNat).length=b.toNat:=by simp;omega
 rw [ad,this];exact m4 λi hi=>by simp [List.getD,hi]
section
variable {P:Program} {N E:Nat} {st bG:aF}
def a7.drop{c:Code}{Q:b8→aF→Prop}(live se:List Nat)(n:Nat)(aj:qd live se n st.env st.H st.aT=some bG)(ch:Nat.ble E n=true)(h:a7 P N E c Q bG):a7 P N E c Q st:=by
 rintro K dJ a w ⟨he,hd,dK,M,β,cD⟩
 obtain⟨uK,hs⟩:=cD.qd aj (λr b hb=>Nat.lt_of_lt_of_le (dJ r b hb) (by simpa using ch))
 exact h K dJ a w ⟨he,hd,dK,M,uK,hs⟩
end
def all_nil:i_ []:=trivial
def all_cons{p:Prop}{l:List Prop}(h:p)(ag:i_ l):i_ (p::l):=⟨h,ag⟩
inductive aQ(α β:Type) where
 |ret (a:α) (b:β)
 |bb (x:V) (b:β)
def aQ.on{α β dj:Type}(x:aQ α β)(f:α→β→dj)(g:V→β→dj):dj:=
 match x with
 |.ret a b=>f a b
 |.bb x b=>g x b
def fp{b:Bool}(h:b=false):(!b)=true:=by subst h;rfl
def sG{a b:Bool}(h:a=true)(ah:b=true):(a&&b)=true:=by subst h;subst ah;rfl
inductive ja:List V→List V→Prop where
 |nil:ja [] []
 |cons {x y:V} {xs ys:List V} (h:f6 x y) (ag:ja xs ys):ja (x::xs) (y::ys)
def ja.len:∀{xs ys:List V},ja xs ys→xs.length=ys.length
 |_,_,.nil=>rfl
 |_,_,.cons _ ag=>by simp [ag.len]
def ja.at:∀{xs ys:List V},ja xs ys→∀(i:Nat) {y:V},ys[i]? = some y→∃x,xs[i]? = some x∧f6 x y
 |_,_,.nil,i,y,h=>by simp at h
 |_,_,.cons h ag,i,y,b1=>by
  cases i with
  |zero=>simp at b1;subst b1;exact⟨_,rfl,h⟩
  |succ i=>simp at b1;simpa using ag.at i b1
def KE{xs ys:List V}(h:ja xs ys):f6 (.agg xs) (.agg ys):=by
 intro M v az;cases az with
 |agg vs cs hn ab aj=>
  refine .agg vs ys (hn.trans h.len) ab (λi v c az hc=>?_)
  obtain⟨x,hx,hi⟩:=h.at i hc;exact hi M v (aj i v x az hx)
def XT{k n:Nat}{g eP:Nat→V}(h:∀i,i<n→ja (g i).cells (eP i).cells):f6 (.bz k n g) (.bz k n eP):=by
 intro M v az;cases az with
 |jJ=>exact .jJ _ _
 |l'=>exact .l' _ _ _
 |bz b off k n cap g val hc hk cP ab aj=>
  refine .bz b off k n cap eP val hc (λi hi=>by rw [←(h i hi).len];exact hk i hi) cP ab (λi j c hi j_=>?_)
  obtain⟨x,hx,XU⟩:=(h i hi).at j j_;exact XU M _ (aj i j x hi hx)
inductive jR{α:Type}(e:α→V):List V→List α→Prop where
 |nil:jR e [] []
 |cons {x:V} {y:α} {xs:List V} {ys:List α} (h:ja x.cells (e y).cells) (ag:jR e xs ys):jR e (x::xs) (y::ys)
def jR.len{α:Type}{e:α→V}:∀{xs:List V} {ys:List α},jR e xs ys→xs.length=ys.length
 |_,_,.nil=>rfl
 |_,_,.cons _ ag=>by simp [ag.len]
def jR.at{α:Type}[Inhabited α]{e:α→V}:∀{xs:List V} {ys:List α},jR e xs ys→∀(i:Nat),i<ys.length→ja (xs.getD i .dV).cells (e (ys.getD i default)).cells
 |_,_,.nil,i,h=>by simp at h
 |_,_,.cons h ag,i,b1=>by
  cases i with
  |zero=>simpa using h
  |succ i=>simpa using ag.at i (by simpa using b1)
def xP{α:Type}[Inhabited α]{k:Nat}{e:α→V}{xs:List V}{l:List α}(h:jR e xs l)(n:Nat)(hn:n=l.length):f6 (.bz k n λi=>xs.getD i .dV) (ad k e l):=by
 subst hn;exact XT λi hi=>h.at i hi
section
variable {tt:de} {g1 g2:cU} {p:Path} {o:Oper} {ops:List Oper} {b5:fI}
def B9{x:Operand}(h:∀t,x = .tmp t→look g1.env t=look g2.env t∧look g1.bN t=look g2.bN t)(p:Path)(ty:TypeId):rd g1.env g1.bN p tt ty x=rd g2.env g2.bN p tt ty x:=by
 cases x with
 |tmp t=>
  obtain⟨ab,ah⟩:=h t rfl;simp only [rd,ab,ah]
 |const v=>cases v with
  |slice a n c=>cases a<;>cases n<;>cases c<;>rfl
  |_=>rfl
 |global _=>rfl
 |func _=>rfl
def XV{x:Operand}(h:∀t,x = .tmp t→look g1.env t=look g2.env t):l_ g1 x=l_ g2 x:=by
 cases x with
 |tmp t=>simp only [l_,h t rfl]
 |_=>rfl
def uL{α β:Type}{f pw:α→Option β}:∀{l:List α},(∀x,x∈l→f x=pw x)→mapM' f l=mapM' pw l
 |[],_=>rfl
 |x::l,h=>by simp only [mapM',h x (by simp),uL (l:=l) λy b1=>h y (by simp [b1])]
def B'{f pw:TypeId→Operand→Option D}:∀{l:List Operand} {ts:List TypeId},(∀x,x∈l→∀t,f t x=pw t x)→jI f l ts=jI pw l ts
 |[],_,_=>by simp [jI]
 |x::l,[],_=>by simp [jI]
 |x::l,t::ts,h=>by simp only [jI,h x (by simp) t,B' (l:=l) (ts:=ts) λy b1=>h y (by simp [b1])]
def hr(tt:de)(g:cU)(p:Path)(o:Oper):List Nat:=
 match o.op with
 |.alloc _ |.box _ _=>match o.dst.bind (look g.ids)with |some id=>[id] |none=>[]
 |.load _ a=>match rd g.env g.bN p tt o.type a with |some (.ptr q _)=>[q] |_=>[]
 |.store _ a _=>match rd g.env g.bN p tt o.type a with |some (.ptr q _)=>[q] |_=>[]
 |.call c=>match c.callee with
  |.value x=>match rd g.env g.bN p tt o.type x,jI (rd g.env g.bN p tt) c.args.toList c.argTypes.toList with
   |some (.fn _ eO),some ds=>ma g.H 2 (dedup ((ds++eO).flatMap refs))
   |_,_=>[]
  |_=>[]
 |_=>[]
def xQ{x:Nat}:∀{l:List Nat},x∈l→x∈dedup l
 |y::l,h=>by
  simp only [dedup];rw [Bool.cond_eq_ite];split
  ·rename_i b1;rcases List.mem_cons.1 h with rfl|h
   ·obtain⟨z,dQ,XW⟩:=List.any_eq_true.1 b1;have:x=z:=by simpa using XW
    subst this;exact dQ
   ·exact xQ h
  ·rcases List.mem_cons.1 h with rfl|h
   ·simp
   ·exact List.mem_cons_of_mem _ (xQ h)
def KF{H:List (Nat×List aR)}:∀{n:Nat} {l:List Nat} {x:Nat},x∈l→x∈ma H n l
 | 0,_,_,h=>h
 |n+1,_,_,h=>KF (n:=n) (xQ (List.mem_append_left _ h))
def KG{α β:Type}{f pw:α→List β}:∀{l:List α},(∀x,x∈l→f x=pw x)→l.flatMap f=l.flatMap pw
 |[],_=>rfl
 |x::l,h=>by simp only [List.flatMap_cons,h x (by simp),KG (l:=l) λy b1=>h y (by simp [b1])]
def B_{H1 cn:List (Nat×List aR)}:∀{n:Nat} {l:List Nat},(∀q,q∈ma H1 n l→look H1 q=look cn q)→ma H1 n l=ma cn n l
 | 0,_,_=>rfl
 |n+1,l,h=>by
  simp only [ma]at h ⊢
  have:(l.flatMap λr=>((look H1 r).getD []).flatMap λe=>refs e.d)=l.flatMap λr=>((look cn r).getD []).flatMap λe=>refs e.d:=
   KG λr aj=>by rw [h r (KF (xQ (List.mem_append_left _ aj)))]
  rw [←this];exact B_ h
def KH{H1 cn:List (Nat×List aR)}:∀{l:List Nat},(∀q,q∈l→look H1 q=look cn q)→boxes H1 l=boxes cn l
 |[],_=>rfl
 |r::l,h=>by simp only [boxes,h r (by simp),KH (l:=l) λq aP=>h q (by simp [aP])]
def KI{xs:List Operand}{ts:List TypeId}(hs:∀t,Operand.tmp t∈xs→look g1.env t=look g2.env t∧look g1.bN t=look g2.bN t):∀os:List Nat,handed tt g1 xs ts os=handed tt g2 xs ts os
 |[]=>rfl
 |i::os=>by
  simp only [handed,KI hs os];split
  ·rename_i t l hx ag;obtain⟨ab,ah⟩:=hs t (List.mem_of_getElem? hx);rw [ab,ah]
  ·rfl
  ·rfl
def XX{xs:List Operand}{ts:List TypeId}{f:FuncId}{args:List D}(hs:∀t,Operand.tmp t∈xs→look g1.env t=look g2.env t∧look g1.bN t=look g2.bN t)(d':g1.rs=g2.rs)(eb:∀q,q∈ma g1.H 2 (dedup (args.flatMap refs))→look g1.H q=look g2.H q):r7 b5 tt g1 p xs ts f args=r7 b5 tt g2 p xs ts f args:=by
 have ab:ma g1.H 2 (dedup (args.flatMap refs))=ma g2.H 2 (dedup (args.flatMap refs)):=B_ eb;unfold r7;simp only [←ab,←d',←KH eb,←λos=>KI (tt:=tt) (ts:=ts) hs os]
def nS(o:Oper):Bool:=
 match o.op with
 |.alloc _ |.box _ _=>true
 |_=>false
def KJ(nT:g1.ids=g2.ids)(hn:g1.aT=g2.aT)(eb:∀id,o.dst.bind (look g1.ids)=some id→look g1.H id=look g2.H id):ll g1 o=ll g2 o:=by
 unfold ll;rw [←nT,←hn];split
 ·rename_i id h;rw [eb id h]
 ·rfl
def Ca(hs:∀x,x∈o.op.operands.toList→∀t,x = .tmp t→look g1.env t=look g2.env t∧look g1.bN t=look g2.bN t)(d':g1.rs=g2.rs)(nT:g1.ids=g2.ids)
 (hn:nS o=true→g1.aT=g2.aT) (eb:∀q,q∈hr tt g1 p o→look g1.H q=look g2.H q):step1 b5 tt ops g1 p o=step1 b5 tt ops g2 p o:=by
 have R:∀x,x∈o.op.operands.toList→∀p ty,rd g1.env g1.bN p tt ty x=rd g2.env g2.bN p tt ty x:=λx hx p ty=>B9 (hs x hx) p ty
 have O:∀x,x∈o.op.operands.toList→l_ g1 x=l_ g2 x:=λx hx=>XV λt cc=>(hs x hx t cc).1
 cases aw:o.op with
 |move x=>simp only [aw,Op.operands]at R O;simp only [step1,aw,R x (by simp),O x (by simp),d']
 |assign x=>simp only [aw,Op.operands]at R O;simp only [step1,aw,R x (by simp),O x (by simp),d']
 |pick c a b=>
  simp only [aw,Op.operands]at R O;cases c with
  |tmp c=>simp only [step1,aw,R (.tmp c) (by simp),R a (by simp),R b (by simp),d']
  |_=>simp only [step1,aw]
 |alloc t=>
  have hi:ll g1 o=ll g2 o:=KJ nT (hn (by simp [nS,aw])) λid hid=>eb id (by simp [hr,aw,hid])
  simp only [step1,aw,d',hi]
 |box t x=>
  have hi:ll g1 o=ll g2 o:=KJ nT (hn (by simp [nS,aw])) λid hid=>eb id (by simp [hr,aw,hid])
  simp only [aw,Op.operands]at R O;simp only [step1,aw,R x (by simp),d',hi]
 |build t parts=>
  simp only [aw,Op.operands]at R O
  have:mapM' (fun(i,x)=>(rd g1.env g1.bN p tt (oo tt t i) x).map λd=>(i,d)) parts.toList=mapM' (fun(i,x)=>(rd g2.env g2.bN p tt (oo tt t i) x).map λd=>(i,d)) parts.toList:=
   uL λy b1=>by
    obtain⟨i,x⟩:=y;simp only [R x (List.mem_map.2 ⟨(i,x),b1,rfl⟩)]
  simp only [step1,aw,this,d']
 |buildSlice t len parts=>
  simp only [aw,Op.operands]at R O
  have:mapM' (fun(i,x)=>(rd g1.env g1.bN p tt (oo tt t i) x).map λd=>(i,d)) parts.toList=mapM' (fun(i,x)=>(rd g2.env g2.bN p tt (oo tt t i) x).map λd=>(i,d)) parts.toList:=
   uL λy b1=>by
    obtain⟨i,x⟩:=y;simp only [R x (List.mem_map.2 ⟨(i,x),b1,rfl⟩)]
  simp only [step1,aw,this,d']
 |load t a=>
  simp only [aw,Op.operands]at R O;simp only [hr,aw,R a (by simp)]at eb
  simp only [step1,aw,R a (by simp),d']
  split
  ·rename_i q off aE ha xC;simp only [ha]at eb;simp only [eb q (by simp)]
  ·rfl
  ·rfl
 |store t a x=>
  simp only [aw,Op.operands]at R O;simp only [hr,aw,R a (by simp)]at eb
  simp only [step1,aw,R a (by simp),R x (by simp),O x (by simp),d']
  split
  ·rename_i q off d aE ha hd xC;simp only [ha]at eb;simp only [eb q (by simp)]
  ·rfl
 |nilCheck x=>simp only [aw,Op.operands]at R O;simp only [step1,aw,R x (by simp),d']
 |binOp op t x y t2=>simp only [aw,Op.operands]at R O;simp only [step1,aw,R x (by simp),R y (by simp),d']
 |unOp op t x=>simp only [aw,Op.operands]at R O;simp only [step1,aw,R x (by simp),d']
 |convert s t x=>simp only [aw,Op.operands]at R O;simp only [step1,aw,R x (by simp),d']
 |makeInterface t x=>simp only [aw,Op.operands]at R O;simp only [step1,aw,R x (by simp),d']
 |makeFunc fn first eO=>
  simp only [aw,Op.operands]at R O;cases fn with
  |func f=>
   have:mapM' (rd g1.env g1.bN p tt o.type) eO.toList=mapM' (rd g2.env g2.bN p tt o.type) eO.toList:=uL λx hx=>R x (by rw [Array.toList_append];exact List.mem_append_right _ hx) _ _
   simp only [step1,aw,this,d']
  |_=>simp only [step1,aw]
 |slice t x lo hi mb=>
  simp only [aw,Op.operands]at R O
  have iu:lo.map (rd g1.env g1.bN p tt o.type)=lo.map (rd g2.env g2.bN p tt o.type):=by
   cases lo with
   |none=>rfl
   |some l=>simp [R l (by simp)]
  have hS:hi.map (rd g1.env g1.bN p tt o.type)=hi.map (rd g2.env g2.bN p tt o.type):=by
   cases hi with
   |none=>rfl
   |some l=>simp [R l (by simp)]
  have XY:mb.map (rd g1.env g1.bN p tt o.type)=mb.map (rd g2.env g2.bN p tt o.type):=by
   cases mb with
   |none=>rfl
   |some m=>simp [R m (by simp)]
  simp only [step1,aw,R x (by simp),iu,hS,XY,d']
 |fieldAddr s x f=>simp only [aw,Op.operands]at R O;simp only [step1,aw,R x (by simp),d']
 |field s x f=>simp only [aw,Op.operands]at R O;simp only [step1,aw,R x (by simp),d']
 |indexAddr t x i=>simp only [aw,Op.operands]at R O;simp only [step1,aw,R x (by simp),R i (by simp),d']
 |index t x i=>simp only [aw,Op.operands]at R O;simp only [step1,aw,R x (by simp),R i (by simp),d']
 |typeAssert x a t ok=>simp only [aw,Op.operands]at R O;simp only [step1,aw,R x (by simp),d']
 |extract x i=>simp only [aw,Op.operands]at R O;simp only [step1,aw,R x (by simp),d']
 |panic x=>simp only [aw,Op.operands]at R O;simp only [step1,aw,R x (by simp)]
 |call c=>
  simp only [aw,Op.operands,Call.operands]at R O hs;cases hc:c.callee with
  |value x=>
   have hx:=R x (by simp [hc])
   have ha:jI (rd g1.env g1.bN p tt) c.args.toList c.argTypes.toList=jI (rd g2.env g2.bN p tt) c.args.toList c.argTypes.toList:=B' λy b1 t=>R y (by rw [Array.toList_append];exact List.mem_append_right _ b1) p t
   simp only [hr,aw,hc,hx,ha]at eb;simp only [step1,aw,hc,hx,ha];split
   ·rename_i f eO ds ab ah;simp only [ab,ah]at eb;exact XX (λt cc=>hs (.tmp t) (by rw [Array.toList_append];exact List.mem_append_right _ cc) t rfl) d' eb
   ·rfl
  |invoke x m=>simp only [step1,aw,hc]
  |builtin b=>
   have ha:mapM' (λy=>rd g1.env g1.bN p tt o.type y) c.args.toList=mapM' (λy=>rd g2.env g2.bN p tt o.type y) c.args.toList:=uL λx hx=>R x (by rw [Array.toList_append];exact List.mem_append_right _ hx) _ _
   cases b with
   |len=>simp only [step1,aw,hc,ha,d']
   |min=>simp only [step1,aw,hc,ha,d']
   |max=>simp only [step1,aw,hc,ha,d']
   |append=>
    simp only [step1,aw,hc,d'];split
    ·rename_i t x e fg afX afY _ t2 ag _ _;have hm:∀y,y∈[Operand.tmp t,x]→y∈(match c.callee with|.value f => #[f] |.invoke r _ => #[r] |.builtin _ => #[]:Array Operand).toList++c.args.toList:=λy b1=>by rw [ag];exact List.mem_append_right _ b1
     have iv:∀y,y∈[Operand.tmp t,x]→y∈((match c.callee with|.value f => #[f] |.invoke r _ => #[r] |.builtin _ => #[]:Array Operand)++c.args).toList:=λy b1=>by rw [Array.toList_append];exact hm y b1
     simp only [R (.tmp t) (iv _ (by simp)),R x (iv _ (by simp)),(hs (.tmp t) (iv _ (by simp)) t rfl).1]
    ·rfl
   |_=>simp only [step1,aw,hc]
 |_=>simp only [step1,aw]
end
structure dS where
 dst:Option Nat
 p:Path
 f:jj
 iw:List Nat
 kU:List Nat
 m5:Bool
 rs:List eT
 f0:Nat:=0
 qU:V:=.dV
 m6:List (Nat×List aR):=[]
 px:List (Nat×List aR):=[]
 lx:Nat:=0
def m7(ops:List Oper)(o:Oper):List Nat:=
 (o.op.operands.toList.filterMap fun|.tmp t=>some t|_=>none)++(match o.guard with
  |some (j,_)=>((ops[j]?).bind (·.dst)).toList
  |none=>[])
def dX(E:dS)(g:cU):cU:=
 match E.dst with
 |none=>{g with env:=fT E.f.f8 g.env,H:=E.f.hs++g.H,aT:=g.aT+E.f.ff}
 |some t=>match E.p with
  |[]=>{g with
   env:=match E.f.e with|some e=>(t,e)::fT E.f.f8 g.env|none=>del (fT E.f.f8 g.env) t
   bN:=del g.bN t,H:=E.f.hs++g.H,aT:=g.aT+E.f.ff}
  |_::_=>match E.f.e with
   |some e=>{g with env:=del g.env t,bN:=(t,E.p,e.d)::del g.bN t}
   |none=>g
def ly(E:dS):List Nat:=E.dst.toList++E.f.f8
def mw(E:dS):List Nat:=E.f.hs.map (·.1)
def sH{α:Type}:∀(a b:List (Nat×α)) (q:Nat),look (a++b) q=(match look a q with|some x=>some x|none=>look b q)
 |[],_,_=>rfl
 |(j,x)::a,b,q=>by
  simp only [List.cons_append,dd,sH a b q];by_cases h:j=q<;>simp [h]
def KK{α:Type}:∀{a:List (Nat×α)} {q:Nat},q∉a.map (·.1)→look a q=none
 |[],_,_=>rfl
 |(j,x)::a,q,h=>by
  simp only [List.map_cons,List.mem_cons,not_or]at h;rw [dd,if_neg (Ne.symm h.1)];exact KK h.2
section
variable {E:dS} {g g1 g2:cU}
def kx(g1 g2:cU)(t:Nat):Prop:=look g1.env t=look g2.env t∧look g1.bN t=look g2.bN t
def qV(g1 g2:cU)(q:Nat):Prop:=look g1.H q=look g2.H q
def qW{t:Nat}(h:t∉ly E):kx (dX E g) g t:=by
 simp only [ly,List.mem_append,not_or]at h;unfold kx dX;cases hd:E.dst with
 |none=>simp only [kO,if_neg h.2,and_self]
 |some u=>
  have hu:u≠t:=by rintro rfl;simp [hd]at h
  cases hp:E.p with
  |nil=>
   dsimp only
   cases he:E.f.e with
   |some e=>simp only [dd,if_neg hu,kO,if_neg h.2,nz,and_self]
   |none=>simp only [kO,if_neg h.2,nz,if_neg hu,and_self]
  |cons x p=>
   dsimp only
   cases he:E.f.e with
   |some e=>simp only [dd,if_neg hu,nz,and_self]
   |none=>exact⟨rfl,rfl⟩
def Cb{t:Nat}(h:kx g1 g2 t):kx (dX E g1) (dX E g2) t:=by
 obtain⟨ab,ah⟩:=h;unfold kx dX;cases hd:E.dst with
 |none=>simp only [kO,ab,ah,and_self]
 |some u=>
  cases hp:E.p with
  |nil=>
   dsimp only
   cases he:E.f.e with
   |some e=>simp only [dd,kO,ab,ah,nz,and_self]
   |none=>simp only [kO,nz,ab,ah,and_self]
  |cons x p=>
   dsimp only
   cases he:E.f.e with
   |some e=>simp only [dd,nz,ab,ah,and_self]
   |none=>exact⟨ab,ah⟩
def Cc:(dX E g).H=E.f.hs++g.H∨(dX E g).H=g.H:=by
 unfold dX;cases E.dst with
 |none=>exact .inl rfl
 |some u=>
  cases E.p with
  |nil=>exact .inl rfl
  |cons x p=>dsimp only;cases E.f.e<;>exact .inr rfl
def sI{q:Nat}(h:q∉mw E):qV (dX E g) g q:=by
 unfold qV;rcases Cc (E:=E) (g:=g)with ab|ab<;>rw [ab]
 rw [sH,KK h]
def Cd{q:Nat}(h:qV g1 g2 q):qV (dX E g1) (dX E g2) q:=by
 unfold qV at *;unfold dX;cases E.dst with
 |none=>simp only [sH,h]
 |some u=>
  cases E.p with
  |nil=>simp only [sH,h]
  |cons x p=>dsimp only;cases E.f.e<;>exact h
def sJ(E:dS):Nat:=
 match E.dst with
 |none=>E.f.ff
 |some _=>match E.p with
  |[]=>E.f.ff
  |_::_=>0
def xR:(dX E g).aT=g.aT+sJ E:=by
 unfold dX sJ;cases E.dst with
 |none=>rfl
 |some u=>
  cases E.p with
  |nil=>rfl
  |cons x p=>dsimp only;cases E.f.e<;>rfl
structure Alike(g1 g2:cU):Prop where
 slot:∀t,kx g1 g2 t
 box:∀q,qV g1 g2 q
 aT:g1.aT=g2.aT
 ids:g1.ids=g2.ids
def xS:(dX E g).ids=g.ids:=by
 unfold dX;cases E.dst with
 |none=>rfl
 |some u=>
  cases E.p with
  |nil=>rfl
  |cons x p=>dsimp only;cases E.f.e<;>rfl
def Alike.refl:Alike g g:=⟨λ_=>⟨rfl,rfl⟩,λ_=>rfl,rfl,rfl⟩
def Alike.symm(h:Alike g1 g2):Alike g2 g1:=⟨λt=>⟨(h.slot t).1.symm,(h.slot t).2.symm⟩,λq=>(h.box q).symm,h.aT.symm,h.ids.symm⟩
def Alike.trans{g3:cU}(h:Alike g1 g2)(c8:Alike g2 g3):Alike g1 g3:=⟨λt=>⟨(h.slot t).1.trans (c8.slot t).1,(h.slot t).2.trans (c8.slot t).2⟩,λq=>(h.box q).trans (c8.box q),h.aT.trans c8.aT,h.ids.trans c8.ids⟩
def Alike.ap(h:Alike g1 g2):Alike (dX E g1) (dX E g2):=
 ⟨λt=>Cb (h.slot t),λq=>Cd (h.box q),(by simp only [xR,h.aT]),by simp only [xS,h.ids]⟩
def sep(a b:List Nat):Bool:=a.all λx=>!b.any (Nat.beq x)
def qX{a b:List Nat}(h:sep a b=true){x:Nat}(ha:x∈a):x∉b:=by
 intro hb;have:=List.all_eq_true.1 h x ha
 simp only [Bool.not_eq_true',List.any_eq_false]at this;exact this x hb (by simp)
def uM(E cW:dS):Bool:=
 sep (ly E) cW.kU&&sep (ly E) (ly cW)&&sep (ly cW) E.kU&&(sep (mw E) cW.iw||Nat.beq E.lx 2&&Nat.beq cW.lx 1)&&sep (mw E) (mw cW)&&(sep (mw cW) E.iw||Nat.beq cW.lx 2&&Nat.beq E.lx 1)&&(!E.m5||Nat.beq (sJ cW) 0)&&(!cW.m5||Nat.beq (sJ E) 0)
def XZ{E cW:dS}(ab:sep (ly E) (ly cW)=true)(ah:sep (mw E) (mw cW)=true):Alike (dX E (dX cW g)) (dX cW (dX E g)):=by
 refine⟨λt=>?_,λq=>?_,?_,by simp only [xS]⟩
 ·by_cases cc:t∈ly E
  ·have mo:=qX ab cc;have a:kx (dX E (dX cW g)) (dX E g) t:=Cb (qW mo);have b:kx (dX cW (dX E g)) (dX E g) t:=qW mo;exact⟨a.1.trans b.1.symm,a.2.trans b.2.symm⟩
  ·have a:kx (dX E (dX cW g)) (dX cW g) t:=qW cc;have b:kx (dX cW (dX E g)) (dX cW g) t:=Cb (qW cc);exact⟨a.1.trans b.1.symm,a.2.trans b.2.symm⟩
 ·by_cases cc:q∈mw E
  ·have mo:=qX ah cc;exact(Cd (E:=E) (sI (E:=cW) (g:=g) mo)).trans (sI (E:=cW) (g:=dX E g) mo).symm
  ·exact(sI (E:=E) (g:=dX cW g) cc).trans (Cd (E:=cW) (sI (E:=E) (g:=g) cc)).symm
 ·simp only [xR];omega
end
section
variable {tt:de} {ops:List Oper} {b5:fI} {o:Oper} {E:dS} {g g1 g2:cU}
def KL(h:∀t,t∈m7 ops o→kx g1 g2 t):mR ops g1 o=mR ops g2 o:=by
 unfold mR;split
 ·rfl
 ·rename_i j w hg;cases cc:(ops[j]?).bind (·.dst) with
  |none=>rfl
  |some t=>
   have:=h t (by simp [m7,hg,cc])
   simp only [this.1,this.2]
def xT:∀{p:Path} {q:Prop},(∀x,x∈p→kx g1 g2 x.1)→under g1 p q=under g2 p q
 |[],_,_=>rfl
 |(t,w)::p,q,h=>by
  have cc:=h (t,w) (by simp)
  have bD:=xT (p:=p) (q:=q) λx hx=>h x (by simp [hx])
  have:tT g1.env g1.bN t=tT g2.env g2.bN t:=by unfold tT;rw [cc.1,cc.2]
  simp only [under,this,bD]
def X0{p:Path}(hs:∀x,x∈o.op.operands.toList→∀t,x = .tmp t→look g1.env t=look g2.env t∧look g1.bN t=look g2.bN t)(nT:g1.ids=g2.ids)(eb:∀q,q∈hr tt g1 p o→look g1.H q=look g2.H q):hr tt g1 p o=hr tt g2 p o:=by
 have R:∀x,x∈o.op.operands.toList→∀p ty,rd g1.env g1.bN p tt ty x=rd g2.env g2.bN p tt ty x:=λx hx p ty=>B9 (hs x hx) p ty
 cases aw:o.op with
 |alloc t=>simp only [hr,aw,nT]
 |box t x=>simp only [hr,aw,nT]
 |load t a=>simp only [aw,Op.operands]at R;simp only [hr,aw,R a (by simp)]
 |store t a x=>simp only [aw,Op.operands]at R;simp only [hr,aw,R a (by simp)]
 |call c=>
  simp only [aw,Op.operands,Call.operands]at R;cases hc:c.callee with
  |value x=>
   have hx:=R x (by simp [hc])
   have ha:jI (rd g1.env g1.bN p tt) c.args.toList c.argTypes.toList=jI (rd g2.env g2.bN p tt) c.args.toList c.argTypes.toList:=B' λy b1 t=>R y (by rw [Array.toList_append];exact List.mem_append_right _ b1) p t
   simp only [hr,aw,hc,hx,ha]at eb ⊢;split
   ·rename_i f eO ds ab ah;simp only [ab,ah]at eb;exact B_ eb
   ·rfl
  |_=>simp only [hr,aw,hc]
 |_=>simp only [hr,aw]
structure Ce(b5:fI)(tt:de)(ops:List Oper)(o:Oper)(E:dS)(g:cU):Prop where
 xU:mR ops g o=some E.p
 st:step1 b5 tt ops {g with rs:=E.rs} E.p o=some (bif Nat.beq E.f0 0 then .go E.f else .bb E.qU E.m6 E.f.a6)
 a6:∀q,q∈E.f.a6→under g E.p q
 iw:∀q,q∈hr tt g E.p o→q∈E.iw
 fin:E.f0=1→∀q,q∈E.iw→look g.H q=look E.px q
def Can(b5:fI)(tt:de)(ops:List Oper)(o:Oper)(E:dS)(g:cU):Prop:=E.f0=2∨Ce b5 tt ops o E g
def Can.congr(h:Can b5 tt ops o E g1)(qY:∀t,t∈m7 ops o++E.p.map (·.1)→t∈E.kU)(nF:nS o=E.m5)(hs:∀t,t∈E.kU→kx g1 g2 t)(hb:∀q,q∈E.iw→qV g1 g2 q)(hn:E.m5=true→g1.aT=g2.aT)(nT:g1.ids=g2.ids):Can b5 tt ops o E g2:=by
 rcases h with h|h
 ·exact .inl h
 right
 have nU:∀x,x∈o.op.operands.toList→∀t,x = .tmp t→look g1.env t=look g2.env t∧look g1.bN t=look g2.bN t:=by
  rintro x hx t rfl
  exact hs t (qY t (List.mem_append_left _ (by simp only [m7,List.mem_append,List.mem_filterMap];exact .inl ⟨_,hx,rfl⟩)))
 have jQ:hr tt g1 E.p o=hr tt g2 E.p o:=X0 nU nT (λq aP=>hb q (h.iw q aP))
 refine⟨?_,?_,λq aP=>?_,(by rw [←jQ];exact h.iw),λhk q aP=>(hb q aP).symm.trans (h.fin hk q aP)⟩
 ·rw [←KL (g1:=g1) (g2:=g2) λt cc=>hs t (qY t (List.mem_append_left _ cc))];exact h.xU
 ·rw [←h.st];refine(Ca (g1:={g1 with rs:=E.rs}) (g2:={g2 with rs:=E.rs}) nU rfl nT (λhm=>hn (by rw [←nF];exact hm)) (λq aP=>hb q ?_)).symm
  exact h.iw q aP
 ·rw [←xT (g1:=g1) (g2:=g2) λx hx=>hs x.1 (qY _ (List.mem_append_right _ (List.mem_map.2 ⟨x,hx,rfl⟩)))]
  exact h.a6 q aP
def qZ(o:Oper)(rs:List eT):Nat:=
 match o.op with
 |.load _ _=>match rs with
  |.own::_=>2
  |.marks _::_=>0
  |_=>1
 |_=>0
def py(g1 g2:cU)(q:Nat):Prop:=(look g1.H q).map (·.map (·.d))=(look g2.H q).map (·.map (·.d))
def KM:∀(cs:List aR) (off:Nat) (e:aR),cs[off]? = some e→(setAt cs off [{d:=e.d}]).map (·.d)=cs.map (·.d)
 |[],off,e,h=>by simp at h
 |c::cs,0,e,h=>by
  simp only [List.getElem?_cons_zero,Option.some.injEq]at h;subst h;simp [setAt]
 |c::cs,off+1,e,h=>by
  simp only [List.getElem?_cons_succ]at h;simp only [setAt,List.map_cons,KM cs off e h]
def X1(h:Ce b5 tt ops o E g)(ag:qZ o E.rs=2)(hk:E.f0=0)(q:Nat):py (dX E g) g q:=by
 have ev:=h.st;rw [hk]at ev;unfold qZ at ag;split at ag
 case h_2=>cases ag
 rename_i t a aw;simp only [step1,aw,show Nat.beq 0 0=true from rfl,cond_true]at ev
 have nil:E.f.hs=[]→py (dX E g) g q:=by
  intro bu;unfold py;rcases Cc (E:=E) (g:=g)with ab|ab<;>rw [ab]
  rw [bu];rfl
 split at ev
 ·rename_i X2 off aE aj cJ;split at ev
  ·rename_i cs dE;rw [Bool.cond_eq_ite]at ev;split at ev
   ·rw [Bool.cond_eq_ite]at ev;split at ev
    ·split at ev
     ·rename_i d';rw [d']at ag;cases ag
     ·simp only [Option.map_some,Option.some.injEq,lk.go.injEq]at ev;exact nil (by rw [←ev])
    ·cases ev
   ·split at ev
    ·rename_i e he;split at ev
     ·rw [Bool.cond_eq_ite]at ev;split at ev
      ·simp only [Option.some.injEq,lk.go.injEq]at ev;unfold py;rcases Cc (E:=E) (g:=g)with ab|ab<;>rw [ab]
       rw [←ev];simp only [List.cons_append,List.nil_append,dd];split
       ·rename_i aP;subst aP;rw [dE];simp only [Option.map_some,KM cs off e he]
       ·rfl
      ·cases ev
     ·simp only [Option.map_some,Option.some.injEq,lk.go.injEq]at ev;exact nil (by rw [←ev])
    ·cases ev
  ·cases ev
 ·rename_i x aE aj cJ;rw [Bool.cond_eq_ite]at ev;split at ev
  ·simp only [Option.map_some,Option.some.injEq,lk.go.injEq]at ev;exact nil (by rw [←ev])
  ·cases ev
 ·cases ev
def X3{p:Path}{rs:List eT}{t:TypeId}{a:Operand}(aw:o.op = .load t a)(d':∀l,rs ≠ .own::l)(xV:∀c l,rs ≠ .marks c::l)(R:rd g1.env g1.bN p tt o.type a=rd g2.env g2.bN p tt o.type a)(X4:∀q off,rd g2.env g2.bN p tt o.type a=some (.ptr q off)→py g1 g2 q):
 step1 b5 tt ops {g1 with rs:=rs} p o=step1 b5 tt ops {g2 with rs:=rs} p o:=by
 simp only [step1,aw,R];split
 ·rename_i q off aE aj cJ;have hd:=X4 q off aj;unfold py at hd;cases ab:look g1.H q with
  |none=>
   rw [ab]at hd;cases ah:look g2.H q with
   |none=>rfl
   |some c2=>rw [ah]at hd;cases hd
  |some c1=>
   rw [ab]at hd;cases ah:look g2.H q with
   |none=>rw [ah]at hd;cases hd
   |some c2=>
    rw [ah]at hd;simp only [Option.map_some,Option.some.injEq]at hd;have hlen:c1.length=c2.length:=by have:=congrArg List.length hd;simpa using this
    have X5:((c1.drop off).take aE.size).map (·.d)=((c2.drop off).take aE.size).map (·.d):=by rw [List.map_take,List.map_drop,hd,←List.map_drop,←List.map_take]
    have hl:(c1[off]?).map (·.d)=(c2[off]?).map (·.d):=by rw [←List.getElem?_map,hd,List.getElem?_map]
    simp only [hlen,X5];cases aE.k.isAgg with
    |true=>
     cases rs with
     |nil=>rfl
     |cons x l=>
      cases x with
      |marks=>exact absurd rfl (xV _ l)
      |_=>rfl
    |false=>
     simp only [cond_false];cases KN:c1[off]? with
     |none=>
      rw [KN]at hl;cases xW:c2[off]? with
      |none=>rfl
      |some e2=>rw [xW]at hl;cases hl
     |some e1=>
      rw [KN]at hl;cases xW:c2[off]? with
      |none=>rw [xW]at hl;cases hl
      |some e2=>
       rw [xW]at hl;simp only [Option.map_some,Option.some.injEq]at hl;cases rs with
       |nil=>cases e1.own<;>cases e2.own<;>simp [hl]
       |cons r l=>
        cases r with
        |own=>exact absurd rfl (d' l)
        |val x=>cases e1.own<;>cases e2.own<;>simp [hl]
        |raw=>cases e1.own<;>cases e2.own<;>simp [hl]
        |marks=>exact absurd rfl (xV _ l)
        |call u v z=>cases e1.own<;>cases e2.own<;>simp [hl]
 ·rfl
 ·rfl
def Can.KO(h:Can b5 tt ops o E g1)(ag:qZ o E.rs=1)(hk:E.f0=0)(qY:∀t,t∈m7 ops o++E.p.map (·.1)→t∈E.kU)(hs:∀t,t∈E.kU→kx g1 g2 t)(hb:∀q,py g1 g2 q):Can b5 tt ops o E g2:=by
 rcases h with h|h
 ·exact .inl h
 right
 have nU:∀x,x∈o.op.operands.toList→∀t,x = .tmp t→look g1.env t=look g2.env t∧look g1.bN t=look g2.bN t:=by
  rintro x hx t rfl
  exact hs t (qY t (List.mem_append_left _ (by simp only [m7,List.mem_append,List.mem_filterMap];exact .inl ⟨_,hx,rfl⟩)))
 unfold qZ at ag;split at ag
 case h_2=>cases ag
 rename_i t a aw
 have d':∀l,E.rs ≠ .own::l:=by
  intro l e;rw [e]at ag;cases ag
 have xV:∀c l,E.rs ≠ .marks c::l:=by
  intro c l e;rw [e]at ag;cases ag
 have R:rd g1.env g1.bN E.p tt o.type a=rd g2.env g2.bN E.p tt o.type a:=B9 (nU a (by simp [aw,Op.operands])) _ _
 have jQ:hr tt g1 E.p o=hr tt g2 E.p o:=by simp only [hr,aw,R]
 refine⟨?_,?_,λq aP=>?_,(by rw [←jQ];exact h.iw),λnQ=>by rw [hk]at nQ;cases nQ⟩
 ·rw [←KL (g1:=g1) (g2:=g2) λt cc=>hs t (qY t (List.mem_append_left _ cc))];exact h.xU
 ·rw [←h.st];exact(X3 aw d' xV R λq off _=>hb q).symm
 ·rw [←xT (g1:=g1) (g2:=g2) λx hx=>hs x.1 (qY _ (List.mem_append_right _ (List.mem_map.2 ⟨x,hx,rfl⟩)))]
  exact h.a6 q aP
end
def h'(ops:List Oper)(o:Oper)(E:dS):Bool:=X6 (m7 ops o++E.p.map (·.1)) E.kU&&(nS o == E.m5)&&decide (E.dst=o.dst)&&(match E.f.rs with|[]=>true|_=>false)&&(Nat.beq E.lx 0||Nat.beq E.lx (qZ o E.rs)&&Nat.beq E.f0 0)
where X6 (a b:List Nat):Bool:=a.all λx=>b.any (Nat.beq x)
def xX{ops:List Oper}{o:Oper}{E:dS}(h:h' ops o E=true):(∀t,t∈m7 ops o++E.p.map (·.1)→t∈E.kU)∧nS o=E.m5∧E.dst=o.dst∧E.f.rs=[]:=by
 simp only [h',Bool.and_eq_true,beq_iff_eq,decide_eq_true_eq]at h;obtain⟨⟨⟨⟨ab,ah⟩,ay⟩,bl⟩,_⟩:=h;refine⟨λt cc=>?_,ah,ay,?_⟩
 ·obtain⟨y,b1,fZ⟩:=List.any_eq_true.1 (List.all_eq_true.1 ab t cc);have:t=y:=by simpa using fZ
  rw [this];exact b1
 ·split at bl
  ·assumption
  ·cases bl
def waits(ops:List Oper)(i:Nat):Nat→Nat→Bool
 | 0,_=>false
 |n+1,j=>match ops[j]? with
  |some o=>o.after.toList.any λe=>Region.binds .any e&&(Nat.beq e.on i||waits ops i n e.on)
  |none=>false
def lz(opsA:Array Oper)(listed:Array Bool):Prop:=∀(j:Nat) o,opsA[j]? = some o→listed.getD j false=true→∀e,e∈o.after→Region.binds .any e=true→listed.getD e.on false=true
def xY{opsA:Array Oper}{listed:Array Bool}(hc:lz opsA listed){i:Nat}:∀{n j:Nat},waits opsA.toList i n j=true→listed.getD j false=true→listed.getD i false=true
 | 0,_,h,_=>by simp [waits]at h
 |n+1,j,h,hj=>by
  simp only [waits]at h;split at h
  ·rename_i o aw;obtain⟨e,he,hb⟩:=List.any_eq_true.1 h;simp only [Bool.and_eq_true,Bool.or_eq_true,Nat.beq_eq]at hb;have ab:=hc j o (by simpa using aw) hj e (by simpa using he) hb.1
   rcases hb.2 with rfl|ah
   ·exact ab
   ·exact xY hc ah ab
  ·cases h
def lz.set{opsA:Array Oper}{listed:Array Bool}(hc:lz opsA listed){i:Nat}(aj:i∈Region.ready .any opsA listed):lz opsA (listed.setIfInBounds i true):=by
 intro j o aw hj e he hb;by_cases m8:i=j
 ·subst m8;obtain⟨_,o',iY,mi⟩:=mem_ready.1 aj;rw [aw]at iY;cases iY;exact getD_set_true (mi e he hb)
 ·rw [getD_set_ne false m8]at hj;exact getD_set_true (hc j o aw hj e he hb)
section
variable {b5:fI} {tt:de} {opsA:Array Oper} {cu:List dS} {Fi:cU→Prop} {g g1 g2:cU}
def hT(b5:fI)(tt:de)(opsA:Array Oper)(cu:List dS)(Fi:cU→Prop):Nat→Array Bool→cU→Prop
 | 0,listed,g=>Region.ready .any opsA listed=[]∧Fi g
 |n+1,listed,g=>(Region.ready .any opsA listed=[]→Fi g)∧∀i,i∈Region.ready .any opsA listed→∃o E,opsA[i]? = some o∧cu[i]? = some E∧Can b5 tt opsA.toList o E g∧
  hT b5 tt opsA cu Fi n (listed.setIfInBounds i true) (dX E g)
def hT.alike(fU:∀(i:Nat) o E,opsA[i]? = some o→cu[i]? = some E→h' opsA.toList o E=true)(dg:∀g1 g2,Alike g1 g2→Fi g1→Fi g2):∀{n:Nat} {listed:Array Bool} {g1 g2:cU},Alike g1 g2→hT b5 tt opsA cu Fi n listed g1→hT b5 tt opsA cu Fi n listed g2
 | 0,_,_,_,ha,h=>⟨h.1,dg _ _ ha h.2⟩
 |n+1,_,_,_,ha,h=>⟨λaj=>dg _ _ ha (h.1 aj),λi hi=>by
  obtain⟨o,E,aw,ch,h_,hn⟩:=h.2 i hi;obtain⟨ed,ao,_,_⟩:=xX (fU i o E aw ch);exact⟨o,E,aw,ch,h_.congr ed ao (λt _=>ha.slot t) (λq _=>ha.box q) (λ_=>ha.aT) ha.ids,hT.alike fU dg ha.ap hn⟩⟩
def uN{ops:List Oper}{o:Oper}{E:dS}{n:Nat}(h:h' ops o E=true)(ag:E.lx=n+1):qZ o E.rs=n+1∧E.f0=0:=by
 simp only [h',Bool.and_eq_true,Bool.or_eq_true,Nat.beq_eq]at h;rcases h.2 with h|h
 ·rw [ag]at h;cases h
 ·exact⟨h.1.symm.trans ag,h.2⟩
def Can.data{b5:fI}{tt:de}{ops:List Oper}{o:Oper}{E:dS}{g:cU}(h:Can b5 tt ops o E g)(fU:h' ops o E=true)(ag:E.lx=2)(q:Nat):py (dX E g) g q:=by
 obtain⟨ab,ah⟩:=uN fU ag;rcases h with h|h
 ·rw [ah]at h;cases h
 ·exact X1 h ab ah q
def X7{E cW:dS}(h:uM E cW=true):sep (ly E) cW.kU=true∧sep (ly E) (ly cW)=true∧sep (ly cW) E.kU=true∧(sep (mw E) cW.iw=true∨E.lx=2∧cW.lx=1)∧sep (mw E) (mw cW)=true∧(sep (mw cW) E.iw=true∨cW.lx=2∧E.lx=1)∧(E.m5=true→sJ cW=0)∧(cW.m5=true→sJ E=0):=by
 simp only [uM,Bool.and_eq_true,Bool.or_eq_true,Bool.not_eq_true',Nat.beq_eq]at h;obtain⟨⟨⟨⟨⟨⟨⟨ab,ah⟩,ay⟩,bl⟩,bQ⟩,df⟩,fK⟩,hR⟩:=h;exact⟨ab,ah,ay,bl,bQ,df,λhm=>fK.resolve_left (by simp [hm]),λhm=>hR.resolve_left (by simp [hm])⟩
def hT.first(fU:∀(i:Nat) o E,opsA[i]? = some o→cu[i]? = some E→h' opsA.toList o E=true)(dg:∀g1 g2,Alike g1 g2→Fi g1→Fi g2){i:Nat}{o:Oper}{E:dS}(hi:opsA[i]? = some o)(ch:cu[i]? = some E):
 ∀(fuel:Nat) (listed:Array Bool) (g:cU),
  (∀(j:Nat) m9 kd,opsA[j]? = some m9→cu[j]? = some kd→j≠i→listed.getD j true=false→waits opsA.toList i 3 j=false→uM E kd=true)→lz opsA listed→
  i∈Region.ready .any opsA listed→Can b5 tt opsA.toList o E g→hT b5 tt opsA cu Fi fuel (listed.setIfInBounds i true) (dX E g)→hT b5 tt opsA cu Fi (fuel+1) listed g:=by
 intro fuel;induction fuel with
 |zero=>
  intro listed g _ _ aj h_ H;refine⟨λh=>(by rw [h]at aj;cases aj),λj hj=>?_⟩
  by_cases m8:j=i
  ·subst m8;exact⟨o,E,hi,ch,h_,H⟩
  ·have:=ready_mono hj m8
   rw [H.1]at this;cases this
 |succ fuel bD=>
  intro listed g iF ho aj h_ H;refine⟨λh=>(by rw [h]at aj;cases aj),λj hj=>?_⟩
  by_cases m8:j=i
  ·subst m8;exact⟨o,E,hi,ch,h_,H⟩
  obtain⟨m9,kd,m',pz,KP,X8⟩:=H.2 j (ready_mono hj m8);obtain⟨KQ,afZ,KR,mi⟩:=mem_ready.1 hj;rw [m']at KR;cases KR
  have lA:listed.getD i false=false:=by
   have h0:=(mem_ready.1 aj).1;rcases Nat.lt_or_ge i listed.size with c8|c8
   ·simpa [Array.getD_eq_getD_getElem?,c8]using h0
   ·simp [Array.getD_eq_getD_getElem?,Array.getElem?_eq_none c8]
  have X9:waits opsA.toList i 3 j=false:=by
   rw [Bool.eq_false_iff];intro hw;rw [waits]at hw;have ag:opsA.toList[j]? = some m9:=by simpa using m'
   simp only [ag]at hw;obtain⟨e,he,hb⟩:=List.any_eq_true.1 hw;simp only [Bool.and_eq_true,Bool.or_eq_true,Nat.beq_eq]at hb;have ab:=mi e (by simpa using he) hb.1
   rcases hb.2 with rfl|ah
   ·rw [lA]at ab;cases ab
   ·rw [xY ho ah ab]at lA;cases lA
  obtain⟨d1,d2,d3,d4,d5,d6,d7,d8⟩:=X7 (iF j m9 kd m' pz m8 KQ X9);obtain⟨ed,ao,_,_⟩:=xX (fU i o E hi ch);obtain⟨g_,kb,_,_⟩:=xX (fU j m9 kd m' pz)
  have c1:Can b5 tt opsA.toList m9 kd g:=by
   rcases d4 with d4|⟨e1,e2⟩
   ·exact KP.congr g_ kb (λt cc=>qW λhw=>qX d1 hw cc) (λq aP=>sI λhw=>qX d4 hw aP) (λhm=>by rw [xR,d8 hm];rfl) xS
   ·exact KP.KO (uN (fU j m9 kd m' pz) e2).1 (uN (fU j m9 kd m' pz) e2).2 g_ (λt cc=>qW λhw=>qX d1 hw cc) (h_.data (fU i o E hi ch) e1)
  have c2:Can b5 tt opsA.toList o E (dX kd g):=by
   have KS:∀t,t∈E.kU→kx g (dX kd g) t:=λt cc=>by have:=qW (E:=kd) (g:=g) (t:=t) λhw=>qX d3 hw cc;exact⟨this.1.symm,this.2.symm⟩
   rcases d6 with d6|⟨e1,e2⟩
   ·exact h_.congr ed ao KS (λq aP=>(sI (E:=kd) (g:=g) (q:=q) λhw=>qX d6 hw aP).symm) (λhm=>by rw [xR,d7 hm];rfl) xS.symm
   ·exact h_.KO (uN (fU i o E hi ch) e2).1 (uN (fU i o E hi ch) e2).2 ed KS (λq=>(c1.data (fU j m9 kd m' pz) e1 q).symm)
  refine⟨m9,kd,m',pz,c1,bD (listed.setIfInBounds j true) (dX kd g) ?_ (ho.set hj) (ready_mono aj (Ne.symm m8)) c2 ?_⟩
  ·intro k ok X' hk X_ Ya lA mr;refine iF k ok X' hk X_ Ya ?_ mr;by_cases mx:j=k
   ·subst mx;exact KQ
   ·rw [getD_set_ne true mx]at lA;exact lA
  ·rw [Array.setIfInBounds_comm _ _ m8];exact hT.alike fU dg (XZ d2 d5).symm X8
structure xZ(n k:Nat)(listed:Array Bool):Prop where
 size:listed.size=n
 at':∀j,j<n→listed[j]? = some (decide (j<k))
def xZ.set{n k:Nat}{listed:Array Bool}(h:xZ n k listed):xZ n (k+1) (listed.setIfInBounds k true):=by
 refine⟨by simp [h.size],λj hj=>?_⟩
 by_cases mx:k=j
 ·subst mx;simp [h.size,hj]
 ·rw [Array.getElem?_setIfInBounds_ne mx,h.at' j hj]
  congr 1
  have:(j<k)=(j<k+1):=by apply propext;omega
  simp [this]
def Yb(o:Oper)(k:Nat):Bool:=o.after.toList.all λe=>!Region.binds .any e||Nat.blt e.on k
def x0(ops:List Oper)(E:dS)(k:Nat):Nat→List (Oper×dS)→Bool
 |_,[]=>true
 |j,(_,cW)::l=>(uM E cW||waits ops k 3 j)&&x0 ops E k (j+1) l
def x1(ops:List Oper):Nat→List (Oper×dS)→Bool
 |_,[]=>true
 |k,(o,E)::l=>Yb o k&&x0 ops E k (k+1) l&&x1 ops (k+1) l
def x2(b5:fI)(tt:de)(ops:List Oper)(Fi:cU→Prop):List (Oper×dS)→cU→Prop
 |[],g=>Fi g
 |(o,E)::l,g=>Can b5 tt ops o E g∧x2 b5 tt ops Fi l (dX E g)
def KT{ops:List Oper}{E:dS}{k:Nat}:∀{l:List (Oper×dS)} {n:Nat},x0 ops E k n l=true→∀(j:Nat) o cW,l[j]? = some (o,cW)→waits ops k 3 (n+j)=false→uM E cW=true
 |[],_,_,j,o,cW,hj,_=>by simp at hj
 |(cF,a8)::l,n,h,j,o,cW,hj,mr=>by
  simp only [x0,Bool.and_eq_true,Bool.or_eq_true]at h;cases j with
  |zero=>
   simp at hj
   obtain⟨rfl,rfl⟩:=hj;exact h.1.resolve_right (by rw [Nat.add_zero]at mr;rw [mr];simp)
  |succ j=>exact KT h.2 j o cW (by simpa using hj) (by rwa [show n+1+j=n+(j+1)by omega])
def hT.text(fU:∀(i:Nat) o E,opsA[i]? = some o→cu[i]? = some E→h' opsA.toList o E=true)(dg:∀g1 g2,Alike g1 g2→Fi g1→Fi g2):
 ∀(l:List (Oper×dS)) (k:Nat) (listed:Array Bool) (g:cU),(∀j:Nat,(l[j]?).map (·.1)=opsA[k+j]?)→(∀j:Nat,(l[j]?).map (·.2)=cu[k+j]?)→xZ opsA.size k listed→lz opsA listed→x1 opsA.toList k l=true→x2 b5 tt opsA.toList Fi l g→
  hT b5 tt opsA cu Fi l.length listed g
 |[],k,listed,g,ab,_,kV,_,_,hc=>by
  refine⟨?_,hc⟩
  have hk:opsA[k]? = none:=by have:=ab 0;simpa using this.symm
  have nQ:opsA.size≤k:=by simpa using hk
  refine List.eq_nil_iff_forall_not_mem.2 λj hj=>?_
  obtain⟨hu,o,aw,_⟩:=mem_ready.1 hj;have cJ:j<opsA.size:=(Array.getElem?_eq_some_iff.1 aw).1;have:=kV.at' j cJ
  rw [Array.getD_eq_getD_getElem?,this]at hu;have mx:j<k:=by omega
  simp [mx]at hu
 |(o,E)::l,k,listed,g,ab,ah,kV,ho,hx,hc=>by
  have aw:opsA[k]? = some o:=by have:=ab 0;simpa using this.symm
  have ch:cu[k]? = some E:=by have:=ah 0;simpa using this.symm
  have cJ:k<opsA.size:=(Array.getElem?_eq_some_iff.1 aw).1;simp only [x1,Bool.and_eq_true]at hx;obtain⟨⟨aj,b2⟩,hx⟩:=hx
  have KU:k∈Region.ready .any opsA listed:=by
   refine mem_ready.2 ⟨?_,o,aw,λe he hb=>?_⟩
   ·rw [Array.getD_eq_getD_getElem?,kV.at' k cJ];simp
   ·have:=List.all_eq_true.1 aj e (by simpa using he)
    simp only [hb,Bool.not_true,Bool.false_or,Nat.blt_eq]at this;rw [Array.getD_eq_getD_getElem?,kV.at' e.on (by omega)]
    simp [this]
  refine hT.first fU dg aw ch l.length listed g ?_ ho KU hc.1 (hT.text fU dg l (k+1) _ _ (λj=>?_) (λj=>?_) kV.set (ho.set KU) hx hc.2)
  ·intro j m9 kd m' pz dF lA mr;have qD:j<opsA.size:=(Array.getElem?_eq_some_iff.1 m').1
   have mx:k<j:=by
    rw [Array.getD_eq_getD_getElem?,kV.at' j qD]at lA;simp at lA
    omega
   have e1:=ab (j-k);have e2:=ah (j-k);have KV:k+(j-k)=j:=by omega
   rw [KV,m']at e1;rw [KV,pz]at e2
   have e3:(((o,E)::l)[j-k]?)=l[j-k-1]? := by
    have:j-k=(j-k-1)+1:=by omega
    rw [this];simp
   rw [e3]at e1 e2;cases ag:l[j-k-1]? with
   |none=>rw [ag]at e1;simp at e1
   |some x=>
    rw [ag]at e1 e2;simp at e1 e2
    obtain⟨pA,uO⟩:=x;simp only at e1 e2
    subst e1;subst e2;exact KT b2 _ _ _ ag (by rwa [show k+1+(j-k-1)=j by omega])
  ·have:=ab (j+1);simpa [Nat.add_assoc,Nat.add_comm 1 j]using this
  ·have:=ah (j+1);simpa [Nat.add_assoc,Nat.add_comm 1 j]using this
end
def nV(N:Nat)(E:dS):Bool:=
 match E.dst with
 |none=>E.p.isEmpty
 |some t=>Nat.blt t N&&match E.p with
  |[]=>true
  |p=>E.f.e.isSome&&E.f.hs.isEmpty&&E.f.f8.isEmpty&&p.all (λy=>!Nat.beq y.1 t)&&Nat.beq E.f.ff 0
def uP(ops:List Oper)(i:Nat)(t:Nat):Nat→List dS→Bool
 |_,[]=>true
 |j,cW::l=>(match cW.p with
  |[]=>true
  |p=>(match cW.dst with |some h4=>Nat.beq h4 t |none=>false)||p.all (λy=>!Nat.beq y.1 t)||waits ops i 3 j)&&uP ops i t (j+1) l
def x3(ops:List Oper)(cu:List dS):Nat→List dS→Bool
 |_,[]=>true
 |i,E::l=>(match E.dst with
  |none=>true
  |some t=>uP ops i t 0 cu)&&x3 ops cu (i+1) l
def uQ(ops:List Oper)(cu:List dS):Bool:=x3 ops cu 0 cu
def KW{ops:List Oper}{i t:Nat}:∀{l:List dS} {k:Nat},uP ops i t k l=true→∀(j:Nat) (cW:dS),l[j]? = some cW→cW.p≠[]→
 ((match cW.dst with|some h4=>Nat.beq h4 t|none=>false)||cW.p.all (λy=>!Nat.beq y.1 t))=true∨waits ops i 3 (k+j)=true
 |[],_,_,j,cW,h,_=>by simp at h
 |a8::l,k,h,j,cW,hj,dF=>by
  simp only [uP,Bool.and_eq_true]at h;cases j with
  |zero=>
   simp at hj
   subst hj;have ab:=h.1;split at ab
   ·rename_i mS;exact absurd mS dF
   ·rw [Bool.or_eq_true]at ab;exact ab
  |succ j=>
   have:=KW h.2 j cW (by simpa using hj) dF
   rwa [show k+(j+1)=k+1+j by omega]
def KX{ops:List Oper}{cu:List dS}:∀{l:List dS} {k:Nat},x3 ops cu k l=true→∀(i:Nat) (E:dS) (t:Nat),l[i]? = some E→E.dst=some t→uP ops (k+i) t 0 cu=true
 |[],_,_,i,E,t,h,_=>by simp at h
 |a8::l,k,h,i,E,t,hi,hd=>by
  simp only [x3,Bool.and_eq_true]at h;cases i with
  |zero=>
   simp at hi
   subst hi;have ab:=h.1;rw [hd]at ab;exact ab
  |succ i=>
   have:=KX h.2 i E t (by simpa using hi) hd
   rwa [show k+(i+1)=k+1+i by omega]
section
variable {P:Program} {K:Ctx} {N:Nat} {M:Mem} {β:Nat→Option Nat} {tt:de} {opsA:Array Oper} {cu:List dS} {g:cU} {w:World} {tmps:Array Value}
def pB(cu:List dS)(listed:Array Bool)(g:cU):Prop:=∀x,x∈g.bN→∃(i:Nat) (E:dS),cu[i]? = some E∧listed.getD i false=true∧E.dst=some x.1∧E.p=x.2.1∧E.p≠[]
def x4{α:Type}:∀{l:List (Nat×α)} {t:Nat} {x:Nat×α},x∈del l t→x∈l
 |[],_,_,h=>by simp [del]at h
 |(j,y)::l,t,x,h=>by
  simp only [del]at h;rw [Bool.cond_eq_ite]at h;split at h
  ·exact List.mem_cons_of_mem _ (x4 h)
  ·rcases List.mem_cons.1 h with rfl|h
   ·simp
   ·exact List.mem_cons_of_mem _ (x4 h)
def pB.ap{listed:Array Bool}{i:Nat}{E:dS}(ch:cu[i]? = some E)(hi:i<listed.size)(h:pB cu listed g):pB cu (listed.setIfInBounds i true) (dX E g):=by
 have c8:pB cu (listed.setIfInBounds i true) g:=λx hx=>by
  obtain⟨j,cW,ab,ah,ay⟩:=h x hx;exact⟨j,cW,ab,getD_set_true ah,ay⟩
 intro x hx;unfold dX at hx;cases hd:E.dst with
 |none=>simp only [hd]at hx;exact c8 x hx
 |some t=>
  simp only [hd]at hx;cases hp:E.p with
  |nil=>simp only [hp]at hx;exact c8 x (x4 hx)
  |cons y p=>
   simp only [hp]at hx;cases he:E.f.e with
   |none=>simp only [he]at hx;exact c8 x hx
   |some e=>
    simp only [he]at hx;rcases List.mem_cons.1 hx with rfl|hx
    ·exact⟨i,E,ch,by simp [hi],by simp [hd],by simp [hp],by simp [hp]⟩
    ·exact c8 x (x4 hx)
def Yc{listed:Array Bool}{i:Nat}{E:dS}{t:Nat}(iF:uQ opsA.toList cu=true)(ch:cu[i]? = some E)(hd:E.dst=some t)(hc:lz opsA listed)(hi:listed.getD i false=false)(h:pB cu listed g):r' g.bN t=true:=by
 unfold r';rw [List.all_eq_true];intro x hx;obtain⟨j,cW,oJ,ag,iC,xK,dF⟩:=h x hx;have ab:=KX iF i E t ch hd;rw [Nat.zero_add]at ab;rcases KW ab j cW oJ dF with ah|ah
 ·rw [iC,xK]at ah;exact ah
 ·rw [Nat.zero_add]at ah;have:=xY hc ah ag
  rw [hi]at this;cases this
def KY{listed:Array Bool}{b5:fI}{o:Oper}{E:dS}{i:Nat}(hJ:E.f0=0)(h_:Ce b5 tt opsA.toList o E g)(ch:cu[i]? = some E)(fU:h' opsA.toList o E=true)(cw:nV N E=true)(iF:uQ opsA.toList cu=true)(hc:lz opsA listed)(hi:listed.getD i false=false)(hD:pB cu listed g):
 ik b5 tt N opsA.toList {g with rs:=E.rs,a6:=[]} o=some (.go {dX E g with rs:=[],a6:=E.f.a6.map (under g E.p)}):=by
 obtain⟨_,_,fE,eC⟩:=xX fU;have hg:mR opsA.toList {g with rs:=E.rs,a6:=[]} o=some E.p:=h_.xU
 have hs:step1 b5 tt opsA.toList {g with rs:=E.rs,a6:=[]} E.p o=some (.go E.f):=by
  have ev:=h_.st;rw [hJ]at ev;refine Eq.trans ?_ ev;exact Ca (g1:={g with rs:=E.rs,a6:=[]}) (g2:={g with rs:=E.rs}) (λ_ _ _ _=>⟨rfl,rfl⟩) rfl rfl (λ_=>rfl) (λ_ _=>rfl)
 have hu:∀q,under {g with rs:=E.rs,a6:=[]} E.p q=under g E.p q:=λq=>xT λ_ _=>⟨rfl,rfl⟩
 unfold ik;rw [hg]
 dsimp only
 rw [hs]
 dsimp only
 rw [←fE];have cm:E.f.a6.map (under {g with rs:=E.rs,a6:=[]} E.p)++[]=E.f.a6.map (under g E.p):=by rw [List.append_nil];exact List.map_congr_left λq _=>hu q
 rw [cm,eC];unfold nV at cw;unfold dX;cases hd:E.dst with
 |none=>
  rw [hd]at cw
  dsimp only at cw ⊢
  rw [cw];rfl
 |some t=>
  rw [hd]at cw;have b2:=Yc iF ch hd hc hi hD;simp only [Bool.and_eq_true]at cw;obtain⟨cJ,cw⟩:=cw
  dsimp only
  rw [cJ,b2];cases hp:E.p with
  |nil=>rfl
  |cons x p=>
   rw [hp]at cw;simp only [Bool.and_eq_true,List.isEmpty_iff,Nat.beq_eq,Option.isSome_iff_exists]at cw;obtain⟨⟨⟨⟨⟨e,he⟩,bu⟩,hc⟩,mi⟩,hn⟩:=cw;simp only [he,bu,hc,hn,mi];rfl
def hT.sound(b0:eJ P tt=true)(hJ:∀(i:Nat) E,cu[i]? = some E→E.f0=0)(fU:∀(i:Nat) o E,opsA[i]? = some o→cu[i]? = some E→h' opsA.toList o E=true)(cw:∀(i:Nat) E,cu[i]? = some E→nV N E=true)(iF:uQ opsA.toList cu=true){Fi:cU→Prop}{Q:Exit→Act→World→Prop}
 (dG:∀g dI w' M' β',Fi g→e0 P K N M' β' g dI w'→Q .normal ⟨dI,K.ds⟩ w'):
 ∀(n:Nat) (listed:Array Bool) (g:cU) (tmps:Array Value) (w:World) (M:Mem) (β:Nat→Option Nat),hT (gg P) tt opsA cu Fi n listed g→listed.size=opsA.size→lz opsA listed→pB cu listed g→e0 P K N M β g tmps w→wpAny P .any opsA Q n listed ⟨tmps,K.ds⟩ w
 | 0,_,g,tmps,w,M,β,h,_,_,_,hs=>⟨h.1,dG g tmps w M β h.2 hs⟩
 |n+1,listed,g,tmps,w,M,β,h,dK,ho,hD,hs=>by
  refine⟨λaj=>dG g tmps w M β (h.1 aj) hs,λi hi=>?_⟩
  obtain⟨o,E,aw,ch,x5,hn⟩:=h.2 i hi;have h_:=x5.resolve_left (by rw [hJ i E ch];simp)
  have cJ:i<listed.size:=by rw [dK];exact(Array.getElem?_eq_some_iff.1 aw).1
  have lA:listed.getD i false=false:=by have:=(mem_ready.1 hi).1;simpa [Array.getD_eq_getD_getElem?,cJ]using this
  have Cf:=KY (N:=N) (hJ i E ch) h_ ch (fU i o E aw ch) (cw i E ch) iF ho lA hD;have fw:e0 P K N M β {g with rs:=E.rs,a6:=[]} tmps w:=⟨hs.bj,hs.size,hs.fresh,hs.cond⟩;unfold wpOp;simp only [aw];refine uI fw b0 (opsA:=opsA) rfl Cf (λq aP=>?_) (λdI w' M' β' c8=>?_)
  ·obtain⟨q',mX,rfl⟩:=List.mem_map.1 aP;exact h_.a6 q' mX
  ·exact hT.sound b0 hJ fU cw iF dG n _ (dX E g) dI w' M' β' hn (by simpa using dK) (ho.set hi) (hD.ap ch cJ) ⟨c8.bj,c8.size,c8.fresh,c8.cond⟩
end
def findD(b5:fI)(tt:de)(ops:List Oper)(g:cU)(o:Oper)(rs:List eT):Option dS:=
 match mR ops g o with
 |none=>none
 |some p=>match step1 b5 tt ops {g with rs:=rs} p o with
  |some (.go f)=>some {dst:=o.dst,p,f,iw:=hr tt g p o,kU:=m7 ops o++p.map (·.1),m5:=nS o,rs,lx:=qZ o rs}
  |_=>none
def q0(b5:fI)(tt:de)(ops:List Oper):List Oper→List (List eT)→cU→Option (List dS×cU×List Prop)
 |[],[],g=>some ([],g,[])
 |o::l,rs::ia,g=>match findD b5 tt ops g o rs with
  |some E=>match q0 b5 tt ops l ia (dX E g) with
   |some (cu,eP,a6)=>some (E::cu,eP,a6++E.f.a6.map (under g E.p))
   |none=>none
  |none=>none
 |_,_,_=>none
def jv:List Oper→List dS→List (Oper×dS)
 |o::l,E::m=>(o,E)::jv l m
 |_,_=>[]
def x6(N:Nat)(ops:List Oper)(cu:List dS):Bool:=
 (jv ops cu).all (λx=>h' ops x.1 x.2)&&cu.all (nV N)&&uQ ops cu&&x1 ops 0 (jv ops cu)
section
variable {b5:fI} {tt:de} {ops:List Oper}
def KZ{Fi:cU→Prop}:∀{l:List Oper} {ia:List (List eT)} {g:cU} {cu:List dS} {eP:cU} {a6:List Prop},q0 b5 tt ops l ia g=some (cu,eP,a6)→(∀q,q∈a6→q)→Fi eP→
 cu.length=l.length∧(∀E,E∈cu→E.f0=0)∧x2 b5 tt ops Fi (jv l cu) g
 |[],[],g,cu,eP,a6,h,_,dg=>by
  simp only [q0,Option.some.injEq,Prod.mk.injEq]at h;obtain⟨rfl,rfl,rfl⟩:=h;exact⟨rfl,by simp,dg⟩
 |o::l,rs::ia,g,cu,eP,a6,h,cm,dg=>by
  simp only [q0]at h;split at h
  case h_2=>cases h
  rename_i E ch;split at h
  case h_2=>cases h
  rename_i q1 g1 x7 ab;simp only [Option.some.injEq,Prod.mk.injEq]at h;obtain⟨rfl,rfl,rfl⟩:=h;obtain⟨ah,Yd,ay⟩:=KZ ab (λq aP=>cm q (List.mem_append_left _ aP)) dg
  have Ye:E.f0=0:=by
   unfold findD at ch;split at ch
   ·cases ch
   split at ch
   ·cases ch;rfl
   ·cases ch
  refine⟨by simp [ah],λcW oJ=>?_,?_,ay⟩
  ·rcases List.mem_cons.1 oJ with rfl|oJ
   ·exact Ye
   ·exact Yd cW oJ
  have Cg:∀q,q∈E.f.a6→under g E.p q:=λq aP=>cm _ (List.mem_append_right _ (List.mem_map.2 ⟨q,aP,rfl⟩))
  unfold findD at ch;split at ch
  ·cases ch
  rename_i p hp;split at ch
  ·rename_i f b2;cases ch;exact .inr ⟨hp,b2,Cg,λ_ h=>h,λh=>by cases h⟩
  ·cases ch
 |[],_::_,_,_,_,_,h,_,_=>by simp [q0]at h
 |_::_,[],_,_,_,_,h,_,_=>by simp [q0]at h
def q2:∀{l:List Oper} {m:List dS},m.length=l.length→∀(j:Nat),((jv l m)[j]?).map (·.1)=l[j]? ∧ ((jv l m)[j]?).map (·.2)=m[j]?
 |[],[],_,j=>by simp [jv]
 |o::l,E::m,h,j=>by
  cases j with
  |zero=>simp [jv]
  |succ j=>simpa [jv]using q2 (by simpa using h) j
 |[],_::_,h,_=>by simp at h
 |_::_,[],h,_=>by simp at h
def Ch:∀{l:List Oper} {m:List dS},m.length=l.length→(jv l m).length=l.length
 |[],[],_=>rfl
 |_::l,_::m,h=>by simp [jv,Ch (l:=l) (m:=m) (by simpa using h)]
 |[],_::_,h=>by simp at h
 |_::_,[],h=>by simp at h
end
section
variable {P:Program} {N E:Nat} {st:aF} {tt:de}
def Alike.bj{K:Ctx}{M:Mem}{β:Nat→Option Nat}{g1 g2:cU}{tmps:Array Value}{w:World}(ha:Alike g1 g2)(h:bB P K M β {env:=g1.env,H:=g1.H,aT:=g1.aT} tmps w):bB P K M β {env:=g2.env,H:=g2.H,aT:=g2.aT} tmps w:=by
 have eQ:∀l,({env:=g2.env,H:=g2.H,aT:=g2.aT}:aF).at l=({env:=g1.env,H:=g1.H,aT:=g1.aT}:aF).at l:=by
  intro l;cases l with
  |slot s=>exact(ha.slot s).1.symm
  |cell r i=>simp only [aF.at];rw [←ha.box r]
 have hb:∀r,look g2.H r=look g1.H r:=λr=>(ha.box r).symm
 constructor
 ·intro l e ag;rw [eQ]at ag;exact h.ew l e ag
 ·intro l e T ag;rw [eQ]at ag;exact h.own l e T ag
 ·intro l cr e aZ T T' b ag aO cx;rw [eQ]at ag cx;exact h.uniq l cr e aZ T T' b ag aO cx
 ·intro l e T b r cs ag aO me aj;rw [eQ]at ag;exact h.unbox l e T b r cs ag aO me (by rw [←hb r];exact aj)
 ·intro r cs aj;exact h.box r cs (by rw [←hb r];exact aj)
 ·intro r ct b cs cs' aj eH;exact h.inj r ct b cs cs' (by rw [←hb r];exact aj) (by rw [←hb ct];exact eH)
 ·intro r b aj;exact(by have:=h.lt r b aj;simpa [ha.aT]using this)
 ·exact h.mem
 ·exact h.m0
 ·exact h.frame
 ·exact h.gN
 ·exact h.hB
 ·exact h.gn
def bB.drew{K:Ctx}{M:Mem}{β:Nat→Option Nat}{tmps:Array Value}{w:World}(h:bB P K M β st tmps w)(k:Nat):bB P K M β st tmps {w with drawn:=k}:=
 ⟨h.ew,h.own,h.uniq,h.unbox,h.box,h.inj,h.lt,h.mem,h.m0,h.frame,h.gN,h.hB,h.gn⟩
end
def a7.scope{P:Program}{N E:Nat}{c:Code}{Q:b8→aF→Prop}{st:aF}(h:a7 P N E c Q st):a7 P N E (.scope c) Q st:=by
 intro K dJ a w hs;refine wp_scope_straight (wp_mono (h K dJ a w hs) ?_)
 rintro e dr w' ⟨eB,bG,ab,ah⟩
 cases eB with
 |normal=>obtain⟨rfl,ay⟩:=ab;exact⟨.normal,bG,⟨rfl,ay⟩,ah⟩
 |exit i=>obtain⟨rfl,ay⟩:=ab;exact⟨.exit i,bG,⟨rfl,ay⟩,ah⟩
 |ret=>obtain⟨rfl,ay⟩:=ab;exact⟨.ret,bG,⟨rfl,ay⟩,ah⟩
 |bb x=>obtain⟨v,rfl,ay⟩:=ab;exact⟨.bb x,bG,⟨v,rfl,ay⟩,ah⟩
def jb.on{α β dj:Type}(x:α ⊕ β)(f:α→dj)(g:β→dj):dj:=
 match x with
 |.inl a=>f a
 |.inr b=>g b
def x8.on{α β dj:Type}(x:α×β)(f:α→β→dj):dj:=f x.1 x.2
def x9(P:Program)(w:World):Prop:=(∀g,g∈AJ P→∃e_,w.cell? ⟨g,0,none⟩=some e_∧(e_ = .nilIface∨∃b7 ou,e_ = .iface b7 ou))∧
 ∀ g, P.globalNamed "internal/strconv.uint64pow10" = some g → ∃ t iW, w.heap[g]? = some (.cells AK t iW)
section
variable {P:Program}
def bB.Yf{K:Ctx}{M:Mem}{β:Nat→Option Nat}{st:aF}{tmps:Array Value}{w:World}(h:bB P K M β st tmps w):x9 P w:=⟨λg hg=>by
 obtain⟨cs,t,iW,e_,ab,ah,ay⟩:=h.hB.1 g hg;refine⟨e_,?_,ay⟩
 have:=(h.frame g _ ab).1
 unfold World.cell?;rw [this];exact ah,λg hg=>by
 obtain⟨t,iW,ab⟩:=h.hB.2 g hg;exact⟨t,iW,(h.frame g _ ab).1⟩⟩
def K0 {f : FuncId} {args : List D} {vsOf : World → List Value → Prop} {d : D} {fd : Func} (kv : P.funcs[f]? = some fd) (hb : fd.body.isSome = true) (hn : decide (fd.name = "runtime.NumGoroutine") = false)
 (fA:∀(w:World) (M:Mem) (β:Nat→Option Nat) (vs:List Value),(∀b o v,M b o=some v→w.cell? ⟨b,o,none⟩=some v)→vs.length=args.length→(∀(i:Nat) v a,vs[i]? = some v→args[i]? = some a→ce M β v a)→vsOf w vs)
 (qR:∀(vs:List Value) (w:World),vsOf w vs→x9 P w→Calls P f ⟨vs⟩ w λe w'=>∃v,e = .returned v∧(∀M β,ce M β v d)∧(∀(b:Nat) (a6:Obj),w.heap[b]? = some a6→w'.heap[b]? = some a6)∧(w'.os,w'.output)=(w.os,w.output)):
 fP P f args [] [] (.ret d none) []:=by
 refine⟨⟨fd,kv,hb,by simpa using hn⟩,λK w vs M β hlen hs gb=>?_⟩
 have az:vsOf w vs:=fA w M β vs hs.mem hlen λi v a hi ha=>by
  have ab:=hs.ew (.slot i) ⟨a,none⟩ (by
   simp only [aF.at,gu,kR,uk,ha,Option.map_some,look])
  have ah:bZ (⟨vs⟩:Array Value) w β (.slot i)=v:=by
   simp [bZ,hi]
  rw [ah]at ab;exact ab
 refine(qR vs w az hs.Yf).mono ?_
 rintro e w' ⟨v,rfl,fi,nD,md⟩
 refine⟨.ret d none,[],v,M,β,⟨rfl,rfl⟩,rfl,?_⟩
 have gH:∀b o v,w.cell? ⟨b,o,none⟩=some v→w'.cell? ⟨b,o,none⟩=some v:=by
  intro b o v h;unfold World.cell? at h ⊢;cases hb:w.heap[b]? with
  |none=>simp [hb]at h
  |some a6=>rw [nD b a6 hb];rw [hb]at h;exact h
 constructor
 ·intro l e ag;cases l with
  |slot s=>
   simp only [aF.at,gx,dd]at ag;split at ag
   ·rename_i h0;subst h0;cases ag;exact fi M β
   ·simp [look]at ag
  |cell r i=>simp [aF.at,cH,look]at ag
 ·intro l e T ag aO;cases l with
  |slot s=>
   simp only [aF.at,gx,dd]at ag;split at ag
   ·cases ag;cases aO
   ·simp [look]at ag
  |cell r i=>simp [aF.at,cH,look]at ag
 ·intro l cr e aZ T T' b ag aO;cases l with
  |slot s=>
   simp only [aF.at,gx,dd]at ag;split at ag
   ·cases ag;cases aO
   ·simp [look]at ag
  |cell r i=>simp [aF.at,cH,look]at ag
 ·intro l e T b r cs ag aO hb aj;simp [cH,look]at aj
 ·intro r cs aj;simp [cH,look]at aj
 ·intro r ct b cs cs' aj;simp [cH,look]at aj
 ·exact hs.lt
 ·exact λb o v h=>gH b o v (hs.mem b o v h)
 ·exact hs.m0
 ·exact λb a6 h=>⟨nD b a6 (hs.frame b a6 h).1,(hs.frame b a6 h).2⟩
 ·exact hs.gN
 ·exact hs.hB
 ·exact md.trans hs.gn
def q3 {f : FuncId} {args : List D} {vsOf : List Value → Prop} {d : D} {fd : Func} (kv : P.funcs[f]? = some fd) (hb : fd.body.isSome = true) (hn : decide (fd.name = "runtime.NumGoroutine") = false)
 (fA:∀(M:Mem) (β:Nat→Option Nat) (vs:List Value),vs.length=args.length→(∀(i:Nat) v a,vs[i]? = some v→args[i]? = some a→ce M β v a)→vsOf vs)
 (qR:∀(vs:List Value) (w:World),vsOf vs→x9 P w→Calls P f ⟨vs⟩ w λe w'=>∃v,e = .returned v∧(∀M β,ce M β v d)∧(∀(b:Nat) (a6:Obj),w.heap[b]? = some a6→w'.heap[b]? = some a6)∧(w'.os,w'.output)=(w.os,w.output)):
 fP P f args [] [] (.ret d none) []:=
 K0 (vsOf:=λ_ vs=>vsOf vs) kv hb hn (λ_ M β vs _=>fA M β vs) qR
end
def q4(b5:fI)(tt:de)(N:Nat)(ops:List Oper)(rs:List eT)(st:aF):Option Fin:=
 match pd b5 tt N ops ops {env:=st.env,bN:=[],H:=st.H,aT:=st.aT,rs,a6:=[]} with
 |some (.go g)=>match g.rs with
  |[]=>some (.go {env:=g.env,H:=g.H,aT:=g.aT} g.a6)
  |_=>none
 |some (.bb x st a6)=>some (.bb x st a6)
 |none=>none
def q5:List Oper→Nat→List (Nat×Nat)
 |[],_=>[]
 |o::l,n=>match nS o,o.dst with
  |true,some t=>(t,n)::q5 l (n+1)
  |_,_=>q5 l n
def x'(ops:List Oper)(st:aF):cU:=
 {env:=st.env,bN:=[],H:=st.H,aT:=st.aT+(q5 ops st.aT).length,rs:=[],a6:=[],ids:=q5 ops st.aT}
def x_(b5:fI)(tt:de)(N:Nat)(ops:List Oper)(ia:List (List eT))(st:aF):Option Fin:=
 match q0 b5 tt ops ops ia (x' ops st) with
 |some (cu,g,a6)=>bif x6 N ops cu then some (.go {env:=g.env,H:=g.H,aT:=g.aT} a6)else none
 |none=>none
def ib:Option Fin→aF
 |some (.go st _)=>st
 |some (.bb _ st _)=>st
 |none=>{env:=[],H:=[],aT:=0}
def ke:Option Fin→Option (List Prop)
 |some (.go _ a6)=>some a6
 |_=>none
def Ci:Option Fin→Option (V×List Prop)
 |some (.bb x _ a6)=>some (x,a6)
 |_=>none
def spread:Nat→Nat→List (Nat×List eT)→List (List eT)
 | 0,_,_=>[]
 |n+1,i,l=>(look l i).getD []::spread n (i+1) l
def ya:∀(l:List Oper) (n:Nat) (x:Nat×Nat),x∈q5 l n→n≤x.2∧True
 |[],n,x,h=>by simp [q5]at h
 |o::l,n,x,h=>by
  unfold q5 at h;split at h
  ·rcases List.mem_cons.1 h with h|h
   ·subst h;exact⟨Nat.le_refl _,trivial⟩
   ·have:=(ya l (n+1) x h).1;exact⟨by omega,trivial⟩
  ·exact ya l n x h
def bB.up{P:Program}{K:Ctx}{M:Mem}{β:Nat→Option Nat}{st:aF}{tmps:Array Value}{w:World}(h:bB P K M β st tmps w)(k:Nat):bB P K M β {env:=st.env,H:=st.H,aT:=st.aT+k} tmps w:=
 ⟨h.ew,h.own,h.uniq,h.unbox,h.box,h.inj,(λr b hb=>Nat.lt_of_lt_of_le (h.lt r b hb) (Nat.le_add_right _ _)),h.mem,h.m0,h.frame,h.gN,h.hB,h.gn⟩
section
variable {P:Program} {N E:Nat} {st:aF} {tt:de}
def a7.rg{id:Nat}{opsA:Array Oper}{Q:b8→aF→Prop}(b0:eJ P tt=true)(rs:List eT){cp:List Prop}(aj:ke (q4 (gg P) tt N opsA.toList rs st)=some cp)(cm:i_ cp)
 (dG:Q .normal (ib (q4 (gg P) tt N opsA.toList rs st))):a7 P N E (.region id opsA false) Q st:=by
 rintro K dJ a w ⟨_,hd,dK,M,β,cD⟩
 obtain⟨tmps,ds⟩:=a;simp only at hd dK
 subst hd;have q6:e0 P K N M β {env:=st.env,bN:=[],H:=st.H,aT:=st.aT,rs:=rs,a6:=[]} tmps w:=⟨cD,dK,(λ_ _ h=>by simp [look]at h),λ_ _ _ h=>by simp [look]at h⟩
 refine wp_region ?_;unfold q4 at aj dG;have hlen:List.range opsA.size=List.range' 0 opsA.toList.length:=by rw [List.range_eq_range'];simp
 rw [hlen];split at aj
 ·rename_i g ec;split at aj
  case h_2=>cases aj
  rename_i d';simp only [ke,Option.some.injEq]at aj;subst aj;rw [ec]at dG;simp only [d',ib]at dG;refine B2 b0 rfl (fin:=.go g) cm.mem ?_ opsA.toList 0 _ tmps w M β (λj=>by simp) q6 ec
  intro dI w' M' β' c8;exact⟨.normal,_,⟨rfl,rfl,c8.size,M',β',c8.bj⟩,dG⟩
 ·cases aj
 ·cases aj
def a7.Cj{id:Nat}{opsA:Array Oper}{Q:b8→aF→Prop}(b0:eJ P tt=true)(rs:List eT){x:V}{cp:List Prop}(aj:Ci (q4 (gg P) tt N opsA.toList rs st)=some (x,cp))(cm:i_ cp)
 (dG:Q (.bb x) (ib (q4 (gg P) tt N opsA.toList rs st))):a7 P N E (.region id opsA false) Q st:=by
 rintro K dJ a w ⟨_,hd,dK,M,β,cD⟩
 obtain⟨tmps,ds⟩:=a;simp only at hd dK
 subst hd;have q6:e0 P K N M β {env:=st.env,bN:=[],H:=st.H,aT:=st.aT,rs:=rs,a6:=[]} tmps w:=⟨cD,dK,(λ_ _ h=>by simp [look]at h),λ_ _ _ h=>by simp [look]at h⟩
 refine wp_region ?_;unfold q4 at aj dG;have hlen:List.range opsA.size=List.range' 0 opsA.toList.length:=by rw [List.range_eq_range'];simp
 rw [hlen];split at aj
 ·split at aj<;>cases aj
 ·rename_i y bG a6 ec;simp only [Ci,Option.some.injEq,Prod.mk.injEq]at aj;obtain⟨rfl,rfl⟩:=aj;rw [ec]at dG;refine B2 b0 rfl (fin:=.bb y bG a6) cm.mem ?_ opsA.toList 0 _ tmps w M β (λj=>by simp) q6 ec
  intro e dr w' c8;exact⟨.bb y,_,c8,dG⟩
 ·cases aj
def a7.yb{id:Nat}{opsA:Array Oper}{Q:b8→aF→Prop}(b0:eJ P tt=true)(hm:P.follows .mixedOrders=true)(ia:List (Nat×List eT)){cp:List Prop}(aj:ke (x_ (gg P) tt N opsA.toList (spread opsA.toList.length 0 ia) st)=some cp)(cm:i_ cp)
 (dG:Q .normal (ib (x_ (gg P) tt N opsA.toList (spread opsA.toList.length 0 ia) st))):a7 P N E (.region id opsA true) Q st:=by
 rintro K dJ a w ⟨_,hd,dK,M,β,cD⟩
 obtain⟨tmps,ds⟩:=a;simp only at hd dK
 subst hd;refine wp_region_any hm ?_;unfold x_ at aj dG;split at aj
 case h_2=>cases aj
 rename_i cu g pu ec;rw [ec]at dG
 dsimp only at dG
 rw [Bool.cond_eq_ite]at aj dG;split at aj
 case isFalse=>cases aj
 rename_i hc;rw [if_pos hc]at dG;simp only [ke,Option.some.injEq]at aj;subst aj;simp only [ib]at dG;obtain⟨hlen,hJ,Ck⟩:=KZ (Fi:=λg1=>Alike g g1) ec cm.mem Alike.refl
 simp only [x6,Bool.and_eq_true]at hc;obtain⟨⟨⟨c1,c2⟩,c3⟩,c4⟩:=hc
 have fU:∀(i:Nat) o E,opsA[i]? = some o→cu[i]? = some E→h' opsA.toList o E=true:=by
  intro i o E aw ch;obtain⟨iI,z2⟩:=q2 hlen i;have iY:opsA.toList[i]? = some o:=by simpa using aw
  rw [iY]at iI;rw [ch]at z2;cases dQ:(jv opsA.toList cu)[i]? with
  |none=>rw [dQ]at iI;simp at iI
  |some x=>
   rw [dQ]at iI z2;simp at iI z2
   subst iI;subst z2;exact List.all_eq_true.1 c1 x (List.mem_of_getElem? dQ)
 have cw:∀(i:Nat) E,cu[i]? = some E→nV N E=true:=λi E ch=>List.all_eq_true.1 c2 E (List.mem_of_getElem? ch)
 have uR:lz opsA (Array.replicate opsA.size false):=λj o aw hj=>by have cJ:j<opsA.size:=(Array.getElem?_eq_some_iff.1 aw).1;simp [Array.getD_eq_getD_getElem?,cJ]at hj
 have uS:=hT.text fU (λg1 g2 Cl ab=>Alike.trans ab Cl) (jv opsA.toList cu) 0 (Array.replicate opsA.size false) _ (λj=>by have:=(q2 hlen j).1;simpa using this) (λj=>by have:=(q2 hlen j).2;simpa using this)
  ⟨by simp,λj hj=>by simp [hj]⟩ uR c4 Ck
 have qA:(jv opsA.toList cu).length=opsA.size:=by rw [Ch hlen];simp
 rw [qA]at uS;refine hT.sound (K:=K) b0 (λi E ch=>hJ E (List.mem_of_getElem? ch)) fU cw c3 ?_ _ _ _ tmps _ M β uS (by simp) uR (λx hx=>by cases hx) ⟨(cD.drew _).up _,dK,(λs id h _ b hb=>by have ab:=cD.lt _ _ hb;have ah:=(ya _ _ _ (ox h)).1;simp only at ah;omega),λ_ _ _ h=>by simp [x',look]at h⟩
 intro g1 dI w' M' β' Yg c8;exact⟨.normal,_,⟨rfl,rfl,c8.size,M',β',Alike.bj Yg.symm c8.bj⟩,dG⟩
def a7.Cm{α:Type}{b:Bool}{x y:Option α}{r:Option α}(h:(bif b then x else y)=r){c:Nat}{q7 q8:Code}{Q:b8→aF→Prop}(hc:(look st.env c).map (·.d)=some (.v (.bool b)))
 (cc:x=r→a7 P N E q7 Q st) (b2:y=r→a7 P N E q8 Q st):a7 P N E (.cond (.tmp c) q7 q8) Q st:=by
 simp only [Option.map_eq_some_iff]at hc;obtain⟨⟨d,own⟩,he,rfl⟩:=hc;exact a7.cond b own he (λhb=>cc (by subst hb;exact h)) (λhb=>b2 (by subst hb;exact h))
def a7.K1{c:Nat}{q7 q8:Code}{Q:b8→aF→Prop}(hc:(look st.env c).map (·.d)=some (.v (.bool true)))(cc:a7 P N E q7 Q st):a7 P N E (.cond (.tmp c) q7 q8) Q st:=by
 simp only [Option.map_eq_some_iff]at hc;obtain⟨⟨d,own⟩,he,rfl⟩:=hc;exact a7.cond true own he (λ_=>cc) (λhb=>by cases hb)
def a7.Cn{c:Nat}{q7 q8:Code}{Q:b8→aF→Prop}(hc:(look st.env c).map (·.d)=some (.v (.bool false)))(b2:a7 P N E q8 Q st):a7 P N E (.cond (.tmp c) q7 q8) Q st:=by
 simp only [Option.map_eq_some_iff]at hc;obtain⟨⟨d,own⟩,he,rfl⟩:=hc;exact a7.cond false own he (λhb=>by cases hb) (λ_=>b2)
end
def bA{P:Program}{f:FuncId}{args:List D}{dM:List (Nat×TypeId)}{H cn:List (List aR)}{out:Out}(_:fP P f args dM H out cn)(os:List Nat):eT:=.call out (some cn) os
def a_{P:Program}{f:FuncId}{args:List D}{dM:List (Nat×TypeId)}{H cn:List (List aR)}{out:Out}(_:fP P f args dM H out cn)(os:List Nat):eT:=.call out none os
def c_{c:Prop}{P:Program}{f:FuncId}{args:List D}{dM:List (Nat×TypeId)}{H cn:List (List aR)}{out:Out}(_:c→fP P f args dM H out cn):eT:=.call out none []
def sK{c c2:Prop}{P:Program}{f:FuncId}{args:List D}{dM:List (Nat×TypeId)}{H cn:List (List aR)}{out:Out}(_:c→c2→fP P f args dM H out cn):eT:=.call out none []
def f9{raw x:V}(_:f6 raw x):eT:=.val x
def ef{α:Type}[Inhabited α]{k:Nat}{e:α→V}(l:List α):f6 (.bz k l.length λi=>(l.map e).getD i .dV) (ad k e l):=XR rfl _ rfl
def oK(l:List Int):Bool:=l.all λx=>decide (0≤x)&&decide (x<256)
def jS(l:List Int):ahs:=l.map λx=>UInt8.ofNat x.toNat
def uT{l:List Int}(h:oK l=true):(jS l).length=l.length∧∀i,i<l.length→V.int .u8 (l.getD i default) = .int .u8 (((jS l).getD i 0).toNat:Int):=by
 refine⟨by simp [jS],λi hi=>?_⟩
 unfold oK at h;rw [List.all_eq_true]at h;have:=h l[i] (List.getElem_mem hi)
 simp only [Bool.and_eq_true,decide_eq_true_eq]at this;simp only [jS,List.getD,List.getElem?_map,List.getElem?_eq_getElem hi,Option.getD_some,Option.map_some,UInt8.toNat_ofNat'];rw [Nat.mod_eq_of_lt (by omega)]
 congr 1
 omega
def yc(T:TypeId):V→Option (Int×Int)
 |.iface t (.agg [.int .i64 a,.int .i64 b])=>bif Nat.beq t T then some (a,b)else none
 |_=>none
def K2{T:TypeId}{x:V}{r:Int×Int}(h:yc T x=some r):x = .iface T (.agg [.int .i64 r.1,.int .i64 r.2]):=by
 unfold yc at h;split at h
 ·rw [Bool.cond_eq_ite]at h;split at h
  ·rename_i hb;cases h;rw [Nat.beq_eq]at hb;subst hb;rfl
  ·cases h
 ·cases h
def q9(M:Mem):Option V→FrameMode→Prop
 |none,m=>m = .returning
 |some x,m=>∃v,m = .panicking [{v,recovered:=false}]∧cT M v x
def pC(P:Program)(fd:FuncId)(args:List D)(H:List (List aR))(x:Option V)(R:List (List aR)→Prop):Prop:=
 ∀(K:Ctx) (w:World) (vs:List Value) (M:Mem) (β:Nat→Option Nat) (mode:FrameMode),vs.length=args.length→
  bB P K M β {env:=gu args [],H:=cH 0 H,aT:=H.length} ⟨vs⟩ w→(∀r b,β r=some b→K.h5 r=some b)→q9 M x mode→
  CallsD P fd ⟨vs⟩ mode w λe kW w'=>∃v H' M' β',e = .returned v∧settle kW = .returning∧R H'∧bB P K M' β' {env:=gx (.ret (.b_ []) none),H:=cH 0 H',aT:=H.length} #[v] w'
section
variable {P:Program} {K:Ctx} {M:Mem} {β:Nat→Option Nat} {st:aF} {tmps:Array Value} {w:World} {tt:de}
def q9.Yh{x:Option V}{m:FrameMode}(h:q9 M x m):m ≠ .run:=by
 cases x with
 |none=>intro hm;rw [hm]at h;cases h
 |some x=>obtain⟨v,ab,_⟩:=h;intro hm;rw [hm]at ab;cases ab
def q9.mono{M':Mem}(cP:M.le M'){x:Option V}{m:FrameMode}(h:q9 M x m):q9 M' x m:=by
 cases x with
 |none=>exact h
 |some x=>obtain⟨v,ab,ah⟩:=h;exact⟨v,ab,ah.mono cP⟩
def nW(P:Program)(tt:de)(E:Nat)(rs:List ResultVar)(fd:FuncId)(ds:List D)(R:Out→List (List aR)→Prop)(x:Option V)(st:aF):Prop:=
 ∃(ρ:List Nat) (bs H1:List (List aR)) (h3:List D) (Co:List (List aR)→Prop),kL ρ=true∧boxes st.H ρ=some bs∧ij (idx ρ) bs=some H1∧jk (idx ρ) ds=some h3∧pC P fd h3 H1 x Co∧
  ∀cn,Co cn→∃g' o H',cn.length=ρ.length∧ij (λj=>ρ[j]?) cn=some g'∧Ab.leave tt E rs {env:=st.env,H:=jl ρ g'++st.H,aT:=st.aT}=some (o,H')∧R o (lw H')
def Cp{fn:Func}{E:Nat}(b0:eJ P tt=true)(dJ:∀r b,K.h5 r=some b→r<E)(hs:bB P K M β st tmps w){fd:FuncId}{ds:List D}{vs:List Value}(hlen:vs.length=ds.length)(az:∀(i:Nat) v d,vs[i]? = some v→ds[i]? = some d→ce M β v d)
 {x : Option V} {mode : FrameMode} (hm : q9 M x mode) {f : Func} (b2 : P.funcs[fd]? = some f) (hb : f.body.isSome = true) (h9 : decide (f.name = "runtime.NumGoroutine") = false) {R : Out → List (List aR) → Prop} (i' : nW P tt E fn.results.toList fd ds R x st) :
 Leaves P fn tmps (λe w'=>∃o H' v M' β',R o H'∧e=nH o v∧bB P K M' β' {env:=gx o,H:=cH 0 H',aT:=E} #[v] w') [{target:=.fn (.func fd) ⟨vs⟩,args := #[]}] mode w:=by
 obtain⟨ρ,bs,H1,h3,Co,hn,i8,ka,fA,hd,sF⟩:=i';have nO:f.body≠none:=by intro bu;rw [bu]at hb;cases hb
 have Yi : f.name ≠ "runtime.NumGoroutine" := by simpa using h9
 refine leaves_cons (f:=fd) (args:=⟨vs⟩) hm.Yh (by simp [invoke,callFunc,b2,nO,Yi]) ?_
 have hc:=JI (hd:=[]) hs hn i8 ka hlen az fA ⟨by simp,by simp,by simp⟩
 have fb:H1.length=ρ.length:=by rw [(ss ka).1,(qB i8).1]
 refine(hd (iG M β st tmps w ρ []) w vs M _ mode (by rw [hlen,J_ fA]) hc (λr b h=>h) hm).mono ?_
 rintro e kW w' ⟨v,H',M',β',rfl,hu,Yj,cD⟩
 obtain⟨g',o,K3,ab,ah,ay,bl⟩:=sF H' Yj;rw [fb]at cD;obtain⟨cP,Cq,_,_⟩:=BB hs hn i8 ah ab cD
 dsimp only
 rw [hu];obtain⟨v2,bQ,h8,M2,oL,df,fK⟩:=xO b0 dJ Cq ay;exact⟨v2,bQ,o,lw K3,h8,M2,oL,bl,df,fK.era⟩
def m_(P:Program)(_tt:de)(fn:Func)(E:Nat)(c:Code)(R:Out→List (List aR)→Prop)(st:aF):Prop:=
 ∀(K:Ctx),K.ds=[]→(∀r b,K.h5 r=some b→r<E)→∀(a:Act) (w:World),nR P K fn.ntmps .normal st .normal a w→
  c.wp P (bodyPostD P fn λe w'=>∃o H' v M' β',R o H'∧e=nH o v∧bB P K M' β' {env:=gx o,H:=cH 0 H',aT:=E} #[v] w') a w
def Cr(P:Program)(tt:de)(fn:Func)(E:Nat)(y:Code)(R:Out→List (List aR)→Prop):b8→aF→Prop
 |.normal,st=>m_ P tt fn E y R st
 |.ret,st=>∃o H',Ab.leave tt E fn.results.toList st=some (o,H')∧R o (lw H')
 |_,_=>False
def m_.seq{fn:Func}{E:Nat}{x y:Code}{R:Out→List (List aR)→Prop}(b0:eJ P tt=true)(h:a7 P fn.ntmps E x (Cr P tt fn E y R) st):m_ P tt fn E (.seq x y) R st:=by
 intro K gy dJ a w hs;refine wp_seq (wp_mono (h K dJ a w hs) ?_)
 rintro e dr w' ⟨eB,bG,ab,ah⟩
 cases eB with
 |normal=>obtain⟨rfl,ay⟩:=ab;exact ah K gy dJ dr w' ⟨rfl,ay⟩
 |ret=>
  obtain⟨rfl,hd,_,M',β',cD⟩:=ab;obtain⟨o,H',ay,bl⟩:=ah;obtain⟨v,bQ,h8,M2,oL,df,fK⟩:=xO b0 dJ cD ay;show Leaves P fn dr.tmps _ dr.defers .returning w'
  rw [hd,gy];exact⟨v,bQ,o,lw H',h8,M2,oL,bl,df,fK.era⟩
 |exit i=>exact ah.elim
 |bb x=>exact ah.elim
def Cs(P:Program)(tt:de)(E:Nat)(rs:List ResultVar)(fd:FuncId)(ds:List D)(R:Out→List (List aR)→Prop):b8→aF→Prop
 |.normal,st |.ret,st=>nW P tt E rs fd ds R none st
 |.bb x,st=>nW P tt E rs fd ds R (some x) st
 |.exit _,_=>False
def m_.defer{fn:Func}{E:Nat}{id:Nat}{opsA:Array Oper}{cF gI:Oper}{y:Code}{R:Out→List (List aR)→Prop}(b0:eJ P tt=true)(kT:opsA = #[cF,gI]){t:Nat}{fd:FuncId}{eO:Array Operand}{c:Call}
 (ab:cF.op = .makeFunc (.func fd) #[] eO) (ah:cF.dst=some t) (ay:cF.guard=none) (bl:gI.op = .defer c) (bQ:gI.dst=none) (df:gI.guard=none) (fK:c.callee = .value (.tmp t)) (hR:c.args = #[]) (cc:Nat.blt t fn.ntmps=true)
 {ds : List D} (Yk : mapM' (rd st.env [] [] tt 0) eO.toList = some ds) (_hE : Nat.ble E st.aT = true) {f : Func} (b2 : P.funcs[fd]? = some f) (hb : f.body.isSome = true) (h9 : decide (f.name = "runtime.NumGoroutine") = false)
 (gy:qc st.aT ds=true)
 (h:a7 P fn.ntmps st.aT y (Cs P tt E fn.results.toList fd ds R) {env:=del st.env t,H:=st.H,aT:=st.aT}):m_ P tt fn E (.seq (.region id opsA false) y) R st:=by
 rintro K Yl dJ a w ⟨_,hd,dK,M,β,cD⟩
 obtain⟨tmps,defers⟩:=a;simp only at hd dK
 rw [Yl]at hd;subst hd;have cJ:t<tmps.size:=by rw [dK];simpa using cc
 -- jM captured values
 obtain⟨fb,eI⟩:=pi Yk;have q6:e0 P K fn.ntmps M β {env:=st.env,bN:=[],H:=st.H,aT:=st.aT,rs:=[],a6:=[]} tmps w:=⟨cD,dK,(λ_ _ h=>by simp [look]at h),λ_ _ _ h=>by simp [look]at h⟩
 have kP:∀(i:Nat) v d,(eO.toList.map (⟨tmps,[]⟩:Act).eval)[i]? = some v→ds[i]? = some d→ce M β v d:=by
  intro i v d az hd;rw [List.getElem?_map,Option.map_eq_some_iff]at az;obtain⟨x,hx,rfl⟩:=az;exact dz (ds:=[]) (p:=[]) q6 (λx hx=>by cases hx) (eI i x d hx hd)
 have hlen:(eO.toList.map (⟨tmps,[]⟩:Act).eval).length=ds.length:=by simp at fb ⊢;omega
 -- jM frame behind jM region
 have na:bB P K M β {env:=del st.env t,H:=st.H,aT:=st.aT} (tmps.setIfInBounds t (.func (.func fd) #[] ⟨eO.toList.map (⟨tmps,[]⟩:Act).eval⟩)) w:=cD.drop
 let nX:Ctx:={qe:=M,F:=K.F,h5:=λr=>if r<st.aT then β r else none,gn:=K.gn,ds:=[{target:=.fn (.func fd) ⟨eO.toList.map (⟨tmps,[]⟩:Act).eval⟩,args := #[]}]}
 have Cq:bB P nX M β {env:=del st.env t,H:=st.H,aT:=st.aT} (tmps.setIfInBounds t (.func (.func fd) #[] ⟨eO.toList.map (⟨tmps,[]⟩:Act).eval⟩)) w:=
  ⟨na.ew,na.own,na.uniq,na.unbox,na.box,na.inj,na.lt,na.mem,Mem.le_refl _,(λb a6 dg=>⟨(na.frame b a6 dg).1,λ_=>rfl⟩),(λr b hb=>by
   simp only [nX]at hb;split at hb
   ·exact hb
   ·cases hb),na.hB,na.gn⟩
 have Ct:∀{M':Mem} {β':Nat→Option Nat} {bG:aF} {dI:Array Value} {w':World},bB P nX M' β' bG dI w'→bB P K M' β' bG dI w':=by
  intro M' β' bG dI w' c8
  exact⟨c8.ew,c8.own,c8.uniq,c8.unbox,c8.box,c8.inj,c8.lt,c8.mem,Mem.le_trans cD.m0 c8.m0,(λb a6 dg=>⟨(c8.frame b a6 dg).1,λo=>((c8.frame b a6 dg).2 o).trans ((cD.frame b a6 dg).2 o)⟩),(λr b hb=>c8.gN r b (by
   have sm:=cD.gN r b hb;have Ym:=cD.lt r b sm;simp only [nX];rw [if_pos Ym];exact sm)),c8.hB,c8.gn⟩
 have gb:∀{M':Mem} {β':Nat→Option Nat} {bG:aF} {dI:Array Value} {w':World},bB P nX M' β' bG dI w'→∀r,r<st.aT→∀b,β r=some b→β' r=some b:=λc8 r aj b hb=>c8.gN r b (by simp only [nX];rw [if_pos aj];exact hb)
 refine wp_seq (wp_region ?_);subst kT
 have e1:(execOp (Act.eval ⟨tmps,[]⟩) cF).run P w = .ok (.value (.func (.func fd) #[] ⟨eO.toList.map (⟨tmps,[]⟩:Act).eval⟩)) w:=by
  simp only [execOp,ab,Instr.makeFunc];refine hE _ ?_;simp
  congr 1
  apply Array.ext';simp
 have e2:(execOp (Act.eval ⟨tmps.setIfInBounds t (.func (.func fd) #[] ⟨eO.toList.map (⟨tmps,[]⟩:Act).eval⟩),[]⟩) gI).run P w = .ok (.defer {target:=.fn (.func fd) ⟨eO.toList.map (⟨tmps,[]⟩:Act).eval⟩,args := #[]}) w:=by
  simp [execOp,bl,resolve,fK,hR,Deferred.ofValue,Act.eval,cJ]
 show wpOps P #[cF,gI] _ (List.range 2) ⟨tmps,[]⟩ w
 simp only [List.range,List.range.loop,wpOps];have Cu:∀iJ,Region.wanted cF (yielded #[cF,gI] iJ)=true:=λiJ=>by simp [Region.wanted,ay]
 have Cv:∀iJ,Region.wanted gI (yielded #[cF,gI] iJ)=true:=λiJ=>by simp [Region.wanted,df]
 simp only [show(#[cF,gI]:Array Oper)[0]? = some cF from rfl,show(#[cF,gI]:Array Oper)[1]? = some gI from rfl,Cu,Cv,if_true]
 refine .inl ?_;unfold Oper.wp;rw [e1,Oper.upon_value,ah];refine .inl ?_;have Yn:(execOp ((⟨tmps,[]⟩:Act).put (some t) (.func (.func fd) #[] ⟨eO.toList.map (⟨tmps,[]⟩:Act).eval⟩)).eval gI).run P w = .ok (.defer {target:=.fn (.func fd) ⟨eO.toList.map (⟨tmps,[]⟩:Act).eval⟩,args := #[]}) w:=e2;rw [Yn,Oper.upon_defer,bQ];show y.wp P _ ⟨tmps.setIfInBounds t _,[_]⟩ w
 have oJ:∀r b,nX.h5 r=some b→r<st.aT:=by
  intro r b hb;simp only [nX]at hb;split at hb
  ·assumption
  ·cases hb
 refine wp_mono (h nX oJ _ w ⟨rfl,rfl,by simpa using dK,M,β,Cq⟩) ?_
 rintro e dr w' ⟨eB,bG,g1,g2⟩
 have mm:∀{M':Mem} {β':Nat→Option Nat} {bG:aF} {dI:Array Value} {w':World},bB P nX M' β' bG dI w'→∀(i:Nat) v d,(eO.toList.map (⟨tmps,[]⟩:Act).eval)[i]? = some v→ds[i]? = some d→ce M' β' v d:=by
  intro M' β' bG dI w' c8 i v d az hd;have cP:M.le M':=c8.m0;exact((kP i v d az hd).mono cP).Vm (λr aj b hb=>gb c8 r aj b hb) (pe gy hd)
 cases eB with
 |normal=>
  obtain⟨rfl,hd,_,M',β',hs⟩:=g1;show Leaves P fn dr.tmps _ dr.defers .returning w'
  rw [hd];exact Cp b0 dJ (Ct hs) hlen (mm hs) (x:=none) rfl b2 hb h9 g2
 |ret=>
  obtain⟨rfl,hd,_,M',β',hs⟩:=g1;show Leaves P fn dr.tmps _ dr.defers .returning w'
  rw [hd];exact Cp b0 dJ (Ct hs) hlen (mm hs) (x:=none) rfl b2 hb h9 g2
 |exit i=>exact g2.elim
 |bb x=>
  obtain⟨v,rfl,hd,M',β',fi,hs⟩:=g1;show Leaves P fn dr.tmps _ dr.defers (.panicking _) w'
  rw [hd];exact Cp b0 dJ (Ct hs) hlen (mm hs) (x:=some x) ⟨v,rfl,fi⟩ b2 hb h9 g2
def nI.Yo {f : FuncId} {fn : Func} {c : Code} {args : List D} {dM : List (Nat × TypeId)} {H : List (List aR)} {R : Out → List (List aR) → Prop} (b2 : P.funcs[f]? = some fn) (hb : fn.body = some c) (h9 : decide (fn.name = "runtime.NumGoroutine") = false)
 (fA:Nat.ble args.length fn.ntmps=true) (h:m_ P tt fn H.length c R {env:=gu args dM,H:=cH 0 H,aT:=H.length}):nI P f args dM H R:=by
 refine⟨⟨fn,b2,by rw [hb];rfl,by simpa using h9⟩,?_⟩
 intro cz w vs M β hlen B5 B6
 suffices key:∀K:Ctx,K.ds=[]→bB P K M β {env:=gu args dM,H:=cH 0 H,aT:=H.length} ⟨vs⟩ w→(∀r b,β r=some b→K.h5 r=some b)→
  Calls P f ⟨vs⟩ w λe w'=>∃o H' v M' β',R o H'∧e=nH o v∧bB P K M' β' {env:=gx o,H:=cH 0 H',aT:=H.length} #[v] w' from
  (key {cz with ds:=[]} rfl (B5.qT []) B6).mono λe w' ⟨o,H',v,M',β',ab,ah,ay⟩=>⟨o,H',v,M',β',ab,ah,ay.qT cz.ds⟩
 intro K gy cD gb;have dJ:∀r b,K.h5 r=some b→r<H.length:=λr b hb=>cD.lt r b (cD.gN r b hb)
 simp only [Nat.ble_eq]at fA;exact calls_of_wp_defers b2 hb (h K gy dJ {tmps:=(⟨vs⟩:Array Value)++Array.replicate (fn.ntmps-(⟨vs⟩:Array Value).size) undef,defers:=[]} w ⟨rfl,gy.symm,by simp;omega,M,β,B4 hlen cD⟩)
def pC.K4{fd:FuncId}{fn:Func}{i0:Nat}{opsA:Array Oper}{cF gI:Oper}{rest:Code}{r t2:Nat}{c:Call}(b0:eJ P tt=true)(b2:P.funcs[fd]? = some fn)(hb:fn.body=some (.seq (.region i0 opsA false) rest))(kT:opsA = #[cF,gI])
 (ab:cF.op = .call c) (ah:cF.dst=some r) (ay:cF.guard=none) (bl:c.callee = .builtin .recover) (bQ:c.args = #[]) (df:gI.op = .assign (.tmp r)) (fK:gI.dst=some t2) (hR:gI.guard=none)
 {args:List D} {H:List (List aR)} {x:Option V} {R:List (List aR)→Prop} (aj:Nat.blt r fn.ntmps=true) (uH:Nat.blt t2 fn.ntmps=true) (fA:Nat.ble args.length fn.ntmps=true)
 (h:a7 P fn.ntmps H.length rest (oH tt H.length fn.results.toList λo H'=>o = .ret (.b_ []) none∧R H') {env:=(t2,{d:=.v (x.getD .gM)})::del (gu args []) r,H:=cH 0 H,aT:=H.length}):pC P fd args H x R:=by
 intro K w vs M β mode hlen cD gb hm;have dJ:∀r b,K.h5 r=some b→r<H.length:=λr b hb=>cD.lt r b (cD.gN r b hb)
 simp only [Nat.ble_eq]at fA;simp only [Nat.blt_eq]at aj uH;refine callsD_of_wpS b2 hb λpD cs hu=>?_
 apply wpS_seq;apply wpS_region;subst kT;have Cu:∀iJ,Region.wanted cF (yielded #[cF,gI] iJ)=true:=λiJ=>by simp [Region.wanted,ay]
 have Cv:∀iJ,Region.wanted gI (yielded #[cF,gI] iJ)=true:=λiJ=>by simp [Region.wanted,hR]
 have e1:∀a:Act,(execOp a.eval cF).run P w = .ok .recover w:=λa=>by
  simp [execOp,ab,resolve,bl,bQ,invoke,builtin]
 have ev:=B4 (n:=fn.ntmps-(⟨vs⟩:Array Value).size) hlen cD
 -- xl 'recover' Xj
 have key:∃(v:Value) (kW:FrameMode),cT M v (x.getD .gM)∧settle kW = .returning∧(recoverD (pD::cs)=some (v,{pD with mode:=kW}::cs)∨(recoverD (pD::cs)=none∧v = .nilIface∧({pD with mode:=kW}:Frame)=pD)):=by
  cases x with
  |none=>
   have iv:mode = .returning:=hm;subst iv;exact⟨.nilIface,.returning,.gM,rfl,.inr ⟨by simp [recoverD,hu],rfl,by rw [←hu]⟩⟩
  |some y=>
   obtain⟨v,iv,az⟩:=hm;subst iv;exact⟨v,.panicking [{v,recovered:=true}],az,by simp [settle],.inl (by simp [recoverD,hu])⟩
 obtain⟨v,kW,az,jp,uU⟩:=key;show wpOpsS P #[cF,gI] _ (List.range 2) _ (pD::cs) w
 simp only [List.range,List.range.loop,wpOpsS,show(#[cF,gI]:Array Oper)[0]? = some cF from rfl,show(#[cF,gI]:Array Oper)[1]? = some gI from rfl,Cu,Cv,if_true,e1]
 have e2:∀iJ:Array Value,r<iJ.size→(execOp (Act.eval ⟨iJ.setIfInBounds r v,[]⟩) gI).run P w = .ok (.value v) w:=λiJ cc=>by
  simp [execOp,df,Act.eval,cc]
 have dK:((⟨vs⟩:Array Value)++Array.replicate (fn.ntmps-(⟨vs⟩:Array Value).size) undef).size=fn.ntmps:=by simp;omega
 generalize af0:(⟨vs⟩:Array Value)++Array.replicate (fn.ntmps-(⟨vs⟩:Array Value).size) undef=iJ at ev dK
 have i':∀cs',cs'={pD with mode:=kW}::cs→rest.wpS P (bodyPostS P fn pD cs λe kW w'=>∃v H' M' β',e = .returned v∧settle kW = .returning∧R H'∧bB P K M' β' {env:=gx (.ret (.b_ []) none),H:=cH 0 H',aT:=H.length} #[v] w')
  ⟨(iJ.setIfInBounds r v).setIfInBounds t2 v,[]⟩ cs' w:=by
  intro cs' dE
  have Yp:bB P {K with ds:=[]} M β {env:=(t2,{d:=.v (x.getD .gM)})::del (gu args []) r,H:=cH 0 H,aT:=H.length} ((iJ.setIfInBounds r v).setIfInBounds t2 v) w:=
   ((ev.drop (t:=r) (v:=v)).put (t:=t2) (v:=v) (e:={d:=.v (x.getD .gM)}) (by rw [Array.size_setIfInBounds,dK];exact uH) (.v _ _ az) (λT aO=>by cases aO)).qT []
  refine wpS_of_wp (wp_mono (h {K with ds:=[]} dJ _ w ⟨rfl,rfl,by simpa using dK,M,β,Yp⟩) ?_)
  rintro e dr w' ⟨eB,bG,g1,g2⟩
  cases eB with
  |normal=>
   obtain⟨rfl,hd,_,M',β',hs⟩:=g1;obtain⟨o,H',g3,rfl,g4⟩:=g2;obtain⟨v2,g5,h8,M2,oL,g6,g7⟩:=KB b0 (K:={K with ds:=[]}) dJ hs g3;cases g6;exact⟨hd,kW,dE,v2,g5,v2,H',M2,oL,rfl,jp,g4,g7.qT K.ds⟩
  |ret=>
   obtain⟨rfl,hd,_,M',β',hs⟩:=g1;obtain⟨o,H',g3,rfl,g4⟩:=g2;obtain⟨v2,g5,h8,M2,oL,g6,g7⟩:=KB b0 (K:={K with ds:=[]}) dJ hs g3;cases g6;exact⟨hd,kW,dE,v2,g5,v2,H',M2,oL,rfl,jp,g4,g7.qT K.ds⟩
  |exit i=>exact g2.elim
  |bb y=>
   obtain⟨H',_,g4,_⟩:=g2;cases g4
 have e3:(execOp ((({tmps:=iJ,defers:=[]}:Act).put cF.dst v).eval) gI).run P w = .ok (.value v) w:=by
  rw [ah];exact e2 iJ (by omega)
 rcases uU with uU|⟨uU,rfl,hc0⟩
 ·simp only [uU,e3];rw [Oper.upon_value,ah,fK];exact i' _ rfl
 ·simp only [uU,e3];rw [Oper.upon_value,ah,fK];exact i' _ (by rw [hc0])
end
def nb(H:List (Nat×List aR)):Nat→List (Nat×List aR)
 | 0=>[]
 |n+1=>match look H n with
  |some cs=>(n,cs)::nb H n
  |none=>nb H n
def Cw{H:List (Nat×List aR)}:∀{n q:Nat} {cs:List aR},look (nb H n) q=some cs→q<n∧look H q=some cs
 | 0,q,cs,h=>by simp [nb,look]at h
 |n+1,q,cs,h=>by
  unfold nb at h;split at h
  ·rename_i c hc;rw [dd]at h;split at h
   ·rename_i aP;subst aP;cases h;exact⟨by omega,hc⟩
   ·obtain⟨ab,ah⟩:=Cw h;exact⟨by omega,ah⟩
  ·obtain⟨ab,ah⟩:=Cw h;exact⟨by omega,ah⟩
def K5(mk:Nat)(ops:List Oper)(o:Oper)(x:V)(hs:List (Nat×List aR))(a6:List Prop)(iw:List Nat)(rs:List eT)(px:List (Nat×List aR)):dS:=
 {dst:=o.dst,p:=[],f:={e:=none,rs:=[],hs:=[(mk,[])],a6},iw,kU:=m7 ops o,m5:=nS o,rs,f0:=1,qU:=x,m6:=hs,px}
def K6(ops:List Oper)(o:Oper):dS:=
 {dst:=o.dst,p:=[],f:={e:=none,rs:=[]},iw:=[],kU:=m7 ops o,m5:=nS o,rs:=[],f0:=2}
def oM(b5:fI)(tt:de)(ops:List Oper)(fB mk:Nat):Nat→List Oper→List (List eT)→cU→Option (List dS×cU×List Prop×List (V×List (Nat×List aR)))
 |_,[],[],g=>some ([],g,[],[])
 |i,o::l,rs::ia,g=>bif Nat.beq i fB then match mR ops g o with
  |some []=>match step1 b5 tt ops {g with rs:=rs} [] o with
   |some (.bb x hs a6)=>match oM b5 tt ops fB mk (i+1) l ia (dX (K5 mk ops o x hs a6 (hr tt g [] o++List.range mk) rs g.H) g) with
    |some (cu,eP,pu,xs)=>some (K5 mk ops o x hs a6 (hr tt g [] o++List.range mk) rs g.H::cu,eP,pu++a6,(x,hs++nb g.H mk)::xs)
    |none=>none
   |_=>none
  |_=>none
  else bif waits ops fB 3 i then match oM b5 tt ops fB mk (i+1) l ia (dX (K6 ops o) g) with
   |some (cu,eP,pu,xs)=>some (K6 ops o::cu,eP,pu,xs)
   |none=>none
  else match findD b5 tt ops g o rs with
   |some E=>bif E.f.hs.all (λy=>!Nat.beq y.1 mk)then match oM b5 tt ops fB mk (i+1) l ia (dX E g) with
    |some (cu,eP,pu,xs)=>some (E::cu,eP,pu++E.f.a6.map (under g E.p),xs)
    |none=>none
    else none
   |none=>none
 |_,_,_,_=>none
def uV(b5:fI)(tt:de)(N:Nat)(ops:List Oper)(fB mk:Nat)(ia:List (List eT))(st:aF):Option (V×List (Nat×List aR)×List Prop):=
 match oM b5 tt ops fB mk 0 ops ia (x' ops st) with
 |some (cu,g,a6,[(x,hs)])=>bif x6 N ops cu&&(look g.H mk).isSome&&(look st.H mk).isNone then some (x,hs,a6)else none
 |_=>none
def Cx:Option (V×List (Nat×List aR)×List Prop)→Option (V×List Prop)
 |some (x,_,cp)=>some (x,cp)
 |none=>none
def Cy:Option (V×List (Nat×List aR)×List Prop)→List (Nat×List aR)
 |some (_,H,_)=>H
 |none=>[]
section
variable {P:Program} {K:Ctx} {N E:Nat} {st:aF} {tt:de} {opsA:Array Oper} {b5:fI}
structure K7(opsA:Array Oper)(cu:List dS)(fB mk:Nat)(x:V)(hs:List (Nat×List aR)):Prop where
 dead:∀(i:Nat) E,cu[i]? = some E→E.f0=2→waits opsA.toList fB 3 i=true
 bb:∀(i:Nat) E,cu[i]? = some E→E.f0=1→E.p=[]∧E.qU=x∧E.m6++nb E.px mk=hs∧∀q,q<mk→q∈E.iw
 go:∀(i:Nat) E,cu[i]? = some E→E.f0=0→i≠fB∧(E.f.hs.all (λy=>!Nat.beq y.1 mk))=true
 f0:∀(i:Nat) E,cu[i]? = some E→E.f0=0∨E.f0=1∨E.f0=2
def Yq{listed:Array Bool}(ho:lz opsA listed){i fB:Nat}(hi:i∈Region.ready .any opsA listed){n:Nat}(hw:waits opsA.toList fB n i=true):listed.getD fB false=true:=by
 cases n with
 |zero=>simp [waits]at hw
 |succ n=>
  obtain⟨_,o,aw,mi⟩:=mem_ready.1 hi;rw [waits]at hw;have ag:opsA.toList[i]? = some o:=by simpa using aw
  simp only [ag]at hw;obtain⟨e,he,hb⟩:=List.any_eq_true.1 hw;simp only [Bool.and_eq_true,Bool.or_eq_true,Nat.beq_eq]at hb;have ab:=mi e (by simpa using he) hb.1
  rcases hb.2 with rfl|ah
  ·exact ab
  ·exact xY ho ah ab
def Cz{mk:Nat}:∀{l H:List (Nat×List aR)},(l.all λy=>!Nat.beq y.1 mk)=true→look H mk=none→look (l++H) mk=none
 |[],_,_,h=>h
 |(a,b)::l,H,ag,h=>by
  simp only [List.all_cons,Bool.and_eq_true,Bool.not_eq_true']at ag;rw [List.cons_append,dd];have:a≠mk:=by intro e;subst e;simp at ag
  rw [if_neg this];exact Cz ag.2 h
def Yr{E:dS}{g:cU}{mk:Nat}(h:(E.f.hs.all λy=>!Nat.beq y.1 mk)=true)(hg:look g.H mk=none):look (dX E g).H mk=none:=by
 unfold dX;cases E.dst with
 |none=>exact Cz h hg
 |some t=>
  cases E.p with
  |nil=>exact Cz h hg
  |cons x p=>dsimp only;cases E.f.e<;>exact hg
def hT.K8(b0:eJ P tt=true){cu:List dS}{fB mk:Nat}{x:V}{hs:List (Nat×List aR)}(lv:K7 opsA cu fB mk x hs)(fU:∀(i:Nat) o E,opsA[i]? = some o→cu[i]? = some E→h' opsA.toList o E=true)(cw:∀(i:Nat) E,cu[i]? = some E→nV N E=true)(iF:uQ opsA.toList cu=true){Q:Exit→Act→World→Prop}
 (dG:∀n e dr w',nR P K N (.bb x) {env:=[],H:=hs,aT:=n} e dr w'→Q e dr w'):
 ∀(n:Nat) (listed:Array Bool) (g:cU) (tmps:Array Value) (w:World) (M:Mem) (β:Nat→Option Nat),hT (gg P) tt opsA cu (λg=>(look g.H mk).isSome=true) n listed g→listed.size=opsA.size→lz opsA listed→pB cu listed g→listed.getD fB false=false→look g.H mk=none→e0 P K N M β g tmps w→wpAny P .any opsA Q n listed ⟨tmps,K.ds⟩ w
 | 0,_,g,tmps,w,M,β,h,_,_,_,_,eb,_=>by have:(look g.H mk).isSome=true:=h.2;rw [eb]at this;cases this
 |n+1,listed,g,tmps,w,M,β,h,dK,ho,hD,K9,eb,fw=>by
  refine⟨(λaj=>by have:(look g.H mk).isSome=true:=h.1 aj;rw [eb]at this;cases this),λi hi=>?_⟩
  obtain⟨o,E,aw,ch,x5,hn⟩:=h.2 i hi;have cJ:i<listed.size:=by rw [dK];exact(Array.getElem?_eq_some_iff.1 aw).1
  have lA:listed.getD i false=false:=by have:=(mem_ready.1 hi).1;simpa [Array.getD_eq_getD_getElem?,cJ]using this
  have oF:e0 P K N M β {g with rs:=E.rs,a6:=[]} tmps w:=⟨fw.bj,fw.size,fw.fresh,fw.cond⟩;unfold wpOp;simp only [aw];rcases lv.f0 i E ch with hk|hk|hk
  ·have h_:=x5.resolve_left (by rw [hk];simp)
   obtain⟨yd,qQ⟩:=lv.go i E ch hk;have Cf:=KY (N:=N) hk h_ ch (fU i o E aw ch) (cw i E ch) iF ho lA hD;refine uI oF b0 (opsA:=opsA) rfl Cf (λq aP=>?_) (λdI w' M' β' c8=>?_)
   ·obtain⟨q',mX,rfl⟩:=List.mem_map.1 aP;exact h_.a6 q' mX
   ·exact hT.K8 b0 lv fU cw iF dG n _ (dX E g) dI w' M' β' hn (by simpa using dK) (ho.set hi) (hD.ap ch cJ) (by rw [getD_set_ne false yd];exact K9) (Yr qQ eb) ⟨c8.bj,c8.size,c8.fresh,c8.cond⟩
  ·have h_:=x5.resolve_left (by rw [hk];simp)
   obtain⟨hp,hx,Ys,mt⟩:=lv.bb i E ch hk
   have ev:step1 (gg P) tt opsA.toList {g with rs:=E.rs,a6:=[]} [] o=some (.bb x E.m6 E.f.a6):=by
    have ab:=h_.st;rw [hk,hp,hx]at ab;refine Eq.trans ?_ ab;exact Ca (g1:={g with rs:=E.rs,a6:=[]}) (g2:={g with rs:=E.rs}) (λ_ _ _ _=>⟨rfl,rfl⟩) rfl rfl (λ_=>rfl) (λ_ _=>rfl)
   have CA:mR opsA.toList {g with rs:=E.rs,a6:=[]} o=some []:=by rw [←hp];exact h_.xU
   have Yt:ik (gg P) tt N opsA.toList {g with rs:=E.rs,a6:=[]} o=some (.bb x {env:=mQ g.env,H:=E.m6++g.H,aT:=g.aT} (E.f.a6++[])):=by
    unfold ik;rw [CA]
    dsimp only
    rw [ev];rfl
   refine Kp oF b0 (opsA:=opsA) rfl Yt (λq aP=>?_) (λe dr w' oJ=>?_)
   ·rw [List.append_nil]at aP;have:=h_.a6 q aP
    rw [hp]at this;exact this
   ·obtain⟨v,ab,ah,qt,oz,ay,bl⟩:=oJ;have i':=h_.fin hk
    have jP:∀q cs,look hs q=some cs→look (E.m6++g.H) q=some cs:=by
     intro q cs aP;rw [←Ys,sH]at aP;rw [sH];cases ag:look E.m6 q with
     |some c=>rw [ag]at aP;exact aP
     |none=>
      rw [ag]at aP;obtain⟨bQ,df⟩:=Cw aP;rw [←df];exact i' q (mt q bQ)
    refine dG g.aT e dr w' ⟨v,ab,ah,qt,oz,ay,(bl.uF _).sub rfl (λl aZ ag=>?_) (λq cs aP=>⟨cs,jP q cs aP,rfl⟩)⟩
    cases l with
    |slot s=>simp [aF.at,look]at ag
    |cell q i=>
     simp only [aF.at]at ag ⊢;cases aP:look hs q with
     |none=>rw [aP]at ag;simp at ag
     |some cs=>
      rw [aP]at ag;rw [jP q cs aP];exact⟨aZ,ag,rfl,λ_ h=>h⟩
  ·have:=Yq ho hi (lv.dead i E ch hk)
   rw [K9]at this;cases this
def ye{ops:List Oper}{fB mk:Nat}{Fi:cU→Prop}:∀{l:List Oper} {i:Nat} {ia:List (List eT)} {g:cU} {cu:List dS} {eP:cU} {a6:List Prop} {xs:List (V×List (Nat×List aR))},oM b5 tt ops fB mk i l ia g=some (cu,eP,a6,xs)→(∀q,q∈a6→q)→Fi eP→
 cu.length=l.length∧x2 b5 tt ops Fi (jv l cu) g∧
 (∀(j:Nat) E,cu[j]? = some E→(E.f0=0∧i+j≠fB∧(E.f.hs.all (λy=>!Nat.beq y.1 mk))=true)∨(E.f0=1∧E.p=[]∧(E.qU,E.m6++nb E.px mk)∈xs∧∀q,q<mk→q∈E.iw)∨(E.f0=2∧waits ops fB 3 (i+j)=true))
 |[],i,[],g,cu,eP,a6,xs,h,_,dg=>by
  simp only [oM,Option.some.injEq,Prod.mk.injEq]at h;obtain⟨rfl,rfl,rfl,rfl⟩:=h;exact⟨rfl,dg,by simp⟩
 |[],_,_::_,_,_,_,_,_,h,_,_=>by simp [oM]at h
 |_::_,_,[],_,_,_,_,_,h,_,_=>by simp [oM]at h
 |o::l,i,rs::ia,g,cu,eP,a6,xs,h,cm,dg=>by
  have next:∀{E:dS} {q1:List dS} {sL:List (V×List (Nat×List aR))},(∀(j:Nat) E,q1[j]? = some E→(E.f0=0∧i+1+j≠fB∧(E.f.hs.all (λy=>!Nat.beq y.1 mk))=true)∨(E.f0=1∧E.p=[]∧(E.qU,E.m6++nb E.px mk)∈sL∧∀q,q<mk→q∈E.iw)∨(E.f0=2∧waits ops fB 3 (i+1+j)=true))→(∀z,z∈sL→z∈xs)→
   ((E.f0=0∧i≠fB∧(E.f.hs.all (λy=>!Nat.beq y.1 mk))=true)∨(E.f0=1∧E.p=[]∧(E.qU,E.m6++nb E.px mk)∈xs∧∀q,q<mk→q∈E.iw)∨(E.f0=2∧waits ops fB 3 i=true))→
   ∀(j:Nat) cW,(E::q1)[j]? = some cW→(cW.f0=0∧i+j≠fB∧(cW.f.hs.all (λy=>!Nat.beq y.1 mk))=true)∨(cW.f0=1∧cW.p=[]∧(cW.qU,cW.m6++nb cW.px mk)∈xs∧∀q,q<mk→q∈cW.iw)∨(cW.f0=2∧waits ops fB 3 (i+j)=true):=by
   intro E q1 sL ab hx ah j cW hj;cases j with
   |zero=>simp at hj;subst hj;exact ah
   |succ j=>
    have:=ab j cW (by simpa using hj)
    rw [show i+1+j=i+(j+1)by omega]at this
    rcases this with ay|⟨ay,bl,bQ,df⟩|ay
    ·exact .inl ay
    ·exact .inr (.inl ⟨ay,bl,hx _ bQ,df⟩)
    ·exact .inr (.inr ay)
  simp only [oM]at h;rw [Bool.cond_eq_ite]at h;split at h
  ·rename_i yd;split at h
   case h_2=>cases h
   rename_i CA;split at h
   case h_2=>cases h
   rename_i x hs x7 ev;split at h
   case h_2=>cases h
   rename_i q1 g1 K' sL ab;simp only [Option.some.injEq,Prod.mk.injEq]at h;obtain⟨rfl,rfl,rfl,rfl⟩:=h;obtain⟨ah,ay,bl⟩:=ye ab (λq aP=>cm q (List.mem_append_left _ aP)) dg
   refine⟨by simp [ah],⟨.inr ⟨CA,ev,(λq aP=>cm q (List.mem_append_right _ aP)),(λq aP=>List.mem_append_left _ aP),λ_ q _=>rfl⟩,ay⟩,next bl (λz dQ=>List.mem_cons_of_mem _ dQ) (.inr (.inl ⟨rfl,rfl,List.mem_cons_self ..,λq aP=>List.mem_append_right _ (List.mem_range.2 aP)⟩))⟩
  ·rename_i yd;rw [Bool.cond_eq_ite]at h;split at h
   ·rename_i hw;split at h
    case h_2=>cases h
    rename_i q1 g1 K' sL ab;simp only [Option.some.injEq,Prod.mk.injEq]at h;obtain⟨rfl,rfl,rfl,rfl⟩:=h;obtain⟨ah,ay,bl⟩:=ye ab cm dg;exact⟨by simp [ah],⟨.inl rfl,ay⟩,next bl (λz dQ=>dQ) (.inr (.inr ⟨rfl,hw⟩))⟩
   ·split at h
    case h_2=>cases h
    rename_i E ch;rw [Bool.cond_eq_ite]at h;split at h
    case isFalse=>cases h
    rename_i mS;split at h
    case h_2=>cases h
    rename_i q1 g1 K' sL ab;simp only [Option.some.injEq,Prod.mk.injEq]at h;obtain⟨rfl,rfl,rfl,rfl⟩:=h;obtain⟨ah,ay,bl⟩:=ye ab (λq aP=>cm q (List.mem_append_left _ aP)) dg
    have Cg:∀q,q∈E.f.a6→under g E.p q:=λq aP=>cm _ (List.mem_append_right _ (List.mem_map.2 ⟨q,aP,rfl⟩))
    have qQ:=mS;unfold findD at ch;split at ch
    ·cases ch
    rename_i p hp;split at ch
    ·rename_i f b2;cases ch;exact⟨by simp [ah],⟨.inr ⟨hp,b2,Cg,λ_ h=>h,λh=>by cases h⟩,ay⟩,next bl (λz dQ=>dQ) (.inl ⟨rfl,(by simpa using yd),qQ⟩)⟩
    ·cases ch
def a7.Yu{id:Nat}{Q:b8→aF→Prop}(b0:eJ P tt=true)(hm:P.follows .mixedOrders=true)(fB:Nat)(ia:List (Nat×List eT)){x:V}{cp:List Prop}(aj:Cx (uV (gg P) tt N opsA.toList fB (st.aT+opsA.toList.length) (spread opsA.toList.length 0 ia) st)=some (x,cp))(cm:i_ cp)
 (dG:∀n,Q (.bb x) {env:=[],H:=Cy (uV (gg P) tt N opsA.toList fB (st.aT+opsA.toList.length) (spread opsA.toList.length 0 ia) st),aT:=n}):a7 P N E (.region id opsA true) Q st:=by
 rintro K dJ a w ⟨_,hd,dK,M,β,cD⟩
 obtain⟨tmps,ds⟩:=a;simp only at hd dK
 subst hd;refine wp_region_any hm ?_;cases jQ:uV (gg P) tt N opsA.toList fB (st.aT+opsA.toList.length) (spread opsA.toList.length 0 ia) st with
 |none=>rw [jQ]at aj;cases aj
 |some res=>
 obtain⟨mg,af1,CB⟩:=res;rw [jQ]at aj dG;simp only [Cx,Option.some.injEq,Prod.mk.injEq]at aj;obtain⟨rfl,rfl⟩:=aj;simp only [Cy]at dG;unfold uV at jQ;split at jQ
 case h_2=>cases jQ
 rename_i cu g pu mZ fw ec;rw [Bool.cond_eq_ite]at jQ;split at jQ
 case isFalse=>cases jQ
 rename_i hc;simp only [Option.some.injEq,Prod.mk.injEq]at jQ;obtain⟨rfl,rfl,rfl⟩:=jQ;simp only [Bool.and_eq_true,Option.isNone_iff_eq_none]at hc;obtain⟨⟨hc,nF⟩,K_⟩:=hc;generalize af2:st.aT+opsA.toList.length=mk at ec nF K_
 obtain⟨hlen,Ck,yf⟩:=ye (Fi:=λg=>(look g.H mk).isSome=true) ec cm.mem nF
 simp only [x6,Bool.and_eq_true]at hc;obtain⟨⟨⟨c1,c2⟩,c3⟩,c4⟩:=hc
 have fU:∀(i:Nat) o E,opsA[i]? = some o→cu[i]? = some E→h' opsA.toList o E=true:=by
  intro i o E aw ch;obtain⟨iI,z2⟩:=q2 hlen i;have iY:opsA.toList[i]? = some o:=by simpa using aw
  rw [iY]at iI;rw [ch]at z2;cases dQ:(jv opsA.toList cu)[i]? with
  |none=>rw [dQ]at iI;simp at iI
  |some x=>
   rw [dQ]at iI z2;simp at iI z2
   subst iI;subst z2;exact List.all_eq_true.1 c1 x (List.mem_of_getElem? dQ)
 have cw:∀(i:Nat) E,cu[i]? = some E→nV N E=true:=λi E ch=>List.all_eq_true.1 c2 E (List.mem_of_getElem? ch)
 have uR:lz opsA (Array.replicate opsA.size false):=λj o aw hj=>by have cJ:j<opsA.size:=(Array.getElem?_eq_some_iff.1 aw).1;simp [Array.getD_eq_getD_getElem?,cJ]at hj
 have uS:=hT.text fU (λg1 g2 Cl ab=>by rw [←Cl.box mk];exact ab) (jv opsA.toList cu) 0 (Array.replicate opsA.size false) _ (λj=>by have:=(q2 hlen j).1;simpa using this) (λj=>by have:=(q2 hlen j).2;simpa using this)
  ⟨by simp,λj hj=>by simp [hj]⟩ uR c4 Ck
 have qA:(jv opsA.toList cu).length=opsA.size:=by rw [Ch hlen];simp
 rw [qA]at uS
 have lv:K7 opsA cu fB mk mZ fw:=by
  constructor
  ·intro i E ch hk;rcases yf i E ch with⟨ab,_⟩|⟨ab,_⟩|⟨_,ab⟩
   ·omega
   ·omega
   ·simpa using ab
  ·intro i E ch hk;rcases yf i E ch with⟨ab,_⟩|⟨_,ab,ah,ay⟩|⟨ab,_⟩
   ·omega
   ·simp only [List.mem_singleton,Prod.mk.injEq]at ah;exact⟨ab,ah.1,ah.2,ay⟩
   ·omega
  ·intro i E ch hk;rcases yf i E ch with⟨_,ab,ah⟩|⟨ab,_⟩|⟨ab,_⟩
   ·exact⟨by simpa using ab,ah⟩
   ·omega
   ·omega
  ·intro i E ch;rcases yf i E ch with⟨ab,_⟩|⟨ab,_⟩|⟨ab,_⟩
   ·exact .inl ab
   ·exact .inr (.inl ab)
   ·exact .inr (.inr ab)
 refine hT.K8 (K:=K) (mk:=mk) b0 lv fU cw c3 (λn e dr w' c8=>⟨_,_,c8,dG n⟩) _ _ _ tmps _ M β uS (by simp) uR (λx hx=>by cases hx) ?_ K_ ⟨(cD.drew _).up _,dK,(λs id h _ b hb=>by have ab:=cD.lt _ _ hb;have ah:=(ya _ _ _ (ox h)).1;simp only at ah;omega),λ_ _ _ h=>by simp [x',look]at h⟩
 rw [Array.getD_eq_getD_getElem?];by_cases La:fB<opsA.size
 ·simp [La]
 ·simp [La]
end
section
variable {P:Program} {tt:de} {fn:Func} {E:Nat} {st:aF}
def CC{y:Code}{R:Out→List (List aR)→Prop}(h:m_ P tt fn E y R st):Cr P tt fn E y R .normal st:=h
def Yv{y:Code}{out:Out}{uW:List (List aR)}(h:(Ab.leave tt E fn.results.toList st).map (λx=>(x.1,lw x.2))=some (out,uW)):Cr P tt fn E y (λo H'=>o=out∧H'=uW) .ret st:=by
 rw [Option.map_eq_some_iff]at h;obtain⟨⟨o,H'⟩,ab,ah⟩:=h;cases ah;exact⟨o,H',ab,rfl,rfl⟩
def Lb(tt:de)(E:Nat)(rs:List ResultVar)(ds:List D)(ρ:List Nat)(cn:List (List aR))(st:aF):Option (List (List aR)×List D×Out×List (List aR)):=
 bif !kL ρ then none else match boxes st.H ρ,jk (idx ρ) ds,ij (λj=>ρ[j]?) cn with
  |some bs,some h3,some g'=>bif Nat.beq cn.length ρ.length then match ij (idx ρ) bs,Ab.leave tt E rs {env:=st.env,H:=jl ρ g'++st.H,aT:=st.aT} with
   |some H1,some (o,H')=>some (H1,h3,o,lw H')
   |_,_=>none
   else none
  |_,_,_=>none
def nW.of{rs:List ResultVar}{fd:FuncId}{ds h3:List D}{x:Option V}(ρ:List Nat){H1 cn uW:List (List aR)}{o:Out}(d:pC P fd h3 H1 x λH'=>H'=cn)(hc:Lb tt E rs ds ρ cn st=some (H1,h3,o,uW)):
 nW P tt E rs fd ds (λo' H'=>o'=o∧H'=uW) x st:=by
 unfold Lb at hc;rw [Bool.cond_eq_ite]at hc;split at hc
 ·cases hc
 rename_i hn;split at hc
 case h_2=>cases hc
 rename_i bs a g' i8 ha qH;rw [Bool.cond_eq_ite]at hc;split at hc
 case isFalse=>cases hc
 rename_i ag;split at hc
 case h_2=>cases hc
 rename_i Yw o' H' ka nN;simp only [Option.some.injEq,Prod.mk.injEq]at hc;obtain⟨rfl,rfl,rfl,rfl⟩:=hc;refine⟨ρ,bs,Yw,a,_,(by simpa using hn),i8,ka,ha,d,λK3 ay=>?_⟩
 subst ay;exact⟨g',o',H',(by simpa using ag),qH,nN,rfl,rfl⟩
def Yx{rs:List ResultVar}{fd:FuncId}{ds:List D}{R:Out→List (List aR)→Prop}(h:nW P tt E rs fd ds R none st):Cs P tt E rs fd ds R .ret st:=h
def Lc{rs:List ResultVar}{fd:FuncId}{ds:List D}{R:Out→List (List aR)→Prop}{x:V}(h:nW P tt E rs fd ds R (some x) st):Cs P tt E rs fd ds R (.bb x) st:=h
end
section
variable {P:Program}
def Yy{w:World}{b off:Nat}{vs:List Value}{T:TypeId}{mc:Nat×Nat}(h:w.heap[b]? = some (.cells ⟨vs⟩ T mc))(u:Value):
 (w.setCell ⟨b,off,none⟩ u).heap[b]? = some (.cells ⟨vs.set off u⟩ T mc):=by
 have cJ:=lt_of_heap h;have c8:w.heap[b] = .cells ⟨vs⟩ T mc:=by simpa [Array.getElem?_eq_getElem cJ]using h
 show(w.heap.modify b _)[b]? = _
 rw [Array.getElem?_eq_getElem (by simpa using cJ),Array.getElem_modify_self,c8]
 simp
def Yz{w:World}{b off:Nat}{u:Value}(k:Nat)(h:k≠b):(w.setCell ⟨b,off,none⟩ u).heap[k]? = w.heap[k]? := Go.RowKit.Below.heap_setCell w ⟨b,off,none⟩ u k h
def Ld {f : FuncId} {fd : Func} {off : Nat} {u : TypeId} (kv : P.funcs[f]? = some fd) (CD : fd.body.isSome = true) (hn : decide (fd.name = "runtime.NumGoroutine") = false)
 (YA:∀(b:Nat) (w:World),w.cell? ⟨b,off,none⟩=some (.pointer (some ⟨b,off,none⟩))→Calls P f #[.pointer (some ⟨b,off,none⟩)] w λe w'=>e = .returned (.tuple #[])∧w'=w)
 (YB:∀(b:Nat) (w:World) (T:TypeId) (k:Nat),w.cell? ⟨b,off,none⟩=some (.pointer none)→w.shape? b=some (T,k)→off<k→liesAt P P.depth T (k / P.cellsOf T) off u 1=true→w.frozen? ⟨b,off,none⟩=false→
  Calls P f #[.pointer (some ⟨b,off,none⟩)] w λe w'=>e = .returned (.tuple #[])∧w'=w.setCell ⟨b,off,none⟩ (.pointer (some ⟨b,off,none⟩)))
 {cs:List aR} (dE:cs[off]? = some ⟨.ca 0 off u,none⟩):fP P f [.ptr 0 off] [] [cs] (.ret (.b_ []) none) [cs]:=by
 refine⟨⟨fd,kv,CD,by simpa using hn⟩,λK w vs M β hlen hs gb=>?_⟩
 obtain⟨v,rfl⟩:∃v,vs=[v]:=by
  match vs,hlen with
  |[v],_=>exact⟨v,rfl⟩
 have oA:=hs.ew (.slot 0) ⟨.ptr 0 off,none⟩ (by simp [aF.at,gu,oC,cH,look])
 have qK:bZ (⟨[v]⟩:Array Value) w β (.slot 0)=v:=by simp [bZ]
 rw [qK]at oA;obtain⟨b,hb,rfl⟩:∃b,β 0=some b∧v = .pointer (some ⟨b,off,none⟩):=by cases oA with|ptr r o b h=>exact⟨b,h,rfl⟩
 have hl0:look (cH 0 [cs]) 0=some cs:=by simp [cH,look]
 obtain⟨bF,ws,T,bH,bu,Le,YC,YD,fL,hlies⟩:=hs.box 0 cs hl0;rw [hb]at bH;cases bH;have ps:off<cs.length:=(List.getElem?_eq_some_iff.1 dE).1;have uX:ws[off]? = some ws[off]:=List.getElem?_eq_getElem (by omega)
 have gH:w.cell? ⟨b,off,none⟩=some ws[off]:=by rw [cell_of_heap bu,uX]
 have fi:=hs.ew (.cell 0 off) ⟨.ca 0 off u,none⟩ (by simp [aF.at,hl0,dE])
 have bY:bZ (⟨[.pointer (some ⟨b,off,none⟩)]⟩:Array Value) w β (.cell 0 off)=ws[off]:=by simp [bZ,hb,gH]
 rw [bY]at fi
 have fin:∀w',bB P K M β {env:=[],H:=cH 0 [cs],aT:=[cs].length} #[.tuple #[]] w'→bB P K M β {env:=gx (.ret (.b_ []) none),H:=cH 0 [cs],aT:=[cs].length} #[.tuple #[]] w':=λw' h=>by
  have:=h.put (t:=0) (v:=.tuple #[]) (e:=⟨.b_ [],none⟩) (by simp) (.b_ [] [] rfl λi v c az=>by simp at az) (λT aO=>by cases aO)
  exact this
 generalize hx:ws[off]=x at gH fi uX
 cases fi with
 |jK r o kW=>
  have hsh:w.shape? b=some (T,ws.length):=by simp [World.shape?,bu]
  have hfz:w.frozen? ⟨b,off,none⟩=false:=by simp [World.frozen?,bu]
  have iX:=hlies _ (List.mem_of_getElem? dE) 0 off u rfl;refine(YB b w T ws.length gH hsh (by omega) iX hfz).mono ?_
  rintro e w' ⟨rfl,rfl⟩
  refine⟨_,_,.tuple #[],M,β,⟨rfl,rfl⟩,rfl,fin _ ?_⟩
  have ab:=(hs.uF #[.tuple #[]]).w_ (r:=0) (b:=b) (cs:=cs) (w':=w.setCell ⟨b,off,none⟩ (.pointer (some ⟨b,off,none⟩))) hl0 hb bu (vs':=ws.set off (.pointer (some ⟨b,off,none⟩))) (cs':=cs) (by simpa using Le)
   (λy b1=>by
    rcases List.mem_or_eq_of_mem_set b1 with h|rfl
    ·exact fL y h
    ·rfl) (λh=>by rw [List.length_set];exact h) rfl (Yy bu _) (λk hk=>Yz k hk) cs.length (λi y e b1 he=>by
    by_cases hi:off=i
    ·subst hi;rw [List.getElem?_set_self (by omega)]at b1
     cases b1;rw [dE]at he;cases he;exact⟨.ca 0 off b u hb,λT aO=>by cases aO⟩
    ·rw [List.getElem?_set_ne hi]at b1;have Jd:=(List.getElem?_eq_some_iff.1 he).1;refine⟨?_,λT aO=>.inl ⟨by omega,⟨e,he,aO⟩,b1⟩⟩
     have:=hs.ew (.cell 0 i) e (by simp [aF.at,hl0,he])
     simpa [bZ,hb,cell_of_heap bu,b1]using this)
  refine ab.sub rfl (λl e ag=>⟨e,?_,rfl,λ_ h=>h⟩) (λr c aj=>⟨c,?_,rfl⟩)
  ·cases l with
   |slot s=>exact ag
   |cell r i=>
    simp only [aF.at,dd]at ag ⊢;by_cases aj:r=0
    ·subst aj;rw [hl0]at ag;simpa using ag
    ·simp [cH,dd,Ne.symm aj,look]at ag
  ·simp only [dd]at aj ⊢;by_cases jY:r=0
   ·subst jY;rw [hl0]at aj;simpa using aj
   ·simp [cH,dd,Ne.symm jY,look]at aj
 |ca r o mn kW fj=>
  rw [hb]at fj;cases fj;refine(YA b w gH).mono ?_
  rintro e w' ⟨rfl,rfl⟩
  exact⟨_,_,.tuple #[],M,β,⟨rfl,rfl⟩,rfl,fin _ (hs.uF _)⟩
end
section
variable {P:Program}
def Lf {f : FuncId} {fd : Func} {T5 : TypeId} (kv : P.funcs[f]? = some fd) (CD : fd.body.isSome = true) (hn : decide (fd.name = "runtime.NumGoroutine") = false) (YE : P.cellsOf T5 = 1)
 (mS:∀(b:Nat) (w:World),w.cell? ⟨b,1,none⟩=some (.slice none 0 0)→Calls P f #[.pointer (some ⟨b,0,none⟩)] w λe w'=>e = .returned (.string ⟨#[]⟩)∧w'=w.drew)
 (qw:∀(b g cap:Nat) (w:World),cap≠0→w.cell? ⟨b,1,none⟩=some (.slice (some ⟨g,0,none⟩) 0 cap)→Calls P f #[.pointer (some ⟨b,0,none⟩)] w λe w'=>e = .returned (.string ⟨#[]⟩)∧w'=w.drew)
 (YF:∀(b g:Nat) (w:World) (vs:List Value),w.cell? ⟨b,1,none⟩=some (.slice (some ⟨g,0,none⟩) 0 0)→b<w.heap.size→w.heap[g]? = some (.cells ⟨vs⟩ T5 (0,0))→
  Calls P f #[.pointer (some ⟨b,0,none⟩)] w λe w'=>e = .returned (.string ⟨#[]⟩)∧w'=(w.drew.alloc (.view ⟨g,0,none⟩ T5)))
 (qG:∀(b g cap:Nat) (w:World) (vs:List Value) (l:ahs),l≠[]→w.cell? ⟨b,1,none⟩=some (.slice (some ⟨g,0,none⟩) l.length cap)→w.heap[g]? = some (.cells ⟨vs⟩ T5 (0,0))→
  l.length≤cap→cap≤vs.length→l.length≤9223372036854775807→(∀(j:Nat) (x:UInt8),l[j]? = some x→vs[j]? = some (Value.int .u8 x.toNat))→
  Calls P f #[.pointer (some ⟨b,0,none⟩)] w λe w'=>e = .returned (.string ⟨l.toArray⟩)∧w'=w.drew.freeze ⟨g,0,none⟩ l.length)
 {d0:aR} {cs:List aR} {l:ahs} {n:Nat} {get:Nat→V} (hl:n=l.length∧∀i,i<l.length→get i = .int .u8 ((l.getD i 0).toNat:Int)) (h63:l.length≤9223372036854775807):
 fP P f [.ptr 0 0] [] [d0::⟨.v (.bz 1 n get),some T5⟩::cs] (.ret (.v (.str l)) none) [d0::⟨.v (.bz 1 n get),none⟩::cs]:=by
 obtain⟨rfl,hl⟩:=hl;refine⟨⟨fd,kv,CD,by simpa using hn⟩,λK w vs M β hlen hs gb=>?_⟩
 obtain⟨v,rfl⟩:∃v,vs=[v]:=by
  match vs,hlen with
  |[v],_=>exact⟨v,rfl⟩
 have oA:=hs.ew (.slot 0) ⟨.ptr 0 0,none⟩ (by simp [aF.at,gu,oC,cH,look])
 have qK:bZ (⟨[v]⟩:Array Value) w β (.slot 0)=v:=by simp [bZ]
 rw [qK]at oA;obtain⟨b,hb,rfl⟩:∃b,β 0=some b∧v = .pointer (some ⟨b,0,none⟩):=by cases oA with|ptr r o b h=>exact⟨b,h,rfl⟩
 generalize j_:d0::(⟨.v (.bz 1 l.length get),some T5⟩:aR)::cs=kX at hs
 have ir:kX[1]? = some ⟨.v (.bz 1 l.length get),some T5⟩:=by rw [←j_];rfl
 have hl0:look (cH 0 [kX]) 0=some kX:=by simp [cH,look]
 obtain⟨bF,ws,T,bH,bu,Le,YC,YD,fL⟩:=hs.box 0 kX hl0;rw [hb]at bH;cases bH;have ps:1<kX.length:=(List.getElem?_eq_some_iff.1 ir).1;have uX:ws[1]? = some ws[1]:=List.getElem?_eq_getElem (by omega)
 have gH:w.cell? ⟨b,1,none⟩=some ws[1]:=by rw [cell_of_heap bu,uX]
 have Lg:({env:=gu [.ptr 0 0] [],H:=cH 0 [kX],aT:=[kX].length}:aF).at (.cell 0 1)=some ⟨.v (.bz 1 l.length get),some T5⟩:=by simp [aF.at,hl0,ir]
 have fi:=hs.ew _ _ Lg;have fh:=hs.own _ _ T5 Lg rfl;have bY:bZ (⟨[.pointer (some ⟨b,0,none⟩)]⟩:Array Value) w β (.cell 0 1)=ws[1]:=by simp [bZ,hb,gH]
 rw [bY]at fi fh
 -- jM state behind it
 have qF:∀(j:Nat) aZ,(d0::(⟨.v (.bz 1 l.length get),none⟩:aR)::cs)[j]? = some aZ→∃bI,kX[j]? = some bI∧bI.d=aZ.d∧(∀T,aZ.own=some T→bI.own=some T∧j≠1):=by
  intro j aZ hj;rw [←j_]
  match j with
  | 0=>simp only [List.getElem?_cons_zero,Option.some.injEq]at hj ⊢;subst hj;exact⟨_,rfl,rfl,λT aO=>⟨aO,by omega⟩⟩
  | 1=>simp only [List.getElem?_cons_succ,List.getElem?_cons_zero,Option.some.injEq]at hj ⊢;subst hj;exact⟨_,rfl,rfl,λT aO=>by cases aO⟩
  |j+2=>simp only [List.getElem?_cons_succ]at hj ⊢;exact⟨aZ,hj,rfl,λT aO=>⟨aO,by omega⟩⟩
 obtain⟨oF,mr⟩:=hs.IY (r:=0) (i:=1) (cs':=d0::⟨.v (.bz 1 l.length get),none⟩::cs) hl0 ir rfl (by rw [←j_];rfl) qF (.slot 0)
 rw [bY]at mr
 have fin:∀w' M',bB P K M' β {env:=gu [.ptr 0 0] [],H:=(0,d0::⟨.v (.bz 1 l.length get),none⟩::cs)::cH 0 [kX],aT:=[kX].length} ⟨[.pointer (some ⟨b,0,none⟩)]⟩ w'→
  bB P K M' β {env:=gx (.ret (.v (.str l)) none),H:=cH 0 [d0::⟨.v (.bz 1 l.length get),none⟩::cs],aT:=[kX].length} #[.string ⟨⟨l⟩⟩] w':=λw' M' h=>by
  have ab:=(h.uF #[.string ⟨⟨l⟩⟩]).put (t:=0) (v:=.string ⟨⟨l⟩⟩) (e:=⟨.v (.str l),none⟩) (by simp) (.v _ _ (.str l)) (λT aO=>by cases aO)
  refine ab.sub rfl (λq e aP=>⟨e,?_,rfl,λ_ h=>h⟩) (λr c aj=>⟨c,?_,rfl⟩)
  ·cases q with
   |slot s=>exact aP
   |cell r i=>
    simp only [aF.at,dd]at aP ⊢;by_cases aj:r=0
    ·subst aj;simpa [cH,look]using aP
    ·simp [cH,dd,Ne.symm aj,look]at aP
  ·simp only [dd]at aj ⊢;by_cases jY:r=0
   ·subst jY;simpa [cH,look]using aj
   ·simp [cH,dd,Ne.symm jY,look]at aj
 have YG:b<w.heap.size:=lt_of_heap bu;have yg:bB P K M β {env:=gu [.ptr 0 0] [],H:=(0,d0::⟨.v (.bz 1 l.length get),none⟩::cs)::cH 0 [kX],aT:=[kX].length} ⟨[.pointer (some ⟨b,0,none⟩)]⟩ w.drew:=oF.drew _;have af3:[kX].length=1:=rfl;generalize hx:ws[1]=x at gH fi fh mr uX
 rcases im.bz fh (fi)with h0|⟨g,n,cap,us,T',ab,ah,ay,bl,bQ,df,fK⟩
 ·subst h0;obtain⟨_,ag⟩|⟨_,_,_,_,h,_⟩:=ph fi
  ·obtain rfl:=List.eq_nil_of_length_eq_zero ag;refine(mS b w gH).mono ?_
   rintro e w' ⟨rfl,rfl⟩
   exact⟨_,_,_,M,β,⟨rfl,rfl⟩,rfl,fin _ M yg⟩
  ·cases h
 ·subst fK
  have YH:∃(b off cap:Nat) (val:Nat→Nat→Value),x = .slice (some ⟨b,off,none⟩) l.length cap∧l.length≤cap∧(∀i,i<l.length→(get i).cells.length=1)∧(∀i j,i<l.length→j<1→M b (off+i*1+j)=some (val i j))∧
   (∀i j,i<l.length→j<1→(val i j).oneCell'=true)∧(∀(i j:Nat) c,i<l.length→(get i).cells[j]? = some c→cT M (val i j) c):=by
   rcases ph fi with⟨h|⟨a,h⟩,dQ⟩|hx
   ·rw [ab]at h;cases h
   ·rw [ab]at h;simp only [Value.slice.injEq,Option.some.injEq]at h;obtain⟨rfl,rfl,rfl⟩:=h;exact⟨g,0,0,λ_ _=>undef,ab.trans (by rw [dQ]),by omega,λi hi=>by omega,λi j hi=>by omega,λi j hi=>by omega,λi j c hi=>by omega⟩
   ·exact hx
  obtain⟨g2,off,af4,val,az,hc,hk,cP,af5,hC⟩:=YH
  focus
  ·rw [ab]at az;simp only [Value.slice.injEq,Option.some.injEq,Addr.mk.injEq,and_true]at az;obtain⟨⟨rfl,rfl⟩,rfl,rfl⟩:=az;rw [YE,Nat.mul_one]at bl;subst ab;by_cases ag:l=[]
   ·subst ag;by_cases hcap:cap=0
    ·subst hcap;refine(YF b g w us gH YG ay).mono ?_
     rintro e w' ⟨rfl,rfl⟩
     refine⟨_,_,_,M,β,⟨rfl,rfl⟩,rfl,fin _ M (yg.grow (λk hk=>?_))⟩
     exact Go.Lib.alloc_old _ _ k hk
    ·refine(qw b g cap w hcap gH).mono ?_
     rintro e w' ⟨rfl,rfl⟩
     exact⟨_,_,_,M,β,⟨rfl,rfl⟩,rfl,fin _ M yg⟩
   ·have uf:∀(j:Nat) (x:UInt8),l[j]? = some x→us[j]? = some (Value.int .u8 x.toNat):=by
     intro j x hx;have hj:j<l.length:=(List.getElem?_eq_some_iff.1 hx).1;have e1:=hs.mem _ _ _ (cP j 0 hj (by omega))
     have e2:=hl j hj;have e3:=hC j 0 (.int .u8 ((l.getD j 0).toNat:Int)) hj (by rw [e2];rfl)
     rw [cell_of_heap ay,show 0+j*1+0=j by omega]at e1
     rw [e1];generalize val j 0=y at e3 ⊢
     cases e3;simp [List.getD,hx]
    refine(qG b g cap w us l ag gH ay hc bl h63 uf).mono ?_
    rintro e w' ⟨rfl,rfl⟩
    refine⟨_,_,.string ⟨⟨l⟩⟩,M,β,⟨rfl,rfl⟩,rfl,fin _ M ?_⟩
    have hfz:(w.drew.freeze ⟨g,0,none⟩ l.length).os=w.drew.os∧(w.drew.freeze ⟨g,0,none⟩ l.length).output=w.drew.output∧(∀k,k≠g→(w.drew.freeze ⟨g,0,none⟩ l.length).heap[k]? = w.drew.heap[k]?)∧∃mc,(w.drew.freeze ⟨g,0,none⟩ l.length).heap[g]? = some (.cells ⟨us⟩ T' mc):=by
     have hg':w.drew.heap[g]? = some (.cells ⟨us⟩ T' (0,0)):=ay;have cJ:=lt_of_heap hg';have c8:w.drew.heap[g] = .cells ⟨us⟩ T' (0,0):=by simpa [Array.getElem?_eq_getElem cJ]using hg'
     unfold World.freeze;split
     ·exact⟨rfl,rfl,λ_ _=>rfl,_,hg'⟩
     ·refine⟨rfl,rfl,λk hk=>?_,?_⟩
      ·simp only [Array.getElem?_modify];rw [if_neg (by simpa using(Ne.symm hk))]
      ·simp only [Array.getElem?_modify];rw [if_pos trivial,hg'];exact⟨_,rfl⟩
    obtain⟨f1,f2,f3,mc,f4⟩:=hfz;refine yg.free g df (λr c aj kc=>mr.unbox g r c rfl aj kc) (λq e fY aP pm YI=>?_) (λk hk _=>f3 k hk) (Mem.le_refl _) (λ_ _ _=>rfl) (λo v az=>?_) (by rw [f1,f2])
    ·refine mr.apart q e fY g aP pm ?_ rfl YI
     rintro rfl
     simp only [aF.at,gu,oC,cH,look]at aP;simp at aP;subst aP;cases pm
    ·have:=hs.mem _ _ _ az
     rw [cell_of_heap ay]at this;rw [cell_of_heap f4,this]
end
def nY(w:World):Mem:=λb o=>w.cell? ⟨b,o,none⟩
def ic(w:World)(vs:List Value)(cs:List V):Prop:=
 vs.length=cs.length∧(∀v,v∈vs→v.oneCell'=true)∧∀(i:Nat) v c,vs[i]? = some v→cs[i]? = some c→cT (nY w) v c
def ic.nil{w:World}:ic w [] []:=⟨rfl,(λv h=>by cases h),λi v c h=>by simp at h⟩
def ic.one{w:World}{v:Value}{c:V}(ab:v.oneCell'=true)(h:cT (nY w) v c):ic w [v] [c]:=
 ⟨rfl,(λu hu=>by obtain rfl:=List.mem_singleton.1 hu;exact ab),λi u d hu hd=>by
  match i with
  | 0=>cases hu;cases hd;exact h
  |i+1=>simp at hu⟩
def ic.app{w:World}{vs us:List Value}{cs ds:List V}(h:ic w vs cs)(c8:ic w us ds):ic w (vs++us) (cs++ds):=by
 refine⟨by simp [h.1,c8.1],λv az=>?_,λi v c az hc=>?_⟩
 ·rcases List.mem_append.1 az with az|az
  ·exact h.2.1 v az
  ·exact c8.2.1 v az
 ·by_cases hi:i<vs.length
  ·rw [List.getElem?_append_left hi]at az;rw [List.getElem?_append_left (by rw [←h.1];exact hi)]at hc
   exact h.2.2 i v c az hc
  ·rw [List.getElem?_append_right (by omega)]at az
   rw [List.getElem?_append_right (by rw [←h.1];omega),←h.1]at hc
   exact c8.2.2 _ v c az hc
def ic.agg{w:World}{vs:List Value}{cs:List V}(h:ic w vs cs):cT (nY w) (.agg ⟨vs⟩) (.agg cs):=.agg vs cs h.1 h.2.1 h.2.2
def Lh{α:Type}[Inhabited α]:∀(n:Nat) (Q:Nat→α→Prop),(∀i,i<n→∃a,Q i a)→∃l:List α,l.length=n∧∀i,i<n→Q i (l.getD i default)
 | 0,Q,h=>⟨[],rfl,λi hi=>by omega⟩
 |n+1,Q,h=>by
  obtain⟨l,ab,ah⟩:=Lh n Q λi hi=>h i (by omega)
  obtain⟨a,ha⟩:=h n (by omega)
  refine⟨l++[a],by simp [ab],λi hi=>?_⟩
  by_cases hin:i<n
  ·have:=ah i hin
   simpa [List.getD,List.getElem?_append_left (show i<l.length by omega)]using this
  ·obtain rfl:i=n:=by omega
   simpa [List.getD,←ab]using ha
section
variable {H:Type} {enc:TypeId×Value→H} {P:Program} {w:World}
def q_{fuel:Nat}{t:TypeId}{k:IntKind}{cs:List Value}{x:DataW H×List MemPlace}(cc:P.underlying t=some (.int k))(h:DataW.trod enc P w 0 (λ_=>true) true fuel t cs=some x):
 ∃n:Int,(k.min≤n∧n≤k.max)∧ic w cs [.int k n]:=by
 obtain⟨n,rfl,_,hw⟩:=DataW.trod_int cc h;refine⟨n,by simpa [Lit.wf]using hw,.one rfl (.int _ _)⟩
def Li{fuel:Nat}{t:TypeId}{cs:List Value}{x:DataW H×List MemPlace}(cc:P.underlying t=some .string)(h:DataW.trod enc P w 0 (λ_=>true) true fuel t cs=some x):
 ∃s:ahs,s.length≤9223372036854775807∧ic w cs [.str s]:=by
 obtain⟨s,rfl,_,hw⟩:=DataW.trod_string cc h;exact⟨s.data.toList,by simpa [maxLen]using hw,.one rfl (.str s.data.toList)⟩
def CE{α:Type}[Inhabited α]{fuel:Nat}{t e:TypeId}{k:Nat}{cs:List Value}{x:DataW H×List MemPlace}{encA:α→V}{ok:α→Prop}(cc:P.underlying t=some (.slice e))(hk:P.cellsOf e=k)(hJ:0<k)
 (h:DataW.trod enc P w 0 (λ_=>true) true fuel t cs=some x)
 (aj:∀n cs' mZ,n<fuel→DataW.trod enc P w 0 (λ_=>true) true n e cs'=some mZ→∃a:α,ok a∧ic w cs' (encA a).cells):
 ∃l:List α,l.length≤9223372036854775807∧(∀i,i<l.length→ok (l.getD i default))∧ic w cs [ad k encA l]:=by
 rcases DataW.trod_slice cc h with⟨rfl,_⟩|⟨a,len,cap,elems,rest,n,rfl,rfl,_,_,uY,YJ,js,he,YK,_⟩
 ·exact⟨[],by simp,(λi hi=>by simp at hi),.one rfl (.jJ _ _)⟩
 ·have mV:∀i,i<len→∃b:α,ok b∧∃cs',w.cells? 0 (a.add (i*k)) k=some cs'∧ic w cs' (encA b).cells:=by
   intro i hi;have ab:=he i hi;rw [List.getElem?_eq_getElem (by omega),Option.bind_eq_some_iff,hk]at ab
   obtain⟨cs',ah,ay⟩:=ab;obtain⟨b,bl,bQ⟩:=aj n cs' _ (by omega) ay
   exact⟨b,bl,cs',ah,bQ⟩
  obtain⟨l,ag,dG⟩:=Lh len _ mV;subst ag;refine⟨l,by unfold maxLen at YJ;omega,λi hi=>(dG i hi).1,?_⟩
  by_cases hc0:cap=0
  ·obtain rfl:l=[]:=List.eq_nil_of_length_eq_zero (by omega)
   subst hc0;exact .one rfl (.l' _ _ _)
  ·have Lj:a.spot=none:=by
    have h0:∃cs',w.cells? 0 (a.add (0*k)) k=some cs':=by
     by_cases hl0:l.length=0
     ·obtain⟨ab,ah⟩:=YK rfl;have ay:=ah 0 (by omega)
      rw [List.getElem?_eq_getElem (by omega),Option.bind_eq_some_iff,hk,hl0]at ay
      obtain⟨cs',bl,_⟩:=ay;exact⟨cs',bl⟩
     ·obtain⟨_,cs',bl,_⟩:=dG 0 (by omega)
      exact⟨cs',bl⟩
    obtain⟨cs',bl⟩:=h0;obtain⟨_,bQ,df⟩:=World.cells?_some bl;have fK:=df 0 hJ;rw [List.getElem?_eq_getElem (by omega),Nat.zero_mul]at fK
    have:(a.add 0).add 0=a:=by simp [Addr.add]
    rw [this]at fK;exact World.cell?_spot fK
   obtain⟨b,off,sp⟩:=a;simp only at Lj
   subst Lj
   have bY:∀i j,i<l.length→j<k→∃cs':List Value,cs'.length=k∧ic w cs' (encA (l.getD i default)).cells∧w.cell? ⟨b,off+i*k+j,none⟩=cs'[j]? := by
    intro i j hi hj;obtain⟨_,cs',ab,ah⟩:=dG i hi;obtain⟨_,bQ,df⟩:=World.cells?_some ab;refine⟨cs',bQ,ah,?_⟩
    rw [←df j hj,addr_add,addr_add]
   have Lk:∀i,i<l.length→(encA (l.getD i default)).cells.length=k:=by
    intro i hi;obtain⟨cs',ab,ah,_⟩:=bY i 0 hi hJ;rw [←ah.1,ab]
   refine .one rfl (.bz b off k l.length cap _ (λi j=>(w.cell? ⟨b,off+i*k+j,none⟩).getD undef) uY Lk (λi j hi hj=>?_) (λi j hi hj=>?_) (λi j c hi hc=>?_))
   ·obtain⟨cs',ab,ah,ay⟩:=bY i j hi hj;unfold nY;rw [ay,List.getElem?_eq_getElem (by omega)];rfl
   ·obtain⟨cs',ab,ah,ay⟩:=bY i j hi hj;rw [ay,List.getElem?_eq_getElem (by omega)]
    exact ah.2.1 _ (List.getElem_mem _)
   ·have hj:j<k:=by rw [←Lk i hi];exact(List.getElem?_eq_some_iff.1 hc).1
    obtain⟨cs',ab,ah,ay⟩:=bY i j hi hj;rw [ay,List.getElem?_eq_getElem (by omega)]
    exact ah.2.2 j _ c (List.getElem?_eq_getElem (by omega)) hc
end
section
variable {P:Program} {K:Ctx} {N E:Nat} {M:Mem} {β:Nat→Option Nat} {st bG:aF} {tmps:Array Value} {w:World}
mutual
def nZ(r:Nat)(x:V):D→D
 |.v y=>.v y
 |.ptr q off=>bif Nat.beq q r&&Nat.beq off 0 then .eA x else .ptr q off
 |.ca q off u=>.ca q off u
 |.eA y=>.eA y
 |.full k n g=>.full k n g
 |.fn f cs=>.fn f (n0 r x cs)
 |.agg cs=>.agg (n0 r x cs)
 |.b_ cs=>.b_ (n0 r x cs)
def n0(r:Nat)(x:V):List D→List D
 |[]=>[]
 |d::l=>nZ r x d::n0 r x l
end
def yh(r:Nat)(x:V):∀(l:List D) (i:Nat),(n0 r x l)[i]? = (l[i]?).map (nZ r x)
 |[],i=>by simp [n0]
 |d::l,0=>by simp [n0]
 |d::l,i+1=>by simp only [n0,List.getElem?_cons_succ];exact yh r x l i
def yi(r:Nat)(x:V):∀l:List D,(n0 r x l).length=l.length
 |[]=>rfl
 |d::l=>by simp only [n0,List.length_cons,yi r x l]
def ce.mc{M':Mem}(cP:M.le M'){r b:Nat}{x:V}{u:Value}(hb:β r=some b)(hx:x.isAgg=false)(hu:M' b 0=some u)(ab:u.oneCell'=true)(aj:cT M' u x){v:Value}{d:D}(h:ce M β v d):ce M' β v (nZ r x d):=by
 induction h with
 |v u x h=>exact .v u x (h.mono cP)
 |ptr q off bF h=>
  simp only [nZ];cases hc:Nat.beq q r&&Nat.beq off 0 with
  |false=>exact .ptr q off bF h
  |true=>
   simp only [Bool.and_eq_true,Nat.beq_eq]at hc;obtain⟨rfl,rfl⟩:=hc;rw [hb]at h;cases h;have sA:=sj hx;refine .eA b 0 x (λ_=>u) (λj hj=>?_) (λj hj=>ab) (λj c hc=>?_)
   ·rw [sA]at hj;simp at hj
    subst hj;exact hu
   ·rw [sA]at hc;cases j with
    |zero=>simp at hc;subst hc;exact aj
    |succ j=>simp at hc
 |jK q off t=>exact .jK q off t
 |ca q off bF t h=>exact .ca q off bF t h
 |eA b off x val hm ab h=>exact .eA b off x val (λj hj=>cP _ _ _ (hm j hj)) ab (λj c hc=>(h j c hc).mono cP)
 |full base k n get h=>exact .full base k n get (h.mono cP)
 |fn f vs cs hn _ bD=>
  simp only [nZ];refine .fn f vs _ (by rw [yi];exact hn) λi v c az hc=>?_
  rw [yh]at hc;simp only [Option.map_eq_some_iff]at hc;obtain⟨c0,h0,rfl⟩:=hc;exact bD i v c0 az h0
 |agg vs cs hn ab _ bD=>
  simp only [nZ];refine .agg vs _ (by rw [yi];exact hn) ab λi v c az hc=>?_
  rw [yh]at hc;simp only [Option.map_eq_some_iff]at hc;obtain⟨c0,h0,rfl⟩:=hc;exact bD i v c0 az h0
 |b_ vs cs hn _ bD=>
  simp only [nZ];refine .b_ vs _ (by rw [yi];exact hn) λi v c az hc=>?_
  rw [yh]at hc;simp only [Option.map_eq_some_iff]at hc;obtain⟨c0,h0,rfl⟩:=hc;exact bD i v c0 az h0
def sM(r:Nat)(x:V)(e:aR):aR:={d:=nZ r x e.d,own:=e.own}
def yj(r:Nat)(x:V):List (Nat×aR)→List (Nat×aR)
 |[]=>[]
 |(t,e)::l=>(t,sM r x e)::yj r x l
def yk(r:Nat)(x:V):List (Nat×List aR)→List (Nat×List aR)
 |[]=>[]
 |(t,cs)::l=>(t,cs.map (sM r x))::yk r x l
def Ll(r:Nat)(x:V):∀(l:List (Nat×aR)) (s:Nat),look (yj r x l) s=(look l s).map (sM r x)
 |[],s=>rfl
 |(t,e)::l,s=>by
  simp only [yj,dd];by_cases h:t=s
  ·simp [h]
  ·simp only [h,if_false];exact Ll r x l s
def CF(r:Nat)(x:V):∀(l:List (Nat×List aR)) (s:Nat),look (yk r x l) s=(look l s).map λcs=>cs.map (sM r x)
 |[],s=>rfl
 |(t,cs)::l,s=>by
  simp only [yk,dd];by_cases h:t=s
  ·simp [h]
  ·simp only [h,if_false];exact CF r x l s
def pE(r:Nat)(x:V)(st:aF):aF:={env:=yj r x st.env,H:=yk r x (del st.H r),aT:=st.aT}
def uZ{r:Nat}{x:V}{l:Loc}{aZ:aR}(h:(pE r x st).at l=some aZ):∃e,aF.at {env:=st.env,H:=del st.H r,aT:=st.aT} l=some e∧aZ=sM r x e:=by
 cases l with
 |slot s=>
  simp only [aF.at,pE,Ll,Option.map_eq_some_iff]at h ⊢;obtain⟨e,ab,ah⟩:=h;exact⟨e,ab,ah.symm⟩
 |cell q i=>
  simp only [aF.at,pE,CF,Option.bind_eq_some_iff,Option.map_eq_some_iff]at h ⊢;obtain⟨cs,⟨jt,ab,rfl⟩,ah⟩:=h;rw [List.getElem?_map,Option.map_eq_some_iff]at ah;obtain⟨e,ay,bl⟩:=ah;exact⟨e,⟨jt,ab,ay⟩,bl.symm⟩
def YL{r:Nat}{x:V}{d:D}{q off:Nat}{u:TypeId}(h:nZ r x d = .ca q off u):d = .ca q off u:=by
 cases d<;>simp only [nZ]at h
 case ptr q' o'=>cases hc:Nat.beq q' r&&Nat.beq o' 0<;>rw [hc]at h<;>cases h
 all_goals first|exact h|cases h
def bB.freeze(h:bB P K M β st tmps w){r:Nat}{x:V}{own:Option TypeId}(aj:look st.H r=some [⟨.v x,own⟩])(hx:x.isAgg=false):∃M',bB P K M' β (pE r x st) tmps w:=by
 obtain⟨b,vs,T,hb,bu,hlen,Lm,dg,fL,hlies⟩:=h.box r _ aj
 obtain⟨u,rfl⟩:∃u,vs=[u]:=by
  match vs,hlen with
  |[u],_=>exact⟨u,rfl⟩
 have yl:∀q cs,look (del st.H r) q=some cs→q≠r∧look st.H q=some cs:=by
  intro q cs aP;rw [nz]at aP;split at aP
  ·cases aP
  ·rename_i dF;exact⟨λe=>dF e.symm,aP⟩
 have ab:bB P K M β {env:=st.env,H:=del st.H r,aT:=st.aT} tmps w:=h.sub rfl (λl e ag=>by
  cases l with
  |slot s=>exact⟨e,ag,rfl,λ_ h=>h⟩
  |cell q i=>
   simp only [aF.at,Option.bind_eq_some_iff]at ag ⊢;obtain⟨cs,ah,ay⟩:=ag;exact⟨e,⟨cs,(yl _ _ ah).2,ay⟩,rfl,λ_ h=>h⟩) (λq cs aP=>⟨cs,(yl _ _ aP).2,rfl⟩)
 have hle:M.le (hF M b 0 [u]):=A9 λo _=>Lm o
 have gH:hF M b 0 [u] b 0=some u:=by simp [hF]
 have ah:bB P K (hF M b 0 [u]) β {env:=st.env,H:=del st.H r,aT:=st.aT} tmps w:=by
  refine ab.free b dg (λq cs aP YM=>?_) (λl e T' ag aO me=>?_) (λ_ _ _=>rfl) hle (λbF o dF=>by simp [hF,dF]) (λo v az=>?_)
  ·obtain⟨ay,bl⟩:=yl _ _ aP;exact ay (h.inj q r b _ _ bl aj YM hb)
  ·have hl0:∃bI,st.at l=some bI∧bI.own=some T':=by
    cases l with
    |slot s=>exact⟨e,ag,aO⟩
    |cell q i=>
     simp only [aF.at,Option.bind_eq_some_iff]at ag ⊢;obtain⟨cs,ay,bl⟩:=ag;exact⟨e,⟨cs,(yl _ _ ay).2,bl⟩,aO⟩
   obtain⟨bI,ay,bl⟩:=hl0;exact h.unbox l bI T' b r _ ay bl me aj hb
  ·rw [cell_of_heap bu];unfold hF at az;split at az
   ·rename_i hc;simpa using az
   ·rw [Lm o]at az;cases az
 have fi:cT (hF M b 0 [u]) u x:=by
  have ay:=h.ew (.cell r 0) ⟨.v x,own⟩ (by rw [aF.AL aj];rfl)
  have bl:bZ tmps w β (.cell r 0)=u:=by simp only [bZ,hb,cell_of_heap bu];simp
  rw [bl]at ay;cases ay with
  |v _ _ bQ=>exact bQ.mono hle
 refine⟨hF M b 0 [u],?_⟩
 have qf:∀q cs',look (pE r x st).H q=some cs'→∃cs,look (del st.H r) q=some cs∧cs'=cs.map (sM r x):=by
  intro q cs' aP;simp only [pE,CF,Option.map_eq_some_iff]at aP;obtain⟨cs,ay,bl⟩:=aP;exact⟨cs,ay,bl.symm⟩
 constructor
 ·intro l aZ ag;obtain⟨e,ay,rfl⟩:=uZ ag;exact(ah.ew l e ay).mc (Mem.le_refl _) hb hx gH (fL u (by simp)) fi
 ·intro l aZ T' ag aO;obtain⟨e,ay,rfl⟩:=uZ ag;exact ah.own l e T' ay aO
 ·intro l cr e aZ T' YN bF ag aO cx dy;obtain⟨e1,ay,rfl⟩:=uZ ag;obtain⟨e2,bl,rfl⟩:=uZ cx;exact ah.uniq l cr e1 e2 T' YN bF ay aO bl dy
 ·intro l e T' bF q cs ag aO me aP;obtain⟨e1,ay,rfl⟩:=uZ ag;obtain⟨jt,bl,_⟩:=qf q cs aP;exact ah.unbox l e1 T' bF q jt ay aO me bl
 ·intro q cs aP;obtain⟨jt,bl,rfl⟩:=qf q cs aP;obtain⟨bF,vs',T',g1,g2,g3,g4,g5,g6,g7⟩:=ah.box q jt bl;refine⟨bF,vs',T',g1,g2,by simpa using g3,g4,g5,g6,λe he q' off t hd=>?_⟩
  obtain⟨bI,AP,rfl⟩:=List.mem_map.1 he;exact g7 bI AP q' off t (YL hd)
 ·intro q q' bF cs cs' aP mX cI fj;obtain⟨c1,ay,_⟩:=qf q cs aP;obtain⟨c2,bl,_⟩:=qf q' cs' mX;exact ah.inj q q' bF c1 c2 ay bl cI fj
 ·exact ah.lt
 ·exact ah.mem
 ·exact ah.m0
 ·exact ah.frame
 ·exact ah.gN
 ·exact ah.hB
 ·exact ah.gn
def u0(H:List (Nat×List aR))(r:Nat):Option V:=
 match look H r with
 |some [⟨.v x,_⟩]=>bif x.isAgg then none else some x
 |_=>none
def a7.freeze{c:Code}{Q:b8→aF→Prop}(r:Nat)(x:V)(aj:u0 st.H r=some x)(h:a7 P N E c Q (pE r x st)):a7 P N E c Q st:=by
 rintro K dJ a w ⟨he,hd,dK,M,β,cD⟩
 unfold u0 at aj;split at aj
 ·rename_i y own ag;rw [Bool.cond_eq_ite]at aj;split at aj
  ·cases aj
  ·rename_i hx;cases aj;obtain⟨M',hs⟩:=cD.freeze ag (by simpa using hx)
   exact h K dJ a w ⟨he,hd,dK,M',β,hs⟩
 ·cases aj
def u1(r:Nat)(st:aF):aF:=match u0 st.H r with
 |some x=>pE r x st
 |none=>st
def CG(r:Nat)(Q:b8→aF→Prop):b8→aF→Prop
 |.normal,st=>Q .normal (u1 r st)
 |.ret,st=>Q .ret (u1 r st)
 |e,st=>Q e st
def Ln{K:Ctx}{M:Mem}{β:Nat→Option Nat}{tmps:Array Value}{w:World}(r:Nat)(h:bB P K M β st tmps w):∃M',bB P K M' β (u1 r st) tmps w:=by
 unfold u1;cases hx:u0 st.H r with
 |none=>exact⟨M,h⟩
 |some x=>
  unfold u0 at hx;split at hx
  ·rename_i y own ag;rw [Bool.cond_eq_ite]at hx;split at hx
   ·cases hx
   ·rename_i YO;cases hx;exact h.freeze ag (by simpa using YO)
  ·cases hx
def a7.mc{x:Code}{Q:b8→aF→Prop}(r:Nat)(h:a7 P N E x (CG r Q) st):a7 P N E x Q st:=by
 intro K dJ a w hs;refine wp_mono (h K dJ a w hs) ?_
 rintro e dr w' ⟨eB,bG,ab,ah⟩
 cases eB with
 |normal=>
  obtain⟨g1,g2,g3,M,β,g4⟩:=ab;obtain⟨M',g5⟩:=Ln r g4;exact⟨.normal,_,⟨g1,g2,g3,M',β,g5⟩,ah⟩
 |ret=>
  obtain⟨g1,g2,g3,M,β,g4⟩:=ab;obtain⟨M',g5⟩:=Ln r g4;exact⟨.ret,_,⟨g1,g2,g3,M',β,g5⟩,ah⟩
 |exit i=>exact⟨.exit i,bG,ab,ah⟩
 |bb x=>exact⟨.bb x,bG,ab,ah⟩
def u2(s e:aR):aR:=match s.own with|none=>{d:=e.d} |some _=>e
def sN:List (Nat×aR)→List (Nat×aR)→List (Nat×aR)
 |(_,s)::l,(t,e)::m=>(t,u2 s e)::sN l m
 |_,m=>m
def lB:List aR→List aR→List aR
 |s::l,e::m=>u2 s e::lB l m
 |_,m=>m
def sO:List (Nat×List aR)→List (Nat×List aR)→List (Nat×List aR)
 |(_,s)::l,(t,cs)::m=>(t,lB s cs)::sO l m
 |_,m=>m
def fit(s st:aF):aF:={env:=sN s.env st.env,H:=sO s.H st.H,aT:=st.aT}
def ym(s e:aR):(u2 s e).d=e.d∧∀T,(u2 s e).own=some T→e.own=some T:=by
 unfold u2;split
 ·exact⟨rfl,λT h=>by cases h⟩
 ·exact⟨rfl,λT h=>h⟩
def Lo:∀(l m:List (Nat×aR)) (t:Nat) (aZ:aR),look (sN l m) t=some aZ→∃e,look m t=some e∧e.d=aZ.d∧∀T,aZ.own=some T→e.own=some T
 |[],m,t,aZ,h=>⟨aZ,by simpa [sN]using h,rfl,λ_ h=>h⟩
 |(a,s)::l,[],t,aZ,h=>by simp [sN,look]at h
 |(a,s)::l,(q,e)::m,t,aZ,h=>by
  simp only [sN,dd]at h ⊢;split at h
  ·rename_i aP;rw [if_pos aP];cases h;exact⟨e,rfl,(ym s e).1.symm,(ym s e).2⟩
  ·rename_i aP;rw [if_neg aP];exact Lo l m t aZ h
def Lp:∀(l m:List aR) (i:Nat) (aZ:aR),(lB l m)[i]? = some aZ→∃e,m[i]? = some e∧e.d=aZ.d∧∀T,aZ.own=some T→e.own=some T
 |[],m,i,aZ,h=>⟨aZ,by simpa [lB]using h,rfl,λ_ h=>h⟩
 |s::l,[],i,aZ,h=>by simp [lB]at h
 |s::l,e::m,0,aZ,h=>by
  simp only [lB,List.getElem?_cons_zero,Option.some.injEq]at h;subst h;exact⟨e,rfl,(ym s e).1.symm,(ym s e).2⟩
 |s::l,e::m,i+1,aZ,h=>by
  simp only [lB,List.getElem?_cons_succ]at h ⊢;exact Lp l m i aZ h
def Lq:∀l m:List aR,(lB l m).length=m.length
 |[],m=>by simp [lB]
 |s::l,[]=>by simp [lB]
 |s::l,e::m=>by simp only [lB,List.length_cons,Lq l m]
def CH:∀(l m:List (Nat×List aR)) (t:Nat) (cs':List aR),look (sO l m) t=some cs'→∃cs s,look m t=some cs∧cs'=lB s cs
 |[],m,t,cs',h=>⟨cs',[],by simpa [sO]using h,by simp [lB]⟩
 |(a,s)::l,[],t,cs',h=>by simp [sO,look]at h
 |(a,s)::l,(q,cs)::m,t,cs',h=>by
  simp only [sO,dd]at h ⊢;split at h
  ·rename_i aP;rw [if_pos aP];cases h;exact⟨cs,s,rfl,rfl⟩
  ·rename_i aP;rw [if_neg aP];exact CH l m t cs' h
def bB.fit(h:bB P K M β st tmps w)(s:aF):bB P K M β (fit s st) tmps w:=
 h.sub rfl (λl aZ ag=>by
  cases l with
  |slot t=>exact Lo _ _ _ _ ag
  |cell q i=>
   simp only [aF.at,Ab.fit,Option.bind_eq_some_iff]at ag;obtain⟨cs',ab,ah⟩:=ag;obtain⟨cs,z,ay,rfl⟩:=CH _ _ _ _ ab;obtain⟨e,bl,bQ⟩:=Lp _ _ _ _ ah;exact⟨e,by simp only [aF.at,ay,Option.bind_some];exact bl,bQ⟩) (λq cs' aP=>by
   obtain⟨cs,z,ay,rfl⟩:=CH _ _ _ _ aP;exact⟨cs,ay,(Lq _ _).symm⟩)
def a7.fit{c:Code}{Q:b8→aF→Prop}(s:aF)(h:a7 P N E c Q (Ab.fit s st)):a7 P N E c Q st:=by
 rintro K dJ a w ⟨he,hd,dK,M,β,cD⟩
 exact h K dJ a w ⟨he,hd,dK,M,β,cD.fit s⟩
def a7.my{c:Code}{Q:b8→aF→Prop}(s:aF)(live se:List Nat)(n:Nat)(aj:(qd live se n st.env st.H st.aT).map (Ab.fit s)=some bG)(ch:Nat.ble E n=true)(h:a7 P N E c Q bG):a7 P N E c Q st:=by
 simp only [Option.map_eq_some_iff]at aj;obtain⟨af6,ab,rfl⟩:=aj;exact a7.drop live se n ab ch (h.fit s)
def forget(mz:List Nat):List (Nat×aR)→List (Nat×aR)
 |[]=>[]
 |(t,e)::l=>(t,bif mz.any (Nat.beq t)then {d:=e.d}else e)::forget mz l
def Lr(mz:List Nat):∀(m:List (Nat×aR)) (t:Nat) (aZ:aR),look (forget mz m) t=some aZ→∃e,look m t=some e∧e.d=aZ.d∧∀T,aZ.own=some T→e.own=some T
 |[],t,aZ,h=>by simp [forget,look]at h
 |(q,e)::m,t,aZ,h=>by
  simp only [forget,dd]at h ⊢;split at h
  ·rename_i aP;rw [if_pos aP];cases h;refine⟨e,rfl,?_⟩
   cases mz.any (Nat.beq q)
   ·exact⟨rfl,λ_ h=>h⟩
   ·exact⟨rfl,λT h=>by cases h⟩
  ·rename_i aP;rw [if_neg aP];exact Lr mz m t aZ h
def a7.forget{c:Code}{Q:b8→aF→Prop}(mz:List Nat)(h:a7 P N E c Q {env:=Ab.forget mz st.env,H:=st.H,aT:=st.aT}):a7 P N E c Q st:=by
 rintro K dJ a w ⟨he,hd,dK,M,β,cD⟩
 refine h K dJ a w ⟨he,hd,dK,M,β,cD.sub rfl (λl aZ ag=>?_) (λq cs aP=>⟨cs,aP,rfl⟩)⟩
 cases l with
 |slot t=>exact Lr _ _ _ _ ag
 |cell q i=>exact⟨aZ,ag,rfl,λ_ h=>h⟩
end
def pF(st:aF):cU:={env:=st.env,bN:=[],H:=st.H,aT:=st.aT,rs:=[],a6:=[]}
def pG:Option pc→cU
 |some (.go g)=>g
 |_=>{env:=[],bN:=[],H:=[],aT:=0,rs:=[],a6:=[]}
def CI:Option pc→Option (List Prop)
 |some (.go g)=>some g.a6
 |_=>none
def Ls(g:cU):aF:={env:=g.env,H:=g.H,aT:=g.aT}
def n1(o:Oper)(b:Bool):Oper:={o with op:=.move (.const (.bool b))}
def Lt{x:Option pc}{cp:List Prop}(h:CI x=some cp):x=some (.go (pG x))∧(pG x).a6=cp:=by
 cases x with
 |none=>cases h
 |some f=>
  cases f with
  |go g=>exact⟨rfl,by injection h⟩
  |bb _ _ _=>cases h
section
variable {P:Program} {N E:Nat} {st:aF} {tt:de}
def a7.Lu{id:Nat}{iK cF:Oper}{t1:Nat}{ty BW e:TypeId}{k n:Nat}{get:Nat→V}{own:Option TypeId}{Q:b8→aF→Prop}
 (b0:eJ P tt=true) (ab:cF.op = .binOp .eql ty (.tmp t1) (.const (.slice none 0 0)) BW) (hg:cF.guard=none) (mq:P.underlying ty=some (.slice e))
 (YP:CI (ik (gg P) tt N [iK,cF] (pF st) iK)=some [])
 (az:look (pG (ik (gg P) tt N [iK,cF] (pF st) iK)).env t1=some ⟨.v (.bz k n get),own⟩)
 (s1:∀b,CI (ik (gg P) tt N [iK,n1 cF b] (pG (ik (gg P) tt N [iK,cF] (pF st) iK)) (n1 cF b))=some [])
 (dG:∀b:Bool,(b=true→n=0)→Q .normal (Ls (pG (ik (gg P) tt N [iK,n1 cF b] (pG (ik (gg P) tt N [iK,cF] (pF st) iK)) (n1 cF b))))):
 a7 P N E (.region id #[iK,cF] false) Q st:=by
 rintro K dJ a w ⟨_,hd,dK,M,β,cD⟩
 obtain⟨tmps,ds⟩:=a;simp only at hd dK
 subst hd;have q6:e0 P K N M β (pF st) tmps w:=⟨cD,dK,(λ_ _ h=>by simp [pF,look]at h),λ_ _ _ h=>by simp [pF,look]at h⟩
 refine wp_region ?_;obtain⟨bI,CB⟩:=Lt YP;generalize pG (ik (gg P) tt N [iK,cF] (pF st) iK)=g1 at bI CB az s1 dG
 show wpOps P #[iK,cF] _ [0,1] ⟨tmps,K.ds⟩ w
 rw [wpOps];refine uI (ops:=[iK,cF]) q6 b0 (opsA := #[iK,cF]) rfl bI (λq aP=>by rw [CB]at aP;cases aP) ?_
 intro dI w' M' β' c8;rw [wpOps];show if Region.wanted cF (yielded #[iK,cF] dI)=true then _ else _
 rw [if_pos (by unfold Region.wanted;rw [hg])]
 have aj:=c8.bj.ew (.slot t1) _ az
 obtain⟨base,len,cap,bY,hb⟩:∃(base:Option Addr) (len cap:Nat),dI.getD t1 undef = .slice base len cap∧(base=none→n=0):=by
  have eH:ce M' β' (dI.getD t1 undef) (.v (.bz k n get)):=aj;generalize dI.getD t1 undef=v at eH
  cases eH with
  |v _ _ hx=>
   cases hx with
   |jJ=>exact⟨none,0,0,rfl,λ_=>rfl⟩
   |l' a=>exact⟨some a,0,0,rfl,λh=>by cases h⟩
   |bz b off _ _ cap=>exact⟨some ⟨b,off,none⟩,_,cap,rfl,λh=>by cases h⟩
 obtain⟨e1,x7⟩:=Lt (s1 base.isNone);have i':=dG base.isNone (λh=>hb (by cases base with|none=>rfl|some _=>cases h))
 generalize pG (ik (gg P) tt N [iK,n1 cF base.isNone] g1 (n1 cF base.isNone))=g2 at e1 x7 i'
 have pH:=uI (ops:=[iK,n1 cF base.isNone]) c8 b0 (opsA := #[iK,n1 cF base.isNone]) rfl e1 (λq aP=>by rw [x7]at aP;cases aP)
  (Q:=λe dr w'=>∃eB bG,nR P K N eB bG e dr w'∧Q eB bG) (next:=λdr w'=>∃eB bG,nR P K N eB bG .normal dr w'∧Q eB bG)
  (λaf7 Lv M2 oL ah=>⟨.normal,Ls g2,⟨rfl,rfl,ah.size,M2,oL,ah.bj⟩,i'⟩)
 rw [if_pos (by unfold Region.wanted n1;rw [hg])]at pH
 have hx:(execOp (Act.eval ⟨dI,K.ds⟩) cF).run P w' = .ok (.value (.bool base.isNone)) w':=by
  rw [sB];refine nM (a:=.slice base len cap) (b:=.slice none 0 0) ab bY rfl (qI (by simp) (by simp)) ?_
  exact Lib.run_eql_slice_nil w' ty e base len cap 0 0 mq
 refine .inl (show Oper.upon P cF ⟨dI,K.ds⟩ _ _ ((execOp (Act.eval ⟨dI,K.ds⟩) cF).run P w') from(?_))
 rw [hx,Oper.upon_value,wpOps];rcases pH with pH|⟨pH,_⟩
 ·unfold Oper.wp at pH;rw [show(execOp (Act.eval ⟨dI,K.ds⟩) (n1 cF base.isNone)).run P w' = .ok (.value (.bool base.isNone)) w' from rfl,Oper.upon_value]at pH
  exact pH
 ·exact absurd pH.1 (by intro bu;have:noRoomEvent∈(#[]:Array Event):=bu;cases this with|mk h=>cases h)
end
end Go.Ab

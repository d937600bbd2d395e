/- The abstract machine: a step of code over plain data, proved against the model. -/
import Derived.Orders
import Derived.Scope
import Derived.Recover
import Derived.Lib.Builder
import Derived.Lib.UnsafeStr
import Derived.ChangeSame
import Derived.OpenShut
import Derived.ReadAgain
import Derived.Test.YtcjbfnojhpfchaaGreatDoorMachB
set_option linter.all false
namespace Go.Ab
def kF:List Prop→Prop
 |[]=>True
 |p::l=>p∧kF l
def kF.mem:∀{l:List Prop},kF l→∀q,q∈l→q
 |[],_,q,h=>by cases h
 |p::l,hp,q,h=>by
  rcases List.mem_cons.1 h with rfl|h
  ·exact hp.1
  ·exact kF.mem hp.2 q h
section
variable {P:Program} {N E:Nat} {st:aC} {tt:dq}
def aT.cut{x y:Code}{Q:b_→aC→Prop}(J:aC→Prop)(Z:aT P N E x (b_.then J Q) st)(aa:∀bR,J bR→aT P N E y Q bR):aT P N E (.seq x y) Q st:=
 aT.seq (Z.mono λfl bR h=>by cases fl<;>first|exact aa bR h|exact h)
def b_.oE{next:aC→Prop}{Q:b_→aC→Prop}(h:next st):b_.then next Q .normal st:=h
def b_.Tb{next:aC→Prop}{Q:b_→aC→Prop}{x:V}(h:Q (.az x) st):b_.then next Q (.az x) st:=h
def b_.acd{Q:b_→aC→Prop}{i:Nat}(h:Q .normal st):b_.inBlock i Q (.exit i) st:=by simpa [b_.inBlock]using h
def b_.ace{Q:b_→aC→Prop}{i j:Nat}(dj:Nat.beq j i=false)(h:Q (.exit j) st):b_.inBlock i Q (.exit j) st:=by
 have:j≠i:=by rintro rfl;simp at dj
 simpa [b_.inBlock,this]using h
def acf {f : FuncId} {fn : Func} {c : Code} {args : List D} {dN : List (Nat × TypeId)} {H cu : List (List aP)} {out : Out} (cf : e_ P tt = true) (bJ : P.funcs[f]? = some fn) (hb : fn.body = some c) (js : decide (fn.name = "runtime.NumGoroutine") = false)
 (ey:Nat.ble args.length fn.ntmps=true) (h:aT P fn.ntmps H.length c (sU tt H.length fn.results.toList λo bB=>o=out∧bB=cu) {env:=hv args dN,H:=cy 0 H,aK:=H.length}):gA P f args dN H out cu:=
 qc.of_wp cf bJ hb js ey h
def acg{rs:List ResultVar}{out:Out}{cu:List (List aP)}(h:leave tt E rs st=some (out,cu)):sU tt E rs (λo bB=>o=out∧bB=cu) .ret st:=⟨out,cu,h,rfl,rfl⟩
def Ld{rs:List ResultVar}{out:Out}{cu:List (List aP)}(h:leave tt E rs st=some (out,cu)):sU tt E rs (λo bB=>o=out∧bB=cu) .normal st:=⟨out,cu,h,rfl,rfl⟩
def ach{rs:List ResultVar}{x:V}{cu:List (List aP)}(h:(EQ E st.H).map nL=some cu):sU tt E rs (λo bB=>o = .az x∧bB=cu) (.az x) st:=by
 rw [Option.map_eq_some_iff]at h;obtain⟨bB,Z,aa⟩:=h;exact⟨bB,Z,rfl,aa⟩
end
def aq{α:Type}(b:Bool)(x:Option α):Option α:=bif b then x else none
def rB{α:Type}{b:Bool}{x:Option α}{r:α}(h:aq b x=some r):b=true∧x=some r:=by
 cases b
 ·cases h
 ·exact⟨rfl,h⟩
def bind_some{α β:Type}{x:Option α}{f:α→Option β}{r:β}(h:Option.bind x f=some r):∃a,x=some a∧f a=some r:=Option.bind_eq_some_iff.1 h
def d'{α:Type}{b:Bool}{x y z:α}(hb:b=true)(h:(bif b then x else y)=z):x=z:=by subst hb;exact h
def mw{c x:Bool}(h:(!c||x)=true)(hc:c=true):x=true:=by subst hc;simpa using h
def iA{c x:Bool}(h:(c||x)=true)(hc:c=false):x=true:=by subst hc;simpa using h
def ae{α:Type}[Inhabited α](k:Nat)(e:α→V)(l:List α):V:=.bq k l.length λi=>e (l.getD i default)
def hL(x:V):gM x x:=λ_ _ h=>h
def qi{k n:Nat}{g ew:Nat→V}(h:∀i,i<n→g i=ew i):gM (.bq k n g) (.bq k n ew):=by
 intro M v am;cases am with
 |mh=>exact .mh _ _
 |p2=>exact .p2 _ _ _
 |bq b off k n cap g val hc hk cF Z ah=>
  exact .bq b off k n cap ew val hc (λi hi=>by rw [←h i hi];exact hk i hi) cF Z (λi j c hi lq=>ah i j c hi (by rw [h i hi];exact lq))
def aci{α:Type}[Inhabited α]{k:Nat}{e:α→V}{xs:List V}{l:List α}(h:xs=l.map e)(n:Nat)(hn:n=l.length):gM (.bq k n λi=>xs.getD i .dW) (ae k e l):=by
 subst h;subst hn;refine qi λi hi=>?_
 simp [List.getD,List.getElem?_eq_getElem hi]
def ju{α:Type}[Inhabited α]{k:Nat}{e:α→V}(l jK:List α):gM (.bq k (l.length+jK.length) λi=>bif Nat.blt i l.length then e (l.getD i default)else e (jK.getD (i-l.length) default)) (ae k e (l++jK)):=by
 rw [ae,List.length_append];refine qi λi hi=>?_
 by_cases h:i<l.length
 ·have hb:Nat.blt i l.length=true:=by simpa using h
  simp [hb,List.getD,List.getElem?_append_left h]
 ·have hb:Nat.blt i l.length=false:=by rw [Bool.eq_false_iff];simpa using h
  simp [hb,List.getD,List.getElem?_append_right (Nat.le_of_not_lt h)]
def Tc(l:List Int)(s:ano):gM (.bq 1 (l.length+s.length) λi=>bif Nat.blt i l.length then .int .u8 (l.getD i default)else .int .u8 (s.getD (i-l.length) 0).toNat) (ae 1 (λx=>.int .u8 x) (l++s.map λb=>(b.toNat:Int))):=by
 have ab:(l++s.map λb=>(b.toNat:Int)).length=l.length+s.length:=by simp
 rw [ae,ab];refine qi λi hi=>?_
 by_cases h:i<l.length
 ·have hb:Nat.blt i l.length=true:=by simpa using h
  simp [hb,List.getD,List.getElem?_append_left h]
 ·have hb:Nat.blt i l.length=false:=by rw [Bool.eq_false_iff];simpa using h
  have aa:i-l.length<s.length:=by omega
  simp [hb,List.getD,List.getElem?_append_right (Nat.le_of_not_lt h),aa]
def Td{α:Type}[Inhabited α]{k:Nat}{e:α→V}(l:List α)(b:Int)(h:0≤b∧b≤l.length):gM (.bq k b.toNat λi=>e (l.getD i default)) (ae k e (l.take b.toNat)):=by
 have:(l.take b.toNat).length=b.toNat:=by simp;omega
 rw [ae,this];exact qi λi hi=>by simp [List.getD,hi]
section
variable {P:Program} {N E:Nat} {st bR:aC}
def aT.drop{c:Code}{Q:b_→aC→Prop}(live w8:List Nat)(n:Nat)(ah:uw live w8 n st.env st.H st.aK=some bR)(bK:Nat.ble E n=true)(h:aT P N E c Q bR):aT P N E c Q st:=by
 rintro K d9 a w ⟨he,hd,dR,M,β,cw⟩
 obtain⟨AM,hs⟩:=cw.uw ah (λr b hb=>Nat.lt_of_lt_of_le (d9 r b hb) (by simpa using bK))
 exact h K d9 a w ⟨he,hd,dR,M,AM,hs⟩
end
def all_nil:kF []:=trivial
def all_cons{p:Prop}{l:List Prop}(h:p)(ab:kF l):kF (p::l):=⟨h,ab⟩
inductive ax(α β:Type) where
 |ret (a:α) (b:β)
 |az (x:V) (b:β)
def ax.on{α β dm:Type}(x:ax α β)(f:α→β→dm)(g:V→β→dm):dm:=
 match x with
 |.ret a b=>f a b
 |.az x b=>g x b
def hM{b:Bool}(h:b=false):(!b)=true:=by subst h;rfl
def Le{a b:Bool}(h:a=true)(aa:b=true):(a&&b)=true:=by subst h;subst aa;rfl
inductive kG:List V→List V→Prop where
 |nil:kG [] []
 |cons {x y:V} {xs ys:List V} (h:gM x y) (ab:kG xs ys):kG (x::xs) (y::ys)
def kG.len:∀{xs ys:List V},kG xs ys→xs.length=ys.length
 |_,_,.nil=>rfl
 |_,_,.cons _ ab=>by simp [ab.len]
def kG.at:∀{xs ys:List V},kG xs ys→∀(i:Nat) {y:V},ys[i]? = some y→∃x,xs[i]? = some x∧gM x y
 |_,_,.nil,i,y,h=>by simp at h
 |_,_,.cons h ab,i,y,bV=>by
  cases i with
  |zero=>simp at bV;subst bV;exact⟨_,rfl,h⟩
  |succ i=>simp at bV;simpa using ab.at i bV
def Te{xs ys:List V}(h:kG xs ys):gM (.agg xs) (.agg ys):=by
 intro M v am;cases am with
 |agg vs cs hn Z ah=>
  refine .agg vs ys (hn.trans h.len) Z (λi v c am hc=>?_)
  obtain⟨x,hx,hi⟩:=h.at i hc;exact hi M v (ah i v x am hx)
def acj{k n:Nat}{g ew:Nat→V}(h:∀i,i<n→kG (g i).cells (ew i).cells):gM (.bq k n g) (.bq k n ew):=by
 intro M v am;cases am with
 |mh=>exact .mh _ _
 |p2=>exact .p2 _ _ _
 |bq b off k n cap g val hc hk cF Z ah=>
  refine .bq b off k n cap ew val hc (λi hi=>by rw [←(h i hi).len];exact hk i hi) cF Z (λi j c hi lq=>?_)
  obtain⟨x,hx,ack⟩:=(h i hi).at j lq;exact ack M _ (ah i j x hi hx)
inductive lz{α:Type}(e:α→V):List V→List α→Prop where
 |nil:lz e [] []
 |cons {x:V} {y:α} {xs:List V} {ys:List α} (h:kG x.cells (e y).cells) (ab:lz e xs ys):lz e (x::xs) (y::ys)
def lz.len{α:Type}{e:α→V}:∀{xs:List V} {ys:List α},lz e xs ys→xs.length=ys.length
 |_,_,.nil=>rfl
 |_,_,.cons _ ab=>by simp [ab.len]
def lz.at{α:Type}[Inhabited α]{e:α→V}:∀{xs:List V} {ys:List α},lz e xs ys→∀(i:Nat),i<ys.length→kG (xs.getD i .dW).cells (e (ys.getD i default)).cells
 |_,_,.nil,i,h=>by simp at h
 |_,_,.cons h ab,i,bV=>by
  cases i with
  |zero=>simpa using h
  |succ i=>simpa using ab.at i (by simpa using bV)
def ES{α:Type}[Inhabited α]{k:Nat}{e:α→V}{xs:List V}{l:List α}(h:lz e xs l)(n:Nat)(hn:n=l.length):gM (.bq k n λi=>xs.getD i .dW) (ae k e l):=by
 subst hn;exact acj λi hi=>h.at i hi
section
variable {tt:dq} {g1 g2:c8} {p:Path} {o:Oper} {ops:List Oper} {bZ:ge}
def Lf{x:Operand}(h:∀t,x = .tmp t→look g1.env t=look g2.env t∧look g1.bO t=look g2.bO t)(p:Path)(ty:TypeId):rd g1.env g1.bO p tt ty x=rd g2.env g2.bO p tt ty x:=by
 cases x with
 |tmp t=>
  obtain⟨Z,aa⟩:=h t rfl;simp only [rd,Z,aa]
 |const v=>cases v with
  |slice a n c=>cases a<;>cases n<;>cases c<;>rfl
  |_=>rfl
 |global _=>rfl
 |func _=>rfl
def acl{x:Operand}(h:∀t,x = .tmp t→look g1.env t=look g2.env t):o8 g1 x=o8 g2 x:=by
 cases x with
 |tmp t=>simp only [o8,h t rfl]
 |_=>rfl
def AN{α β:Type}{f sW:α→Option β}:∀{l:List α},(∀x,x∈l→f x=sW x)→mapM' f l=mapM' sW l
 |[],_=>rfl
 |x::l,h=>by simp only [mapM',h x (by simp),AN (l:=l) λy bV=>h y (by simp [bV])]
def Lg{f sW:TypeId→Operand→Option D}:∀{l:List Operand} {ts:List TypeId},(∀x,x∈l→∀t,f t x=sW t x)→ln f l ts=ln sW l ts
 |[],_,_=>by simp [ln]
 |x::l,[],_=>by simp [ln]
 |x::l,t::ts,h=>by simp only [ln,h x (by simp) t,Lg (l:=l) (ts:=ts) λy bV=>h y (by simp [bV])]
def iB(tt:dq)(g:c8)(p:Path)(o:Oper):List Nat:=
 match o.op with
 |.alloc _ |.box _ _=>match o.dst.bind (look g.ids)with |some id=>[id] |none=>[]
 |.load _ a=>match rd g.env g.bO p tt o.type a with |some (.ptr q _)=>[q] |_=>[]
 |.store _ a _=>match rd g.env g.bO p tt o.type a with |some (.ptr q _)=>[q] |_=>[]
 |.call c=>match c.callee with
  |.value x=>match rd g.env g.bO p tt o.type x,ln (rd g.env g.bO p tt) c.args.toList c.argTypes.toList with
   |some (.fn _ eN),some ds=>ot g.H 2 (dedup ((ds++eN).flatMap refs))
   |_,_=>[]
  |_=>[]
 |_=>[]
def ET{x:Nat}:∀{l:List Nat},x∈l→x∈dedup l
 |y::l,h=>by
  simp only [dedup];rw [Bool.cond_eq_ite];split
  ·rename_i bV;rcases List.mem_cons.1 h with rfl|h
   ·obtain⟨z,cx,acm⟩:=List.any_eq_true.1 bV;have:x=z:=by simpa using acm
    subst this;exact cx
   ·exact ET h
  ·rcases List.mem_cons.1 h with rfl|h
   ·simp
   ·exact List.mem_cons_of_mem _ (ET h)
def Tf{H:List (Nat×List aP)}:∀{n:Nat} {l:List Nat} {x:Nat},x∈l→x∈ot H n l
 | 0,_,_,h=>h
 |n+1,_,_,h=>Tf (n:=n) (ET (List.mem_append_left _ h))
def Tg{α β:Type}{f sW:α→List β}:∀{l:List α},(∀x,x∈l→f x=sW x)→l.flatMap f=l.flatMap sW
 |[],_=>rfl
 |x::l,h=>by simp only [List.flatMap_cons,h x (by simp),Tg (l:=l) λy bV=>h y (by simp [bV])]
def Lh{H1 cu:List (Nat×List aP)}:∀{n:Nat} {l:List Nat},(∀q,q∈ot H1 n l→look H1 q=look cu q)→ot H1 n l=ot cu n l
 | 0,_,_=>rfl
 |n+1,l,h=>by
  simp only [ot]at h ⊢
  have:(l.flatMap λr=>((look H1 r).getD []).flatMap λe=>refs e.d)=l.flatMap λr=>((look cu r).getD []).flatMap λe=>refs e.d:=
   Tg λr ah=>by rw [h r (Tf (ET (List.mem_append_left _ ah)))]
  rw [←this];exact Lh h
def Th{H1 cu:List (Nat×List aP)}:∀{l:List Nat},(∀q,q∈l→look H1 q=look cu q)→boxes H1 l=boxes cu l
 |[],_=>rfl
 |r::l,h=>by simp only [boxes,h r (by simp),Th (l:=l) λq ak=>h q (by simp [ak])]
def Ti{xs:List Operand}{ts:List TypeId}(hs:∀t,Operand.tmp t∈xs→look g1.env t=look g2.env t∧look g1.bO t=look g2.bO t):∀os:List Nat,handed tt g1 xs ts os=handed tt g2 xs ts os
 |[]=>rfl
 |i::os=>by
  simp only [handed,Ti hs os];split
  ·rename_i t l hx ab;obtain⟨Z,aa⟩:=hs t (List.mem_of_getElem? hx);rw [Z,aa]
  ·rfl
  ·rfl
def acn{xs:List Operand}{ts:List TypeId}{f:FuncId}{args:List D}(hs:∀t,Operand.tmp t∈xs→look g1.env t=look g2.env t∧look g1.bO t=look g2.bO t)(eu:g1.rs=g2.rs)(eU:∀q,q∈ot g1.H 2 (dedup (args.flatMap refs))→look g1.H q=look g2.H q):w1 bZ tt g1 p xs ts f args=w1 bZ tt g2 p xs ts f args:=by
 have Z:ot g1.H 2 (dedup (args.flatMap refs))=ot g2.H 2 (dedup (args.flatMap refs)):=Lh eU;unfold w1;simp only [←Z,←eu,←Th eU,←λos=>Ti (tt:=tt) (ts:=ts) hs os]
def qj(o:Oper):Bool:=
 match o.op with
 |.alloc _ |.box _ _=>true
 |_=>false
def Tj(qk:g1.ids=g2.ids)(hn:g1.aK=g2.aK)(eU:∀id,o.dst.bind (look g1.ids)=some id→look g1.H id=look g2.H id):nC g1 o=nC g2 o:=by
 unfold nC;rw [←qk,←hn];split
 ·rename_i id h;rw [eU id h]
 ·rfl
def Li(hs:∀x,x∈o.op.operands.toList→∀t,x = .tmp t→look g1.env t=look g2.env t∧look g1.bO t=look g2.bO t)(eu:g1.rs=g2.rs)(qk:g1.ids=g2.ids)
 (hn:qj o=true→g1.aK=g2.aK) (eU:∀q,q∈iB tt g1 p o→look g1.H q=look g2.H q):step1 bZ tt ops g1 p o=step1 bZ tt ops g2 p o:=by
 have R:∀x,x∈o.op.operands.toList→∀p ty,rd g1.env g1.bO p tt ty x=rd g2.env g2.bO p tt ty x:=λx hx p ty=>Lf (hs x hx) p ty
 have O:∀x,x∈o.op.operands.toList→o8 g1 x=o8 g2 x:=λx hx=>acl λt aB=>(hs x hx t aB).1
 cases an:o.op with
 |move x=>simp only [an,Op.operands]at R O;simp only [step1,an,R x (by simp),O x (by simp),eu]
 |assign x=>simp only [an,Op.operands]at R O;simp only [step1,an,R x (by simp),O x (by simp),eu]
 |pick c a b=>
  simp only [an,Op.operands]at R O;cases c with
  |tmp c=>simp only [step1,an,R (.tmp c) (by simp),R a (by simp),R b (by simp),eu]
  |_=>simp only [step1,an]
 |alloc t=>
  have hi:nC g1 o=nC g2 o:=Tj qk (hn (by simp [qj,an])) λid hid=>eU id (by simp [iB,an,hid])
  simp only [step1,an,eu,hi]
 |box t x=>
  have hi:nC g1 o=nC g2 o:=Tj qk (hn (by simp [qj,an])) λid hid=>eU id (by simp [iB,an,hid])
  simp only [an,Op.operands]at R O;simp only [step1,an,R x (by simp),eu,hi]
 |build t parts=>
  simp only [an,Op.operands]at R O
  have:mapM' (fun(i,x)=>(rd g1.env g1.bO p tt (ra tt t i) x).map λd=>(i,d)) parts.toList=mapM' (fun(i,x)=>(rd g2.env g2.bO p tt (ra tt t i) x).map λd=>(i,d)) parts.toList:=
   AN λy bV=>by
    obtain⟨i,x⟩:=y;simp only [R x (List.mem_map.2 ⟨(i,x),bV,rfl⟩)]
  simp only [step1,an,this,eu]
 |buildSlice t len parts=>
  simp only [an,Op.operands]at R O
  have:mapM' (fun(i,x)=>(rd g1.env g1.bO p tt (ra tt t i) x).map λd=>(i,d)) parts.toList=mapM' (fun(i,x)=>(rd g2.env g2.bO p tt (ra tt t i) x).map λd=>(i,d)) parts.toList:=
   AN λy bV=>by
    obtain⟨i,x⟩:=y;simp only [R x (List.mem_map.2 ⟨(i,x),bV,rfl⟩)]
  simp only [step1,an,this,eu]
 |load t a=>
  simp only [an,Op.operands]at R O;simp only [iB,an,R a (by simp)]at eU
  simp only [step1,an,R a (by simp),eu]
  split
  ·rename_i q off aE ha EF;simp only [ha]at eU;simp only [eU q (by simp)]
  ·rfl
  ·rfl
 |store t a x=>
  simp only [an,Op.operands]at R O;simp only [iB,an,R a (by simp)]at eU
  simp only [step1,an,R a (by simp),R x (by simp),O x (by simp),eu]
  split
  ·rename_i q off d aE ha hd EF;simp only [ha]at eU;simp only [eU q (by simp)]
  ·rfl
 |nilCheck x=>simp only [an,Op.operands]at R O;simp only [step1,an,R x (by simp),eu]
 |binOp op t x y t2=>simp only [an,Op.operands]at R O;simp only [step1,an,R x (by simp),R y (by simp),eu]
 |unOp op t x=>simp only [an,Op.operands]at R O;simp only [step1,an,R x (by simp),eu]
 |convert s t x=>simp only [an,Op.operands]at R O;simp only [step1,an,R x (by simp),eu]
 |makeInterface t x=>simp only [an,Op.operands]at R O;simp only [step1,an,R x (by simp),eu]
 |makeFunc fn first eN=>
  simp only [an,Op.operands]at R O;cases fn with
  |func f=>
   have:mapM' (rd g1.env g1.bO p tt o.type) eN.toList=mapM' (rd g2.env g2.bO p tt o.type) eN.toList:=AN λx hx=>R x (by rw [Array.toList_append];exact List.mem_append_right _ hx) _ _
   simp only [step1,an,this,eu]
  |_=>simp only [step1,an]
 |slice t x lo hi jF=>
  simp only [an,Op.operands]at R O
  have jM:lo.map (rd g1.env g1.bO p tt o.type)=lo.map (rd g2.env g2.bO p tt o.type):=by
   cases lo with
   |none=>rfl
   |some l=>simp [R l (by simp)]
  have i':hi.map (rd g1.env g1.bO p tt o.type)=hi.map (rd g2.env g2.bO p tt o.type):=by
   cases hi with
   |none=>rfl
   |some l=>simp [R l (by simp)]
  have Lj:jF.map (rd g1.env g1.bO p tt o.type)=jF.map (rd g2.env g2.bO p tt o.type):=by
   cases jF with
   |none=>rfl
   |some m=>simp [R m (by simp)]
  simp only [step1,an,R x (by simp),jM,i',Lj,eu]
 |fieldAddr s x f=>simp only [an,Op.operands]at R O;simp only [step1,an,R x (by simp),eu]
 |field s x f=>simp only [an,Op.operands]at R O;simp only [step1,an,R x (by simp),eu]
 |indexAddr t x i=>simp only [an,Op.operands]at R O;simp only [step1,an,R x (by simp),R i (by simp),eu]
 |index t x i=>simp only [an,Op.operands]at R O;simp only [step1,an,R x (by simp),R i (by simp),eu]
 |typeAssert x a t ok=>simp only [an,Op.operands]at R O;simp only [step1,an,R x (by simp),eu]
 |extract x i=>simp only [an,Op.operands]at R O;simp only [step1,an,R x (by simp),eu]
 |panic x=>simp only [an,Op.operands]at R O;simp only [step1,an,R x (by simp)]
 |call c=>
  simp only [an,Op.operands,Call.operands]at R O hs;cases hc:c.callee with
  |value x=>
   have hx:=R x (by simp [hc])
   have ha:ln (rd g1.env g1.bO p tt) c.args.toList c.argTypes.toList=ln (rd g2.env g2.bO p tt) c.args.toList c.argTypes.toList:=Lg λy bV t=>R y (by rw [Array.toList_append];exact List.mem_append_right _ bV) p t
   simp only [iB,an,hc,hx,ha]at eU;simp only [step1,an,hc,hx,ha];split
   ·rename_i f eN ds Z aa;simp only [Z,aa]at eU;exact acn (λt aB=>hs (.tmp t) (by rw [Array.toList_append];exact List.mem_append_right _ aB) t rfl) eu eU
   ·rfl
  |invoke x m=>simp only [step1,an,hc]
  |builtin b=>
   have ha:mapM' (λy=>rd g1.env g1.bO p tt o.type y) c.args.toList=mapM' (λy=>rd g2.env g2.bO p tt o.type y) c.args.toList:=AN λx hx=>R x (by rw [Array.toList_append];exact List.mem_append_right _ hx) _ _
   cases b with
   |len=>simp only [step1,an,hc,ha,eu]
   |min=>simp only [step1,an,hc,ha,eu]
   |max=>simp only [step1,an,hc,ha,eu]
   |append=>
    simp only [step1,an,hc,eu];split
    ·rename_i t x e e0 amf amg _ t2 ab _ _;have hm:∀y,y∈[Operand.tmp t,x]→y∈(match c.callee with|.value f => #[f] |.invoke r _ => #[r] |.builtin _ => #[]:Array Operand).toList++c.args.toList:=λy bV=>by rw [ab];exact List.mem_append_right _ bV
     have jN:∀y,y∈[Operand.tmp t,x]→y∈((match c.callee with|.value f => #[f] |.invoke r _ => #[r] |.builtin _ => #[]:Array Operand)++c.args).toList:=λy bV=>by rw [Array.toList_append];exact hm y bV
     simp only [R (.tmp t) (jN _ (by simp)),R x (jN _ (by simp)),(hs (.tmp t) (jN _ (by simp)) t rfl).1]
    ·rfl
   |_=>simp only [step1,an,hc]
 |_=>simp only [step1,an]
end
structure dS where
 dst:Option Nat
 p:Path
 f:kR
 jO:List Nat
 mY:List Nat
 pn:Bool
 rs:List e6
 eA:Nat:=0
 u5:V:=.dW
 po:List (Nat×List aP):=[]
 sX:List (Nat×List aP):=[]
 nM:Nat:=0
def pp(ops:List Oper)(o:Oper):List Nat:=
 (o.op.operands.toList.filterMap fun|.tmp t=>some t|_=>none)++(match o.guard with
  |some (j,_)=>((ops[j]?).bind (·.dst)).toList
  |none=>[])
def dY(E:dS)(g:c8):c8:=
 match E.dst with
 |none=>{g with env:=gN E.f.g0 g.env,H:=E.f.hs++g.H,aK:=g.aK+E.f.eZ}
 |some t=>match E.p with
  |[]=>{g with
   env:=match E.f.e with|some e=>(t,e)::gN E.f.g0 g.env|none=>del (gN E.f.g0 g.env) t
   bO:=del g.bO t,H:=E.f.hs++g.H,aK:=g.aK+E.f.eZ}
  |_::_=>match E.f.e with
   |some e=>{g with env:=del g.env t,bO:=(t,E.p,e.d)::del g.bO t}
   |none=>g
def nN(E:dS):List Nat:=E.dst.toList++E.f.g0
def oF(E:dS):List Nat:=E.f.hs.map (·.1)
def xu{α:Type}:∀(a b:List (Nat×α)) (q:Nat),look (a++b) q=(match look a q with|some x=>some x|none=>look b q)
 |[],_,_=>rfl
 |(j,x)::a,b,q=>by
  simp only [List.cons_append,dC,xu a b q];by_cases h:j=q<;>simp [h]
def Tk{α:Type}:∀{a:List (Nat×α)} {q:Nat},q∉a.map (·.1)→look a q=none
 |[],_,_=>rfl
 |(j,x)::a,q,h=>by
  simp only [List.map_cons,List.mem_cons,not_or]at h;rw [dC,if_neg (Ne.symm h.1)];exact Tk h.2
section
variable {E:dS} {g g1 g2:c8}
def mx(g1 g2:c8)(t:Nat):Prop:=look g1.env t=look g2.env t∧look g1.bO t=look g2.bO t
def u6(g1 g2:c8)(q:Nat):Prop:=look g1.H q=look g2.H q
def u7{t:Nat}(h:t∉nN E):mx (dY E g) g t:=by
 simp only [nN,List.mem_append,not_or]at h;unfold mx dY;cases hd:E.dst with
 |none=>simp only [nG,if_neg h.2,and_self]
 |some u=>
  have hu:u≠t:=by rintro rfl;simp [hd]at h
  cases hp:E.p with
  |nil=>
   dsimp only
   cases he:E.f.e with
   |some e=>simp only [dC,if_neg hu,nG,if_neg h.2,p7,and_self]
   |none=>simp only [nG,if_neg h.2,p7,if_neg hu,and_self]
  |cons x p=>
   dsimp only
   cases he:E.f.e with
   |some e=>simp only [dC,if_neg hu,p7,and_self]
   |none=>exact⟨rfl,rfl⟩
def Lk{t:Nat}(h:mx g1 g2 t):mx (dY E g1) (dY E g2) t:=by
 obtain⟨Z,aa⟩:=h;unfold mx dY;cases hd:E.dst with
 |none=>simp only [nG,Z,aa,and_self]
 |some u=>
  cases hp:E.p with
  |nil=>
   dsimp only
   cases he:E.f.e with
   |some e=>simp only [dC,nG,Z,aa,p7,and_self]
   |none=>simp only [nG,p7,Z,aa,and_self]
  |cons x p=>
   dsimp only
   cases he:E.f.e with
   |some e=>simp only [dC,p7,Z,aa,and_self]
   |none=>exact⟨Z,aa⟩
def Ll:(dY E g).H=E.f.hs++g.H∨(dY E g).H=g.H:=by
 unfold dY;cases E.dst with
 |none=>exact .inl rfl
 |some u=>
  cases E.p with
  |nil=>exact .inl rfl
  |cons x p=>dsimp only;cases E.f.e<;>exact .inr rfl
def xv{q:Nat}(h:q∉oF E):u6 (dY E g) g q:=by
 unfold u6;rcases Ll (E:=E) (g:=g)with Z|Z<;>rw [Z]
 rw [xu,Tk h]
def Lm{q:Nat}(h:u6 g1 g2 q):u6 (dY E g1) (dY E g2) q:=by
 unfold u6 at *;unfold dY;cases E.dst with
 |none=>simp only [xu,h]
 |some u=>
  cases E.p with
  |nil=>simp only [xu,h]
  |cons x p=>dsimp only;cases E.f.e<;>exact h
def xw(E:dS):Nat:=
 match E.dst with
 |none=>E.f.eZ
 |some _=>match E.p with
  |[]=>E.f.eZ
  |_::_=>0
def EU:(dY E g).aK=g.aK+xw E:=by
 unfold dY xw;cases E.dst with
 |none=>rfl
 |some u=>
  cases E.p with
  |nil=>rfl
  |cons x p=>dsimp only;cases E.f.e<;>rfl
structure Alike(g1 g2:c8):Prop where
 slot:∀t,mx g1 g2 t
 box:∀q,u6 g1 g2 q
 aK:g1.aK=g2.aK
 ids:g1.ids=g2.ids
def EV:(dY E g).ids=g.ids:=by
 unfold dY;cases E.dst with
 |none=>rfl
 |some u=>
  cases E.p with
  |nil=>rfl
  |cons x p=>dsimp only;cases E.f.e<;>rfl
def Alike.refl:Alike g g:=⟨λ_=>⟨rfl,rfl⟩,λ_=>rfl,rfl,rfl⟩
def Alike.symm(h:Alike g1 g2):Alike g2 g1:=⟨λt=>⟨(h.slot t).1.symm,(h.slot t).2.symm⟩,λq=>(h.box q).symm,h.aK.symm,h.ids.symm⟩
def Alike.trans{g3:c8}(h:Alike g1 g2)(cq:Alike g2 g3):Alike g1 g3:=⟨λt=>⟨(h.slot t).1.trans (cq.slot t).1,(h.slot t).2.trans (cq.slot t).2⟩,λq=>(h.box q).trans (cq.box q),h.aK.trans cq.aK,h.ids.trans cq.ids⟩
def Alike.ap(h:Alike g1 g2):Alike (dY E g1) (dY E g2):=
 ⟨λt=>Lk (h.slot t),λq=>Lm (h.box q),(by simp only [EU,h.aK]),by simp only [EV,h.ids]⟩
def sep(a b:List Nat):Bool:=a.all λx=>!b.any (Nat.beq x)
def u9{a b:List Nat}(h:sep a b=true){x:Nat}(ha:x∈a):x∉b:=by
 intro hb;have:=List.all_eq_true.1 h x ha
 simp only [Bool.not_eq_true',List.any_eq_false]at this;exact this x hb (by simp)
def AO(E cQ:dS):Bool:=
 sep (nN E) cQ.mY&&sep (nN E) (nN cQ)&&sep (nN cQ) E.mY&&(sep (oF E) cQ.jO||Nat.beq E.nM 2&&Nat.beq cQ.nM 1)&&sep (oF E) (oF cQ)&&(sep (oF cQ) E.jO||Nat.beq cQ.nM 2&&Nat.beq E.nM 1)&&(!E.pn||Nat.beq (xw cQ) 0)&&(!cQ.pn||Nat.beq (xw E) 0)
def aco{E cQ:dS}(Z:sep (nN E) (nN cQ)=true)(aa:sep (oF E) (oF cQ)=true):Alike (dY E (dY cQ g)) (dY cQ (dY E g)):=by
 refine⟨λt=>?_,λq=>?_,?_,by simp only [EV]⟩
 ·by_cases aB:t∈nN E
  ·have ez:=u9 Z aB;have a:mx (dY E (dY cQ g)) (dY E g) t:=Lk (u7 ez);have b:mx (dY cQ (dY E g)) (dY E g) t:=u7 ez;exact⟨a.1.trans b.1.symm,a.2.trans b.2.symm⟩
  ·have a:mx (dY E (dY cQ g)) (dY cQ g) t:=u7 aB;have b:mx (dY cQ (dY E g)) (dY cQ g) t:=Lk (u7 aB);exact⟨a.1.trans b.1.symm,a.2.trans b.2.symm⟩
 ·by_cases aB:q∈oF E
  ·have ez:=u9 aa aB;exact(Lm (E:=E) (xv (E:=cQ) (g:=g) ez)).trans (xv (E:=cQ) (g:=dY E g) ez).symm
  ·exact(xv (E:=E) (g:=dY cQ g) aB).trans (Lm (E:=cQ) (xv (E:=E) (g:=g) aB)).symm
 ·simp only [EU];omega
end
section
variable {tt:dq} {ops:List Oper} {bZ:ge} {o:Oper} {E:dS} {g g1 g2:c8}
def Tl(h:∀t,t∈pp ops o→mx g1 g2 t):o_ ops g1 o=o_ ops g2 o:=by
 unfold o_;split
 ·rfl
 ·rename_i j w hg;cases aB:(ops[j]?).bind (·.dst) with
  |none=>rfl
  |some t=>
   have:=h t (by simp [pp,hg,aB])
   simp only [this.1,this.2]
def EW:∀{p:Path} {q:Prop},(∀x,x∈p→mx g1 g2 x.1)→under g1 p q=under g2 p q
 |[],_,_=>rfl
 |(t,w)::p,q,h=>by
  have aB:=h (t,w) (by simp)
  have aF:=EW (p:=p) (q:=q) λx hx=>h x (by simp [hx])
  have:zV g1.env g1.bO t=zV g2.env g2.bO t:=by unfold zV;rw [aB.1,aB.2]
  simp only [under,this,aF]
def acp{p:Path}(hs:∀x,x∈o.op.operands.toList→∀t,x = .tmp t→look g1.env t=look g2.env t∧look g1.bO t=look g2.bO t)(qk:g1.ids=g2.ids)(eU:∀q,q∈iB tt g1 p o→look g1.H q=look g2.H q):iB tt g1 p o=iB tt g2 p o:=by
 have R:∀x,x∈o.op.operands.toList→∀p ty,rd g1.env g1.bO p tt ty x=rd g2.env g2.bO p tt ty x:=λx hx p ty=>Lf (hs x hx) p ty
 cases an:o.op with
 |alloc t=>simp only [iB,an,qk]
 |box t x=>simp only [iB,an,qk]
 |load t a=>simp only [an,Op.operands]at R;simp only [iB,an,R a (by simp)]
 |store t a x=>simp only [an,Op.operands]at R;simp only [iB,an,R a (by simp)]
 |call c=>
  simp only [an,Op.operands,Call.operands]at R;cases hc:c.callee with
  |value x=>
   have hx:=R x (by simp [hc])
   have ha:ln (rd g1.env g1.bO p tt) c.args.toList c.argTypes.toList=ln (rd g2.env g2.bO p tt) c.args.toList c.argTypes.toList:=Lg λy bV t=>R y (by rw [Array.toList_append];exact List.mem_append_right _ bV) p t
   simp only [iB,an,hc,hx,ha]at eU ⊢;split
   ·rename_i f eN ds Z aa;simp only [Z,aa]at eU;exact Lh eU
   ·rfl
  |_=>simp only [iB,an,hc]
 |_=>simp only [iB,an]
structure Ln(bZ:ge)(tt:dq)(ops:List Oper)(o:Oper)(E:dS)(g:c8):Prop where
 EX:o_ ops g o=some E.p
 st:step1 bZ tt ops {g with rs:=E.rs} E.p o=some (bif Nat.beq E.eA 0 then .go E.f else .az E.u5 E.po E.f.aO)
 aO:∀q,q∈E.f.aO→under g E.p q
 jO:∀q,q∈iB tt g E.p o→q∈E.jO
 fin:E.eA=1→∀q,q∈E.jO→look g.H q=look E.sX q
def Can(bZ:ge)(tt:dq)(ops:List Oper)(o:Oper)(E:dS)(g:c8):Prop:=E.eA=2∨Ln bZ tt ops o E g
def Can.congr(h:Can bZ tt ops o E g1)(u':∀t,t∈pp ops o++E.p.map (·.1)→t∈E.mY)(xx:qj o=E.pn)(hs:∀t,t∈E.mY→mx g1 g2 t)(hb:∀q,q∈E.jO→u6 g1 g2 q)(hn:E.pn=true→g1.aK=g2.aK)(qk:g1.ids=g2.ids):Can bZ tt ops o E g2:=by
 rcases h with h|h
 ·exact .inl h
 right
 have fC:∀x,x∈o.op.operands.toList→∀t,x = .tmp t→look g1.env t=look g2.env t∧look g1.bO t=look g2.bO t:=by
  rintro x hx t rfl
  exact hs t (u' t (List.mem_append_left _ (by simp only [pp,List.mem_append,List.mem_filterMap];exact .inl ⟨_,hx,rfl⟩)))
 have lx:iB tt g1 E.p o=iB tt g2 E.p o:=acp fC qk (λq ak=>hb q (h.jO q ak))
 refine⟨?_,?_,λq ak=>?_,(by rw [←lx];exact h.jO),λhk q ak=>(hb q ak).symm.trans (h.fin hk q ak)⟩
 ·rw [←Tl (g1:=g1) (g2:=g2) λt aB=>hs t (u' t (List.mem_append_left _ aB))];exact h.EX
 ·rw [←h.st];refine(Li (g1:={g1 with rs:=E.rs}) (g2:={g2 with rs:=E.rs}) fC rfl qk (λhm=>hn (by rw [←xx];exact hm)) (λq ak=>hb q ?_)).symm
  exact h.jO q ak
 ·rw [←EW (g1:=g1) (g2:=g2) λx hx=>hs x.1 (u' _ (List.mem_append_right _ (List.mem_map.2 ⟨x,hx,rfl⟩)))]
  exact h.aO q ak
def u_(o:Oper)(rs:List e6):Nat:=
 match o.op with
 |.load _ _=>match rs with
  |.own::_=>2
  |_=>1
 |_=>0
def sY(g1 g2:c8)(q:Nat):Prop:=(look g1.H q).map (·.map (·.d))=(look g2.H q).map (·.map (·.d))
def Tm:∀(cs:List aP) (off:Nat) (e:aP),cs[off]? = some e→(setAt cs off [{d:=e.d}]).map (·.d)=cs.map (·.d)
 |[],off,e,h=>by simp at h
 |c::cs,0,e,h=>by
  simp only [List.getElem?_cons_zero,Option.some.injEq]at h;subst h;simp [setAt]
 |c::cs,off+1,e,h=>by
  simp only [List.getElem?_cons_succ]at h;simp only [setAt,List.map_cons,Tm cs off e h]
def acq(h:Ln bZ tt ops o E g)(ab:u_ o E.rs=2)(hk:E.eA=0)(q:Nat):sY (dY E g) g q:=by
 have cS:=h.st;rw [hk]at cS;unfold u_ at ab;split at ab
 case h_2=>cases ab
 rename_i t a an;simp only [step1,an,show Nat.beq 0 0=true from rfl,cond_true]at cS
 have nil:E.f.hs=[]→sY (dY E g) g q:=by
  intro bh;unfold sY;rcases Ll (E:=E) (g:=g)with Z|Z<;>rw [Z]
  rw [bh];rfl
 split at cS
 ·rename_i acr off aE ah bm;split at cS
  ·rename_i cs dQ;rw [Bool.cond_eq_ite]at cS;split at cS
   ·rw [Bool.cond_eq_ite]at cS;split at cS
    ·simp only [Option.map_some,Option.some.injEq,nB.go.injEq]at cS;exact nil (by rw [←cS])
    ·cases cS
   ·split at cS
    ·rename_i e he;split at cS
     ·rw [Bool.cond_eq_ite]at cS;split at cS
      ·simp only [Option.some.injEq,nB.go.injEq]at cS;unfold sY;rcases Ll (E:=E) (g:=g)with Z|Z<;>rw [Z]
       rw [←cS];simp only [List.cons_append,List.nil_append,dC];split
       ·rename_i ak;subst ak;rw [dQ];simp only [Option.map_some,Tm cs off e he]
       ·rfl
      ·cases cS
     ·simp only [Option.map_some,Option.some.injEq,nB.go.injEq]at cS;exact nil (by rw [←cS])
    ·cases cS
  ·cases cS
 ·rename_i x aE ah bm;rw [Bool.cond_eq_ite]at cS;split at cS
  ·simp only [Option.map_some,Option.some.injEq,nB.go.injEq]at cS;exact nil (by rw [←cS])
  ·cases cS
 ·cases cS
def acs{p:Path}{rs:List e6}{t:TypeId}{a:Operand}(an:o.op = .load t a)(eu:∀l,rs ≠ .own::l)(R:rd g1.env g1.bO p tt o.type a=rd g2.env g2.bO p tt o.type a)(act:∀q off,rd g2.env g2.bO p tt o.type a=some (.ptr q off)→sY g1 g2 q):
 step1 bZ tt ops {g1 with rs:=rs} p o=step1 bZ tt ops {g2 with rs:=rs} p o:=by
 simp only [step1,an,R];split
 ·rename_i q off aE ah bm;have hd:=act q off ah;unfold sY at hd;cases Z:look g1.H q with
  |none=>
   rw [Z]at hd;cases aa:look g2.H q with
   |none=>rfl
   |some c2=>rw [aa]at hd;cases hd
  |some c1=>
   rw [Z]at hd;cases aa:look g2.H q with
   |none=>rw [aa]at hd;cases hd
   |some c2=>
    rw [aa]at hd;simp only [Option.map_some,Option.some.injEq]at hd;have hlen:c1.length=c2.length:=by have:=congrArg List.length hd;simpa using this
    have acu:((c1.drop off).take aE.size).map (·.d)=((c2.drop off).take aE.size).map (·.d):=by rw [List.map_take,List.map_drop,hd,←List.map_drop,←List.map_take]
    have ix:(c1[off]?).map (·.d)=(c2[off]?).map (·.d):=by rw [←List.getElem?_map,hd,List.getElem?_map]
    simp only [hlen,acu];cases aE.k.isAgg with
    |true=>rfl
    |false=>
     simp only [cond_false];cases Tn:c1[off]? with
     |none=>
      rw [Tn]at ix;cases EY:c2[off]? with
      |none=>rfl
      |some e2=>rw [EY]at ix;cases ix
     |some e1=>
      rw [Tn]at ix;cases EY:c2[off]? with
      |none=>rw [EY]at ix;cases ix
      |some e2=>
       rw [EY]at ix;simp only [Option.map_some,Option.some.injEq]at ix;cases rs with
       |nil=>cases e1.own<;>cases e2.own<;>simp [ix]
       |cons r l=>
        cases r with
        |own=>exact absurd rfl (eu l)
        |val x=>cases e1.own<;>cases e2.own<;>simp [ix]
        |raw=>cases e1.own<;>cases e2.own<;>simp [ix]
        |call u v z=>cases e1.own<;>cases e2.own<;>simp [ix]
 ·rfl
 ·rfl
def Can.To(h:Can bZ tt ops o E g1)(ab:u_ o E.rs=1)(hk:E.eA=0)(u':∀t,t∈pp ops o++E.p.map (·.1)→t∈E.mY)(hs:∀t,t∈E.mY→mx g1 g2 t)(hb:∀q,sY g1 g2 q):Can bZ tt ops o E g2:=by
 rcases h with h|h
 ·exact .inl h
 right
 have fC:∀x,x∈o.op.operands.toList→∀t,x = .tmp t→look g1.env t=look g2.env t∧look g1.bO t=look g2.bO t:=by
  rintro x hx t rfl
  exact hs t (u' t (List.mem_append_left _ (by simp only [pp,List.mem_append,List.mem_filterMap];exact .inl ⟨_,hx,rfl⟩)))
 unfold u_ at ab;split at ab
 case h_2=>cases ab
 rename_i t a an
 have eu:∀l,E.rs ≠ .own::l:=by
  intro l e;rw [e]at ab;cases ab
 have R:rd g1.env g1.bO E.p tt o.type a=rd g2.env g2.bO E.p tt o.type a:=Lf (fC a (by simp [an,Op.operands])) _ _
 have lx:iB tt g1 E.p o=iB tt g2 E.p o:=by simp only [iB,an,R]
 refine⟨?_,?_,λq ak=>?_,(by rw [←lx];exact h.jO),λkE=>by rw [hk]at kE;cases kE⟩
 ·rw [←Tl (g1:=g1) (g2:=g2) λt aB=>hs t (u' t (List.mem_append_left _ aB))];exact h.EX
 ·rw [←h.st];exact(acs an eu R λq off _=>hb q).symm
 ·rw [←EW (g1:=g1) (g2:=g2) λx hx=>hs x.1 (u' _ (List.mem_append_right _ (List.mem_map.2 ⟨x,hx,rfl⟩)))]
  exact h.aO q ak
end
def ia(ops:List Oper)(o:Oper)(E:dS):Bool:=acv (pp ops o++E.p.map (·.1)) E.mY&&(qj o == E.pn)&&decide (E.dst=o.dst)&&(match E.f.rs with|[]=>true|_=>false)&&(Nat.beq E.nM 0||Nat.beq E.nM (u_ o E.rs)&&Nat.beq E.eA 0)
where acv (a b:List Nat):Bool:=a.all λx=>b.any (Nat.beq x)
def EZ{ops:List Oper}{o:Oper}{E:dS}(h:ia ops o E=true):(∀t,t∈pp ops o++E.p.map (·.1)→t∈E.mY)∧qj o=E.pn∧E.dst=o.dst∧E.f.rs=[]:=by
 simp only [ia,Bool.and_eq_true,beq_iff_eq,decide_eq_true_eq]at h;obtain⟨⟨⟨⟨Z,aa⟩,aj⟩,aD⟩,_⟩:=h;refine⟨λt aB=>?_,aa,aj,?_⟩
 ·obtain⟨y,bV,gy⟩:=List.any_eq_true.1 (List.all_eq_true.1 Z t aB);have:t=y:=by simpa using gy
  rw [this];exact bV
 ·split at aD
  ·assumption
  ·cases aD
def waits(ops:List Oper)(i:Nat):Nat→Nat→Bool
 | 0,_=>false
 |n+1,j=>match ops[j]? with
  |some o=>o.after.toList.any λe=>Region.binds .any e&&(Nat.beq e.on i||waits ops i n e.on)
  |none=>false
def nO(opsA:Array Oper)(listed:Array Bool):Prop:=∀(j:Nat) o,opsA[j]? = some o→listed.getD j false=true→∀e,e∈o.after→Region.binds .any e=true→listed.getD e.on false=true
def E0{opsA:Array Oper}{listed:Array Bool}(hc:nO opsA listed){i:Nat}:∀{n j:Nat},waits opsA.toList i n j=true→listed.getD j false=true→listed.getD i false=true
 | 0,_,h,_=>by simp [waits]at h
 |n+1,j,h,hj=>by
  simp only [waits]at h;split at h
  ·rename_i o an;obtain⟨e,he,hb⟩:=List.any_eq_true.1 h;simp only [Bool.and_eq_true,Bool.or_eq_true,Nat.beq_eq]at hb;have Z:=hc j o (by simpa using an) hj e (by simpa using he) hb.1
   rcases hb.2 with rfl|aa
   ·exact Z
   ·exact E0 hc aa Z
  ·cases h
def nO.set{opsA:Array Oper}{listed:Array Bool}(hc:nO opsA listed){i:Nat}(ah:i∈Region.ready .any opsA listed):nO opsA (listed.setIfInBounds i true):=by
 intro j o an hj e he hb;by_cases pq:i=j
 ·subst pq;obtain⟨_,o',ky,pr⟩:=mem_ready.1 ah;rw [an]at ky;cases ky;exact getD_set_true (pr e he hb)
 ·rw [getD_set_ne false pq]at hj;exact getD_set_true (hc j o an hj e he hb)
section
variable {bZ:ge} {tt:dq} {opsA:Array Oper} {ci:List dS} {Fi:c8→Prop} {g g1 g2:c8}
def i_(bZ:ge)(tt:dq)(opsA:Array Oper)(ci:List dS)(Fi:c8→Prop):Nat→Array Bool→c8→Prop
 | 0,listed,g=>Region.ready .any opsA listed=[]∧Fi g
 |n+1,listed,g=>(Region.ready .any opsA listed=[]→Fi g)∧∀i,i∈Region.ready .any opsA listed→∃o E,opsA[i]? = some o∧ci[i]? = some E∧Can bZ tt opsA.toList o E g∧
  i_ bZ tt opsA ci Fi n (listed.setIfInBounds i true) (dY E g)
def i_.alike(dD:∀(i:Nat) o E,opsA[i]? = some o→ci[i]? = some E→ia opsA.toList o E=true)(du:∀g1 g2,Alike g1 g2→Fi g1→Fi g2):∀{n:Nat} {listed:Array Bool} {g1 g2:c8},Alike g1 g2→i_ bZ tt opsA ci Fi n listed g1→i_ bZ tt opsA ci Fi n listed g2
 | 0,_,_,_,ha,h=>⟨h.1,du _ _ ha h.2⟩
 |n+1,_,_,_,ha,h=>⟨λah=>du _ _ ha (h.1 ah),λi hi=>by
  obtain⟨o,E,an,bK,jv,hn⟩:=h.2 i hi;obtain⟨db,al,_,_⟩:=EZ (dD i o E an bK);exact⟨o,E,an,bK,jv.congr db al (λt _=>ha.slot t) (λq _=>ha.box q) (λ_=>ha.aK) ha.ids,i_.alike dD du ha.ap hn⟩⟩
def AP{ops:List Oper}{o:Oper}{E:dS}{n:Nat}(h:ia ops o E=true)(ab:E.nM=n+1):u_ o E.rs=n+1∧E.eA=0:=by
 simp only [ia,Bool.and_eq_true,Bool.or_eq_true,Nat.beq_eq]at h;rcases h.2 with h|h
 ·rw [ab]at h;cases h
 ·exact⟨h.1.symm.trans ab,h.2⟩
def Can.data{bZ:ge}{tt:dq}{ops:List Oper}{o:Oper}{E:dS}{g:c8}(h:Can bZ tt ops o E g)(dD:ia ops o E=true)(ab:E.nM=2)(q:Nat):sY (dY E g) g q:=by
 obtain⟨Z,aa⟩:=AP dD ab;rcases h with h|h
 ·rw [aa]at h;cases h
 ·exact acq h Z aa q
def acw{E cQ:dS}(h:AO E cQ=true):sep (nN E) cQ.mY=true∧sep (nN E) (nN cQ)=true∧sep (nN cQ) E.mY=true∧(sep (oF E) cQ.jO=true∨E.nM=2∧cQ.nM=1)∧sep (oF E) (oF cQ)=true∧(sep (oF cQ) E.jO=true∨cQ.nM=2∧E.nM=1)∧(E.pn=true→xw cQ=0)∧(cQ.pn=true→xw E=0):=by
 simp only [AO,Bool.and_eq_true,Bool.or_eq_true,Bool.not_eq_true',Nat.beq_eq]at h;obtain⟨⟨⟨⟨⟨⟨⟨Z,aa⟩,aj⟩,aD⟩,aV⟩,bP⟩,dF⟩,dI⟩:=h;exact⟨Z,aa,aj,aD,aV,bP,λhm=>dF.resolve_left (by simp [hm]),λhm=>dI.resolve_left (by simp [hm])⟩
def i_.first(dD:∀(i:Nat) o E,opsA[i]? = some o→ci[i]? = some E→ia opsA.toList o E=true)(du:∀g1 g2,Alike g1 g2→Fi g1→Fi g2){i:Nat}{o:Oper}{E:dS}(hi:opsA[i]? = some o)(bK:ci[i]? = some E):
 ∀(fuel:Nat) (listed:Array Bool) (g:c8),
  (∀(j:Nat) ps lV,opsA[j]? = some ps→ci[j]? = some lV→j≠i→listed.getD j true=false→waits opsA.toList i 3 j=false→AO E lV=true)→nO opsA listed→
  i∈Region.ready .any opsA listed→Can bZ tt opsA.toList o E g→i_ bZ tt opsA ci Fi fuel (listed.setIfInBounds i true) (dY E g)→i_ bZ tt opsA ci Fi (fuel+1) listed g:=by
 intro fuel;induction fuel with
 |zero=>
  intro listed g _ _ ah jv H;refine⟨λh=>(by rw [h]at ah;cases ah),λj hj=>?_⟩
  by_cases pq:j=i
  ·subst pq;exact⟨o,E,hi,bK,jv,H⟩
  ·have:=ready_mono hj pq
   rw [H.1]at this;cases this
 |succ fuel aF=>
  intro listed g kb gl ah jv H;refine⟨λh=>(by rw [h]at ah;cases ah),λj hj=>?_⟩
  by_cases pq:j=i
  ·subst pq;exact⟨o,E,hi,bK,jv,H⟩
  obtain⟨ps,lV,pt,sZ,Tp,acx⟩:=H.2 j (ready_mono hj pq);obtain⟨Tq,amh,Tr,pr⟩:=mem_ready.1 hj;rw [pt]at Tr;cases Tr
  have nP:listed.getD i false=false:=by
   have h0:=(mem_ready.1 ah).1;rcases Nat.lt_or_ge i listed.size with cq|cq
   ·simpa [Array.getD_eq_getD_getElem?,cq]using h0
   ·simp [Array.getD_eq_getD_getElem?,Array.getElem?_eq_none cq]
  have acy:waits opsA.toList i 3 j=false:=by
   rw [Bool.eq_false_iff];intro hw;rw [waits]at hw;have ab:opsA.toList[j]? = some ps:=by simpa using pt
   simp only [ab]at hw;obtain⟨e,he,hb⟩:=List.any_eq_true.1 hw;simp only [Bool.and_eq_true,Bool.or_eq_true,Nat.beq_eq]at hb;have Z:=pr e (by simpa using he) hb.1
   rcases hb.2 with rfl|aa
   ·rw [nP]at Z;cases Z
   ·rw [E0 gl aa Z]at nP;cases nP
  obtain⟨d1,d2,d3,d4,d5,d6,d7,d8⟩:=acw (kb j ps lV pt sZ pq Tq acy);obtain⟨db,al,_,_⟩:=EZ (dD i o E hi bK);obtain⟨g',jK,_,_⟩:=EZ (dD j ps lV pt sZ)
  have c1:Can bZ tt opsA.toList ps lV g:=by
   rcases d4 with d4|⟨e1,e2⟩
   ·exact Tp.congr g' jK (λt aB=>u7 λhw=>u9 d1 hw aB) (λq ak=>xv λhw=>u9 d4 hw ak) (λhm=>by rw [EU,d8 hm];rfl) EV
   ·exact Tp.To (AP (dD j ps lV pt sZ) e2).1 (AP (dD j ps lV pt sZ) e2).2 g' (λt aB=>u7 λhw=>u9 d1 hw aB) (jv.data (dD i o E hi bK) e1)
  have c2:Can bZ tt opsA.toList o E (dY lV g):=by
   have xy:∀t,t∈E.mY→mx g (dY lV g) t:=λt aB=>by have:=u7 (E:=lV) (g:=g) (t:=t) λhw=>u9 d3 hw aB;exact⟨this.1.symm,this.2.symm⟩
   rcases d6 with d6|⟨e1,e2⟩
   ·exact jv.congr db al xy (λq ak=>(xv (E:=lV) (g:=g) (q:=q) λhw=>u9 d6 hw ak).symm) (λhm=>by rw [EU,d7 hm];rfl) EV.symm
   ·exact jv.To (AP (dD i o E hi bK) e2).1 (AP (dD i o E hi bK) e2).2 db xy (λq=>(c1.data (dD j ps lV pt sZ) e1 q).symm)
  refine⟨ps,lV,pt,sZ,c1,aF (listed.setIfInBounds j true) (dY lV g) ?_ (gl.set hj) (ready_mono ah (Ne.symm pq)) c2 ?_⟩
  ·intro k ok acz hk acA E1 nP oB;refine kb k ok acz hk acA E1 ?_ oB;by_cases s0:j=k
   ·subst s0;exact Tq
   ·rw [getD_set_ne true s0]at nP;exact nP
  ·rw [Array.setIfInBounds_comm _ _ pq];exact i_.alike dD du (aco d2 d5).symm acx
structure E2(n k:Nat)(listed:Array Bool):Prop where
 size:listed.size=n
 at':∀j,j<n→listed[j]? = some (decide (j<k))
def E2.set{n k:Nat}{listed:Array Bool}(h:E2 n k listed):E2 n (k+1) (listed.setIfInBounds k true):=by
 refine⟨by simp [h.size],λj hj=>?_⟩
 by_cases s0:k=j
 ·subst s0;simp [h.size,hj]
 ·rw [Array.getElem?_setIfInBounds_ne s0,h.at' j hj]
  congr 1
  have:(j<k)=(j<k+1):=by apply propext;omega
  simp [this]
def acB(o:Oper)(k:Nat):Bool:=o.after.toList.all λe=>!Region.binds .any e||Nat.blt e.on k
def E3(ops:List Oper)(E:dS)(k:Nat):Nat→List (Oper×dS)→Bool
 |_,[]=>true
 |j,(_,cQ)::l=>(AO E cQ||waits ops k 3 j)&&E3 ops E k (j+1) l
def E4(ops:List Oper):Nat→List (Oper×dS)→Bool
 |_,[]=>true
 |k,(o,E)::l=>acB o k&&E3 ops E k (k+1) l&&E4 ops (k+1) l
def E5(bZ:ge)(tt:dq)(ops:List Oper)(Fi:c8→Prop):List (Oper×dS)→c8→Prop
 |[],g=>Fi g
 |(o,E)::l,g=>Can bZ tt ops o E g∧E5 bZ tt ops Fi l (dY E g)
def Ts{ops:List Oper}{E:dS}{k:Nat}:∀{l:List (Oper×dS)} {n:Nat},E3 ops E k n l=true→∀(j:Nat) o cQ,l[j]? = some (o,cQ)→waits ops k 3 (n+j)=false→AO E cQ=true
 |[],_,_,j,o,cQ,hj,_=>by simp at hj
 |(dr,bF)::l,n,h,j,o,cQ,hj,oB=>by
  simp only [E3,Bool.and_eq_true,Bool.or_eq_true]at h;cases j with
  |zero=>
   simp at hj
   obtain⟨rfl,rfl⟩:=hj;exact h.1.resolve_right (by rw [Nat.add_zero]at oB;rw [oB];simp)
  |succ j=>exact Ts h.2 j o cQ (by simpa using hj) (by rwa [show n+1+j=n+(j+1)by omega])
def i_.text(dD:∀(i:Nat) o E,opsA[i]? = some o→ci[i]? = some E→ia opsA.toList o E=true)(du:∀g1 g2,Alike g1 g2→Fi g1→Fi g2):
 ∀(l:List (Oper×dS)) (k:Nat) (listed:Array Bool) (g:c8),(∀j:Nat,(l[j]?).map (·.1)=opsA[k+j]?)→(∀j:Nat,(l[j]?).map (·.2)=ci[k+j]?)→E2 opsA.size k listed→nO opsA listed→E4 opsA.toList k l=true→E5 bZ tt opsA.toList Fi l g→
  i_ bZ tt opsA ci Fi l.length listed g
 |[],k,listed,g,Z,_,cT,_,_,hc=>by
  refine⟨?_,hc⟩
  have hk:opsA[k]? = none:=by have:=Z 0;simpa using this.symm
  have kE:opsA.size≤k:=by simpa using hk
  refine List.eq_nil_iff_forall_not_mem.2 λj hj=>?_
  obtain⟨hu,o,an,_⟩:=mem_ready.1 hj;have bm:j<opsA.size:=(Array.getElem?_eq_some_iff.1 an).1;have:=cT.at' j bm
  rw [Array.getD_eq_getD_getElem?,this]at hu;have s0:j<k:=by omega
  simp [s0]at hu
 |(o,E)::l,k,listed,g,Z,aa,cT,gl,hx,hc=>by
  have an:opsA[k]? = some o:=by have:=Z 0;simpa using this.symm
  have bK:ci[k]? = some E:=by have:=aa 0;simpa using this.symm
  have bm:k<opsA.size:=(Array.getElem?_eq_some_iff.1 an).1;simp only [E4,Bool.and_eq_true]at hx;obtain⟨⟨ah,bJ⟩,hx⟩:=hx
  have Tt:k∈Region.ready .any opsA listed:=by
   refine mem_ready.2 ⟨?_,o,an,λe he hb=>?_⟩
   ·rw [Array.getD_eq_getD_getElem?,cT.at' k bm];simp
   ·have:=List.all_eq_true.1 ah e (by simpa using he)
    simp only [hb,Bool.not_true,Bool.false_or,Nat.blt_eq]at this;rw [Array.getD_eq_getD_getElem?,cT.at' e.on (by omega)]
    simp [this]
  refine i_.first dD du an bK l.length listed g ?_ gl Tt hc.1 (i_.text dD du l (k+1) _ _ (λj=>?_) (λj=>?_) cT.set (gl.set Tt) hx hc.2)
  ·intro j ps lV pt sZ dj nP oB;have uQ:j<opsA.size:=(Array.getElem?_eq_some_iff.1 pt).1
   have s0:k<j:=by
    rw [Array.getD_eq_getD_getElem?,cT.at' j uQ]at nP;simp at nP
    omega
   have e1:=Z (j-k);have e2:=aa (j-k);have Tu:k+(j-k)=j:=by omega
   rw [Tu,pt]at e1;rw [Tu,sZ]at e2
   have e3:(((o,E)::l)[j-k]?)=l[j-k-1]? := by
    have:j-k=(j-k-1)+1:=by omega
    rw [this];simp
   rw [e3]at e1 e2;cases ab:l[j-k-1]? with
   |none=>rw [ab]at e1;simp at e1
   |some x=>
    rw [ab]at e1 e2;simp at e1 e2
    obtain⟨f5,gt⟩:=x;simp only at e1 e2
    subst e1;subst e2;exact Ts bJ _ _ _ ab (by rwa [show k+1+(j-k-1)=j by omega])
  ·have:=Z (j+1);simpa [Nat.add_assoc,Nat.add_comm 1 j]using this
  ·have:=aa (j+1);simpa [Nat.add_assoc,Nat.add_comm 1 j]using this
end
def ql(N:Nat)(E:dS):Bool:=
 match E.dst with
 |none=>E.p.isEmpty
 |some t=>Nat.blt t N&&match E.p with
  |[]=>true
  |p=>E.f.e.isSome&&E.f.hs.isEmpty&&E.f.g0.isEmpty&&p.all (λy=>!Nat.beq y.1 t)&&Nat.beq E.f.eZ 0
def AQ(ops:List Oper)(i:Nat)(t:Nat):Nat→List dS→Bool
 |_,[]=>true
 |j,cQ::l=>(match cQ.p with
  |[]=>true
  |p=>(match cQ.dst with |some bE=>Nat.beq bE t |none=>false)||p.all (λy=>!Nat.beq y.1 t)||waits ops i 3 j)&&AQ ops i t (j+1) l
def E6(ops:List Oper)(ci:List dS):Nat→List dS→Bool
 |_,[]=>true
 |i,E::l=>(match E.dst with
  |none=>true
  |some t=>AQ ops i t 0 ci)&&E6 ops ci (i+1) l
def AR(ops:List Oper)(ci:List dS):Bool:=E6 ops ci 0 ci
def Tv{ops:List Oper}{i t:Nat}:∀{l:List dS} {k:Nat},AQ ops i t k l=true→∀(j:Nat) (cQ:dS),l[j]? = some cQ→cQ.p≠[]→
 ((match cQ.dst with|some bE=>Nat.beq bE t|none=>false)||cQ.p.all (λy=>!Nat.beq y.1 t))=true∨waits ops i 3 (k+j)=true
 |[],_,_,j,cQ,h,_=>by simp at h
 |bF::l,k,h,j,cQ,hj,dj=>by
  simp only [AQ,Bool.and_eq_true]at h;cases j with
  |zero=>
   simp at hj
   subst hj;have Z:=h.1;split at Z
   ·rename_i pc;exact absurd pc dj
   ·rw [Bool.or_eq_true]at Z;exact Z
  |succ j=>
   have:=Tv h.2 j cQ (by simpa using hj) dj
   rwa [show k+(j+1)=k+1+j by omega]
def Tw{ops:List Oper}{ci:List dS}:∀{l:List dS} {k:Nat},E6 ops ci k l=true→∀(i:Nat) (E:dS) (t:Nat),l[i]? = some E→E.dst=some t→AQ ops (k+i) t 0 ci=true
 |[],_,_,i,E,t,h,_=>by simp at h
 |bF::l,k,h,i,E,t,hi,hd=>by
  simp only [E6,Bool.and_eq_true]at h;cases i with
  |zero=>
   simp at hi
   subst hi;have Z:=h.1;rw [hd]at Z;exact Z
  |succ i=>
   have:=Tw h.2 i E t (by simpa using hi) hd
   rwa [show k+(i+1)=k+1+i by omega]
section
variable {P:Program} {K:Ctx} {N:Nat} {M:Mem} {β:Nat→Option Nat} {tt:dq} {opsA:Array Oper} {ci:List dS} {g:c8} {w:World} {tmps:Array Value}
def s3(ci:List dS)(listed:Array Bool)(g:c8):Prop:=∀x,x∈g.bO→∃(i:Nat) (E:dS),ci[i]? = some E∧listed.getD i false=true∧E.dst=some x.1∧E.p=x.2.1∧E.p≠[]
def E7{α:Type}:∀{l:List (Nat×α)} {t:Nat} {x:Nat×α},x∈del l t→x∈l
 |[],_,_,h=>by simp [del]at h
 |(j,y)::l,t,x,h=>by
  simp only [del]at h;rw [Bool.cond_eq_ite]at h;split at h
  ·exact List.mem_cons_of_mem _ (E7 h)
  ·rcases List.mem_cons.1 h with rfl|h
   ·simp
   ·exact List.mem_cons_of_mem _ (E7 h)
def s3.ap{listed:Array Bool}{i:Nat}{E:dS}(bK:ci[i]? = some E)(hi:i<listed.size)(h:s3 ci listed g):s3 ci (listed.setIfInBounds i true) (dY E g):=by
 have cq:s3 ci (listed.setIfInBounds i true) g:=λx hx=>by
  obtain⟨j,cQ,Z,aa,aj⟩:=h x hx;exact⟨j,cQ,Z,getD_set_true aa,aj⟩
 intro x hx;unfold dY at hx;cases hd:E.dst with
 |none=>simp only [hd]at hx;exact cq x hx
 |some t=>
  simp only [hd]at hx;cases hp:E.p with
  |nil=>simp only [hp]at hx;exact cq x (E7 hx)
  |cons y p=>
   simp only [hp]at hx;cases he:E.f.e with
   |none=>simp only [he]at hx;exact cq x hx
   |some e=>
    simp only [he]at hx;rcases List.mem_cons.1 hx with rfl|hx
    ·exact⟨i,E,bK,by simp [hi],by simp [hd],by simp [hp],by simp [hp]⟩
    ·exact cq x (E7 hx)
def acC{listed:Array Bool}{i:Nat}{E:dS}{t:Nat}(kb:AR opsA.toList ci=true)(bK:ci[i]? = some E)(hd:E.dst=some t)(hc:nO opsA listed)(hi:listed.getD i false=false)(h:s3 ci listed g):w3 g.bO t=true:=by
 unfold w3;rw [List.all_eq_true];intro x hx;obtain⟨j,cQ,rC,ab,iY,xq,dj⟩:=h x hx;have Z:=Tw kb i E t bK hd;rw [Nat.zero_add]at Z;rcases Tv Z j cQ rC dj with aa|aa
 ·rw [iY,xq]at aa;exact aa
 ·rw [Nat.zero_add]at aa;have:=E0 hc aa ab
  rw [hi]at this;cases this
def Tx{listed:Array Bool}{bZ:ge}{o:Oper}{E:dS}{i:Nat}(jL:E.eA=0)(jv:Ln bZ tt opsA.toList o E g)(bK:ci[i]? = some E)(dD:ia opsA.toList o E=true)(aU:ql N E=true)(kb:AR opsA.toList ci=true)(hc:nO opsA listed)(hi:listed.getD i false=false)(mm:s3 ci listed g):
 nD bZ tt N opsA.toList {g with rs:=E.rs,aO:=[]} o=some (.go {dY E g with rs:=[],aO:=E.f.aO.map (under g E.p)}):=by
 obtain⟨_,_,e4,gB⟩:=EZ dD;have hg:o_ opsA.toList {g with rs:=E.rs,aO:=[]} o=some E.p:=jv.EX
 have hs:step1 bZ tt opsA.toList {g with rs:=E.rs,aO:=[]} E.p o=some (.go E.f):=by
  have cS:=jv.st;rw [jL]at cS;refine Eq.trans ?_ cS;exact Li (g1:={g with rs:=E.rs,aO:=[]}) (g2:={g with rs:=E.rs}) (λ_ _ _ _=>⟨rfl,rfl⟩) rfl rfl (λ_=>rfl) (λ_ _=>rfl)
 have hu:∀q,under {g with rs:=E.rs,aO:=[]} E.p q=under g E.p q:=λq=>EW λ_ _=>⟨rfl,rfl⟩
 unfold nD;rw [hg]
 dsimp only
 rw [hs]
 dsimp only
 rw [←e4];have b7:E.f.aO.map (under {g with rs:=E.rs,aO:=[]} E.p)++[]=E.f.aO.map (under g E.p):=by rw [List.append_nil];exact List.map_congr_left λq _=>hu q
 rw [b7,gB];unfold ql at aU;unfold dY;cases hd:E.dst with
 |none=>
  rw [hd]at aU
  dsimp only at aU ⊢
  rw [aU];rfl
 |some t=>
  rw [hd]at aU;have bJ:=acC kb bK hd hc hi mm;simp only [Bool.and_eq_true]at aU;obtain⟨bm,aU⟩:=aU
  dsimp only
  rw [bm,bJ];cases hp:E.p with
  |nil=>rfl
  |cons x p=>
   rw [hp]at aU;simp only [Bool.and_eq_true,List.isEmpty_iff,Nat.beq_eq,Option.isSome_iff_exists]at aU;obtain⟨⟨⟨⟨⟨e,he⟩,bh⟩,hc⟩,pr⟩,hn⟩:=aU;simp only [he,bh,hc,hn,pr];rfl
def i_.sound(cf:e_ P tt=true)(jL:∀(i:Nat) E,ci[i]? = some E→E.eA=0)(dD:∀(i:Nat) o E,opsA[i]? = some o→ci[i]? = some E→ia opsA.toList o E=true)(aU:∀(i:Nat) E,ci[i]? = some E→ql N E=true)(kb:AR opsA.toList ci=true){Fi:c8→Prop}{Q:Exit→Act→World→Prop}
 (eg:∀g fs w' M' β',Fi g→ft P K N M' β' g fs w'→Q .normal ⟨fs,K.ds⟩ w'):
 ∀(n:Nat) (listed:Array Bool) (g:c8) (tmps:Array Value) (w:World) (M:Mem) (β:Nat→Option Nat),i_ (jq P) tt opsA ci Fi n listed g→listed.size=opsA.size→nO opsA listed→s3 ci listed g→ft P K N M β g tmps w→wpAny P .any opsA Q n listed ⟨tmps,K.ds⟩ w
 | 0,_,g,tmps,w,M,β,h,_,_,_,hs=>⟨h.1,eg g tmps w M β h.2 hs⟩
 |n+1,listed,g,tmps,w,M,β,h,dR,gl,mm,hs=>by
  refine⟨λah=>eg g tmps w M β (h.1 ah) hs,λi hi=>?_⟩
  obtain⟨o,E,an,bK,E8,hn⟩:=h.2 i hi;have jv:=E8.resolve_left (by rw [jL i E bK];simp)
  have bm:i<listed.size:=by rw [dR];exact(Array.getElem?_eq_some_iff.1 an).1
  have nP:listed.getD i false=false:=by have:=(mem_ready.1 hi).1;simpa [Array.getD_eq_getD_getElem?,bm]using this
  have Lo:=Tx (N:=N) (jL i E bK) jv bK (dD i o E an bK) (aU i E bK) kb gl nP mm;have fK:ft P K N M β {g with rs:=E.rs,aO:=[]} tmps w:=⟨hs.bd,hs.size,hs.fresh,hs.cond⟩;unfold wpOp;simp only [an];refine K9 fK cf (opsA:=opsA) rfl Lo (λq ak=>?_) (λfs w' M' β' cq=>?_)
  ·obtain⟨q',pi,rfl⟩:=List.mem_map.1 ak;exact jv.aO q' pi
  ·exact i_.sound cf jL dD aU kb eg n _ (dY E g) fs w' M' β' hn (by simpa using dR) (gl.set hi) (mm.ap bK bm) ⟨cq.bd,cq.size,cq.fresh,cq.cond⟩
end
def findD(bZ:ge)(tt:dq)(ops:List Oper)(g:c8)(o:Oper)(rs:List e6):Option dS:=
 match o_ ops g o with
 |none=>none
 |some p=>match step1 bZ tt ops {g with rs:=rs} p o with
  |some (.go f)=>some {dst:=o.dst,p,f,jO:=iB tt g p o,mY:=pp ops o++p.map (·.1),pn:=qj o,rs,nM:=u_ o rs}
  |_=>none
def va(bZ:ge)(tt:dq)(ops:List Oper):List Oper→List (List e6)→c8→Option (List dS×c8×List Prop)
 |[],[],g=>some ([],g,[])
 |o::l,rs::jw,g=>match findD bZ tt ops g o rs with
  |some E=>match va bZ tt ops l jw (dY E g) with
   |some (ci,ew,aO)=>some (E::ci,ew,aO++E.f.aO.map (under g E.p))
   |none=>none
  |none=>none
 |_,_,_=>none
def k3:List Oper→List dS→List (Oper×dS)
 |o::l,E::m=>(o,E)::k3 l m
 |_,_=>[]
def E9(N:Nat)(ops:List Oper)(ci:List dS):Bool:=
 (k3 ops ci).all (λx=>ia ops x.1 x.2)&&ci.all (ql N)&&AR ops ci&&E4 ops 0 (k3 ops ci)
section
variable {bZ:ge} {tt:dq} {ops:List Oper}
def Ty{Fi:c8→Prop}:∀{l:List Oper} {jw:List (List e6)} {g:c8} {ci:List dS} {ew:c8} {aO:List Prop},va bZ tt ops l jw g=some (ci,ew,aO)→(∀q,q∈aO→q)→Fi ew→
 ci.length=l.length∧(∀E,E∈ci→E.eA=0)∧E5 bZ tt ops Fi (k3 l ci) g
 |[],[],g,ci,ew,aO,h,_,du=>by
  simp only [va,Option.some.injEq,Prod.mk.injEq]at h;obtain⟨rfl,rfl,rfl⟩:=h;exact⟨rfl,by simp,du⟩
 |o::l,rs::jw,g,ci,ew,aO,h,b7,du=>by
  simp only [va]at h;split at h
  case h_2=>cases h
  rename_i E bK;split at h
  case h_2=>cases h
  rename_i vb g1 acD Z;simp only [Option.some.injEq,Prod.mk.injEq]at h;obtain⟨rfl,rfl,rfl⟩:=h;obtain⟨aa,acE,aj⟩:=Ty Z (λq ak=>b7 q (List.mem_append_left _ ak)) du
  have acF:E.eA=0:=by
   unfold findD at bK;split at bK
   ·cases bK
   split at bK
   ·cases bK;rfl
   ·cases bK
  refine⟨by simp [aa],λcQ rC=>?_,?_,aj⟩
  ·rcases List.mem_cons.1 rC with rfl|rC
   ·exact acF
   ·exact acE cQ rC
  have Lp:∀q,q∈E.f.aO→under g E.p q:=λq ak=>b7 _ (List.mem_append_right _ (List.mem_map.2 ⟨q,ak,rfl⟩))
  unfold findD at bK;split at bK
  ·cases bK
  rename_i p hp;split at bK
  ·rename_i f bJ;cases bK;exact .inr ⟨hp,bJ,Lp,λ_ h=>h,λh=>by cases h⟩
  ·cases bK
 |[],_::_,_,_,_,_,h,_,_=>by simp [va]at h
 |_::_,[],_,_,_,_,h,_,_=>by simp [va]at h
def vc:∀{l:List Oper} {m:List dS},m.length=l.length→∀(j:Nat),((k3 l m)[j]?).map (·.1)=l[j]? ∧ ((k3 l m)[j]?).map (·.2)=m[j]?
 |[],[],_,j=>by simp [k3]
 |o::l,E::m,h,j=>by
  cases j with
  |zero=>simp [k3]
  |succ j=>simpa [k3]using vc (by simpa using h) j
 |[],_::_,h,_=>by simp at h
 |_::_,[],h,_=>by simp at h
def Lq:∀{l:List Oper} {m:List dS},m.length=l.length→(k3 l m).length=l.length
 |[],[],_=>rfl
 |_::l,_::m,h=>by simp [k3,Lq (l:=l) (m:=m) (by simpa using h)]
 |[],_::_,h=>by simp at h
 |_::_,[],h=>by simp at h
end
section
variable {P:Program} {N E:Nat} {st:aC} {tt:dq}
def Alike.bd{K:Ctx}{M:Mem}{β:Nat→Option Nat}{g1 g2:c8}{tmps:Array Value}{w:World}(ha:Alike g1 g2)(h:bw P K M β {env:=g1.env,H:=g1.H,aK:=g1.aK} tmps w):bw P K M β {env:=g2.env,H:=g2.H,aK:=g2.aK} tmps w:=by
 have fX:∀l,({env:=g2.env,H:=g2.H,aK:=g2.aK}:aC).at l=({env:=g1.env,H:=g1.H,aK:=g1.aK}:aC).at l:=by
  intro l;cases l with
  |slot s=>exact(ha.slot s).1.symm
  |cell r i=>simp only [aC.at];rw [←ha.box r]
 have hb:∀r,look g2.H r=look g1.H r:=λr=>(ha.box r).symm
 constructor
 ·intro l e ab;rw [fX]at ab;exact h.e7 l e ab
 ·intro l e T ab;rw [fX]at ab;exact h.own l e T ab
 ·intro l cr e aX T T' b ab aA dk;rw [fX]at ab dk;exact h.uniq l cr e aX T T' b ab aA dk
 ·intro l e T b r cs ab aA mS ah;rw [fX]at ab;exact h.unbox l e T b r cs ab aA mS (by rw [←hb r];exact ah)
 ·intro r cs ah;exact h.box r cs (by rw [←hb r];exact ah)
 ·intro r df b cs cs' ah fJ;exact h.inj r df b cs cs' (by rw [←hb r];exact ah) (by rw [←hb df];exact fJ)
 ·intro r b ah;exact(by have:=h.lt r b ah;simpa [ha.aK]using this)
 ·exact h.mem
 ·exact h.m0
 ·exact h.frame
 ·exact h.iv
 ·exact h.iX
 ·exact h.hG
def bw.drew{K:Ctx}{M:Mem}{β:Nat→Option Nat}{tmps:Array Value}{w:World}(h:bw P K M β st tmps w)(k:Nat):bw P K M β st tmps {w with drawn:=k}:=
 ⟨h.e7,h.own,h.uniq,h.unbox,h.box,h.inj,h.lt,h.mem,h.m0,h.frame,h.iv,h.iX,h.hG⟩
end
def aT.scope{P:Program}{N E:Nat}{c:Code}{Q:b_→aC→Prop}{st:aC}(h:aT P N E c Q st):aT P N E (.scope c) Q st:=by
 intro K d9 a w hs;refine wp_scope_straight (wp_mono (h K d9 a w hs) ?_)
 rintro e dc w' ⟨fl,bR,Z,aa⟩
 cases fl with
 |normal=>obtain⟨rfl,aj⟩:=Z;exact⟨.normal,bR,⟨rfl,aj⟩,aa⟩
 |exit i=>obtain⟨rfl,aj⟩:=Z;exact⟨.exit i,bR,⟨rfl,aj⟩,aa⟩
 |ret=>obtain⟨rfl,aj⟩:=Z;exact⟨.ret,bR,⟨rfl,aj⟩,aa⟩
 |az x=>obtain⟨v,rfl,aj⟩:=Z;exact⟨.az x,bR,⟨v,rfl,aj⟩,aa⟩
def hZ.on{α β dm:Type}(x:α ⊕ β)(f:α→dm)(g:β→dm):dm:=
 match x with
 |.inl a=>f a
 |.inr b=>g b
def E'.on{α β dm:Type}(x:α×β)(f:α→β→dm):dm:=f x.1 x.2
def E_(P:Program)(w:World):Prop:=(∀g,g∈JX P→∃fk,w.cell? ⟨g,0,none⟩=some fk∧(fk = .nilIface∨∃b1 rc,fk = .iface b1 rc))∧
 ∀ g, P.globalNamed "internal/strconv.uint64pow10" = some g → ∃ t kx, w.heap[g]? = some (.cells JY t kx)
section
variable {P:Program}
def bw.acG{K:Ctx}{M:Mem}{β:Nat→Option Nat}{st:aC}{tmps:Array Value}{w:World}(h:bw P K M β st tmps w):E_ P w:=⟨λg hg=>by
 obtain⟨cs,t,kx,fk,Z,aa,aj⟩:=h.iX.1 g hg;refine⟨fk,?_,aj⟩
 have:=(h.frame g _ Z).1
 unfold World.cell?;rw [this];exact aa,λg hg=>by
 obtain⟨t,kx,Z⟩:=h.iX.2 g hg;exact⟨t,kx,(h.frame g _ Z).1⟩⟩
def Tz {f : FuncId} {args : List D} {vsOf : World → List Value → Prop} {d : D} {fd : Func} (jH : P.funcs[f]? = some fd) (hb : fd.body.isSome = true) (hn : decide (fd.name = "runtime.NumGoroutine") = false)
 (ey:∀(w:World) (M:Mem) (β:Nat→Option Nat) (vs:List Value),(∀b o v,M b o=some v→w.cell? ⟨b,o,none⟩=some v)→vs.length=args.length→(∀(i:Nat) v a,vs[i]? = some v→args[i]? = some a→ce M β v a)→vsOf w vs)
 (u3:∀(vs:List Value) (w:World),vsOf w vs→E_ P w→Calls P f ⟨vs⟩ w λe w'=>∃v,e = .returned v∧(∀M β,ce M β v d)∧(∀(b:Nat) (aO:Obj),w.heap[b]? = some aO→w'.heap[b]? = some aO)∧(w'.os,w'.output)=(w.os,w.output)):
 gA P f args [] [] (.ret d none) []:=by
 refine⟨⟨fd,jH,hb,by simpa using hn⟩,λK w vs M β hlen hs gO=>?_⟩
 have am:vsOf w vs:=ey w M β vs hs.mem hlen λi v a hi ha=>by
  have Z:=hs.e7 (.slot i) ⟨a,none⟩ (by
   simp only [aC.at,hv,mV,Ap,ha,Option.map_some,look])
  have aa:cc (⟨vs⟩:Array Value) w β (.slot i)=v:=by
   simp [cc,hi]
  rw [aa]at Z;exact Z
 refine(u3 vs w am hs.acG).mono ?_
 rintro e w' ⟨v,rfl,gj,uG,ov⟩
 refine⟨.ret d none,[],v,M,β,⟨rfl,rfl⟩,rfl,?_⟩
 have hY:∀b o v,w.cell? ⟨b,o,none⟩=some v→w'.cell? ⟨b,o,none⟩=some v:=by
  intro b o v h;unfold World.cell? at h ⊢;cases hb:w.heap[b]? with
  |none=>simp [hb]at h
  |some aO=>rw [uG b aO hb];rw [hb]at h;exact h
 constructor
 ·intro l e ab;cases l with
  |slot s=>
   simp only [aC.at,h_,dC]at ab;split at ab
   ·rename_i h0;subst h0;cases ab;exact gj M β
   ·simp [look]at ab
  |cell r i=>simp [aC.at,cy,look]at ab
 ·intro l e T ab aA;cases l with
  |slot s=>
   simp only [aC.at,h_,dC]at ab;split at ab
   ·cases ab;cases aA
   ·simp [look]at ab
  |cell r i=>simp [aC.at,cy,look]at ab
 ·intro l cr e aX T T' b ab aA;cases l with
  |slot s=>
   simp only [aC.at,h_,dC]at ab;split at ab
   ·cases ab;cases aA
   ·simp [look]at ab
  |cell r i=>simp [aC.at,cy,look]at ab
 ·intro l e T b r cs ab aA hb ah;simp [cy,look]at ah
 ·intro r cs ah;simp [cy,look]at ah
 ·intro r df b cs cs' ah;simp [cy,look]at ah
 ·exact hs.lt
 ·exact λb o v h=>hY b o v (hs.mem b o v h)
 ·exact hs.m0
 ·exact λb aO h=>⟨uG b aO (hs.frame b aO h).1,(hs.frame b aO h).2⟩
 ·exact hs.iv
 ·exact hs.iX
 ·exact ov.trans hs.hG
def vd {f : FuncId} {args : List D} {vsOf : List Value → Prop} {d : D} {fd : Func} (jH : P.funcs[f]? = some fd) (hb : fd.body.isSome = true) (hn : decide (fd.name = "runtime.NumGoroutine") = false)
 (ey:∀(M:Mem) (β:Nat→Option Nat) (vs:List Value),vs.length=args.length→(∀(i:Nat) v a,vs[i]? = some v→args[i]? = some a→ce M β v a)→vsOf vs)
 (u3:∀(vs:List Value) (w:World),vsOf vs→E_ P w→Calls P f ⟨vs⟩ w λe w'=>∃v,e = .returned v∧(∀M β,ce M β v d)∧(∀(b:Nat) (aO:Obj),w.heap[b]? = some aO→w'.heap[b]? = some aO)∧(w'.os,w'.output)=(w.os,w.output)):
 gA P f args [] [] (.ret d none) []:=
 Tz (vsOf:=λ_ vs=>vsOf vs) jH hb hn (λ_ M β vs _=>ey M β vs) u3
end
def ve(bZ:ge)(tt:dq)(N:Nat)(ops:List Oper)(rs:List e6)(st:aC):Option Fin:=
 match sA bZ tt N ops ops {env:=st.env,bO:=[],H:=st.H,aK:=st.aK,rs,aO:=[]} with
 |some (.go g)=>match g.rs with
  |[]=>some (.go {env:=g.env,H:=g.H,aK:=g.aK} g.aO)
  |_=>none
 |some (.az x st aO)=>some (.az x st aO)
 |none=>none
def vf:List Oper→Nat→List (Nat×Nat)
 |[],_=>[]
 |o::l,n=>match qj o,o.dst with
  |true,some t=>(t,n)::vf l (n+1)
  |_,_=>vf l n
def Fa(ops:List Oper)(st:aC):c8:=
 {env:=st.env,bO:=[],H:=st.H,aK:=st.aK+(vf ops st.aK).length,rs:=[],aO:=[],ids:=vf ops st.aK}
def Fb(bZ:ge)(tt:dq)(N:Nat)(ops:List Oper)(jw:List (List e6))(st:aC):Option Fin:=
 match va bZ tt ops ops jw (Fa ops st) with
 |some (ci,g,aO)=>bif E9 N ops ci then some (.go {env:=g.env,H:=g.H,aK:=g.aK} aO)else none
 |none=>none
def jx:Option Fin→aC
 |some (.go st _)=>st
 |some (.az _ st _)=>st
 |none=>{env:=[],H:=[],aK:=0}
def lW:Option Fin→Option (List Prop)
 |some (.go _ aO)=>some aO
 |_=>none
def Lr:Option Fin→Option (V×List Prop)
 |some (.az x _ aO)=>some (x,aO)
 |_=>none
def spread:Nat→Nat→List (Nat×List e6)→List (List e6)
 | 0,_,_=>[]
 |n+1,i,l=>(look l i).getD []::spread n (i+1) l
def Fc:∀(l:List Oper) (n:Nat) (x:Nat×Nat),x∈vf l n→n≤x.2∧True
 |[],n,x,h=>by simp [vf]at h
 |o::l,n,x,h=>by
  unfold vf at h;split at h
  ·rcases List.mem_cons.1 h with h|h
   ·subst h;exact⟨Nat.le_refl _,trivial⟩
   ·have:=(Fc l (n+1) x h).1;exact⟨by omega,trivial⟩
  ·exact Fc l n x h
def bw.up{P:Program}{K:Ctx}{M:Mem}{β:Nat→Option Nat}{st:aC}{tmps:Array Value}{w:World}(h:bw P K M β st tmps w)(k:Nat):bw P K M β {env:=st.env,H:=st.H,aK:=st.aK+k} tmps w:=
 ⟨h.e7,h.own,h.uniq,h.unbox,h.box,h.inj,(λr b hb=>Nat.lt_of_lt_of_le (h.lt r b hb) (Nat.le_add_right _ _)),h.mem,h.m0,h.frame,h.iv,h.iX,h.hG⟩
section
variable {P:Program} {N E:Nat} {st:aC} {tt:dq}
def aT.rg{id:Nat}{opsA:Array Oper}{Q:b_→aC→Prop}(cf:e_ P tt=true)(rs:List e6){bi:List Prop}(ah:lW (ve (jq P) tt N opsA.toList rs st)=some bi)(b7:kF bi)
 (eg:Q .normal (jx (ve (jq P) tt N opsA.toList rs st))):aT P N E (.region id opsA false) Q st:=by
 rintro K d9 a w ⟨_,hd,dR,M,β,cw⟩
 obtain⟨tmps,ds⟩:=a;simp only at hd dR
 subst hd;have rD:ft P K N M β {env:=st.env,bO:=[],H:=st.H,aK:=st.aK,rs:=rs,aO:=[]} tmps w:=⟨cw,dR,(λ_ _ h=>by simp [look]at h),λ_ _ _ h=>by simp [look]at h⟩
 refine wp_region ?_;unfold ve at ah eg;have hlen:List.range opsA.size=List.range' 0 opsA.toList.length:=by rw [List.range_eq_range'];simp
 rw [hlen];split at ah
 ·rename_i g eO;split at ah
  case h_2=>cases ah
  rename_i eu;simp only [lW,Option.some.injEq]at ah;subst ah;rw [eO]at eg;simp only [eu,jx]at eg;refine K_ cf rfl (fin:=.go g) b7.mem ?_ opsA.toList 0 _ tmps w M β (λj=>by simp) rD eO
  intro fs w' M' β' cq;exact⟨.normal,_,⟨rfl,rfl,cq.size,M',β',cq.bd⟩,eg⟩
 ·cases ah
 ·cases ah
def aT.Ls{id:Nat}{opsA:Array Oper}{Q:b_→aC→Prop}(cf:e_ P tt=true)(rs:List e6){x:V}{bi:List Prop}(ah:Lr (ve (jq P) tt N opsA.toList rs st)=some (x,bi))(b7:kF bi)
 (eg:Q (.az x) (jx (ve (jq P) tt N opsA.toList rs st))):aT P N E (.region id opsA false) Q st:=by
 rintro K d9 a w ⟨_,hd,dR,M,β,cw⟩
 obtain⟨tmps,ds⟩:=a;simp only at hd dR
 subst hd;have rD:ft P K N M β {env:=st.env,bO:=[],H:=st.H,aK:=st.aK,rs:=rs,aO:=[]} tmps w:=⟨cw,dR,(λ_ _ h=>by simp [look]at h),λ_ _ _ h=>by simp [look]at h⟩
 refine wp_region ?_;unfold ve at ah eg;have hlen:List.range opsA.size=List.range' 0 opsA.toList.length:=by rw [List.range_eq_range'];simp
 rw [hlen];split at ah
 ·split at ah<;>cases ah
 ·rename_i y bR aO eO;simp only [Lr,Option.some.injEq,Prod.mk.injEq]at ah;obtain⟨rfl,rfl⟩:=ah;rw [eO]at eg;refine K_ cf rfl (fin:=.az y bR aO) b7.mem ?_ opsA.toList 0 _ tmps w M β (λj=>by simp) rD eO
  intro e dc w' cq;exact⟨.az y,_,cq,eg⟩
 ·cases ah
def aT.Fd{id:Nat}{opsA:Array Oper}{Q:b_→aC→Prop}(cf:e_ P tt=true)(hm:P.follows .mixedOrders=true)(jw:List (Nat×List e6)){bi:List Prop}(ah:lW (Fb (jq P) tt N opsA.toList (spread opsA.toList.length 0 jw) st)=some bi)(b7:kF bi)
 (eg:Q .normal (jx (Fb (jq P) tt N opsA.toList (spread opsA.toList.length 0 jw) st))):aT P N E (.region id opsA true) Q st:=by
 rintro K d9 a w ⟨_,hd,dR,M,β,cw⟩
 obtain⟨tmps,ds⟩:=a;simp only at hd dR
 subst hd;refine wp_region_any hm ?_;unfold Fb at ah eg;split at ah
 case h_2=>cases ah
 rename_i ci g sT eO;rw [eO]at eg
 dsimp only at eg
 rw [Bool.cond_eq_ite]at ah eg;split at ah
 case isFalse=>cases ah
 rename_i hc;rw [if_pos hc]at eg;simp only [lW,Option.some.injEq]at ah;subst ah;simp only [jx]at eg;obtain⟨hlen,jL,Lt⟩:=Ty (Fi:=λg1=>Alike g g1) eO b7.mem Alike.refl
 simp only [E9,Bool.and_eq_true]at hc;obtain⟨⟨⟨c1,c2⟩,c3⟩,c4⟩:=hc
 have dD:∀(i:Nat) o E,opsA[i]? = some o→ci[i]? = some E→ia opsA.toList o E=true:=by
  intro i o E an bK;obtain⟨kD,z2⟩:=vc hlen i;have ky:opsA.toList[i]? = some o:=by simpa using an
  rw [ky]at kD;rw [bK]at z2;cases cx:(k3 opsA.toList ci)[i]? with
  |none=>rw [cx]at kD;simp at kD
  |some x=>
   rw [cx]at kD z2;simp at kD z2
   subst kD;subst z2;exact List.all_eq_true.1 c1 x (List.mem_of_getElem? cx)
 have aU:∀(i:Nat) E,ci[i]? = some E→ql N E=true:=λi E bK=>List.all_eq_true.1 c2 E (List.mem_of_getElem? bK)
 have AS:nO opsA (Array.replicate opsA.size false):=λj o an hj=>by have bm:j<opsA.size:=(Array.getElem?_eq_some_iff.1 an).1;simp [Array.getD_eq_getD_getElem?,bm]at hj
 have AT:=i_.text dD (λg1 g2 f6 Z=>Alike.trans Z f6) (k3 opsA.toList ci) 0 (Array.replicate opsA.size false) _ (λj=>by have:=(vc hlen j).1;simpa using this) (λj=>by have:=(vc hlen j).2;simpa using this)
  ⟨by simp,λj hj=>by simp [hj]⟩ AS c4 Lt
 have uN:(k3 opsA.toList ci).length=opsA.size:=by rw [Lq hlen];simp
 rw [uN]at AT;refine i_.sound (K:=K) cf (λi E bK=>jL E (List.mem_of_getElem? bK)) dD aU c3 ?_ _ _ _ tmps _ M β AT (by simp) AS (λx hx=>by cases hx) ⟨(cw.drew _).up _,dR,(λs id h _ b hb=>by have Z:=cw.lt _ _ hb;have aa:=(Fc _ _ _ (rf h)).1;simp only at aa;omega),λ_ _ _ h=>by simp [Fa,look]at h⟩
 intro g1 fs w' M' β' acH cq;exact⟨.normal,_,⟨rfl,rfl,cq.size,M',β',Alike.bd acH.symm cq.bd⟩,eg⟩
def aT.Lu{α:Type}{b:Bool}{x y:Option α}{r:Option α}(h:(bif b then x else y)=r){c:Nat}{vg vh:Code}{Q:b_→aC→Prop}(hc:(look st.env c).map (·.d)=some (.v (.bool b)))
 (aB:x=r→aT P N E vg Q st) (bJ:y=r→aT P N E vh Q st):aT P N E (.cond (.tmp c) vg vh) Q st:=by
 simp only [Option.map_eq_some_iff]at hc;obtain⟨⟨d,own⟩,he,rfl⟩:=hc;exact aT.cond b own he (λhb=>aB (by subst hb;exact h)) (λhb=>bJ (by subst hb;exact h))
def aT.acI{c:Nat}{vg vh:Code}{Q:b_→aC→Prop}(hc:(look st.env c).map (·.d)=some (.v (.bool true)))(aB:aT P N E vg Q st):aT P N E (.cond (.tmp c) vg vh) Q st:=by
 simp only [Option.map_eq_some_iff]at hc;obtain⟨⟨d,own⟩,he,rfl⟩:=hc;exact aT.cond true own he (λ_=>aB) (λhb=>by cases hb)
def aT.TA{c:Nat}{vg vh:Code}{Q:b_→aC→Prop}(hc:(look st.env c).map (·.d)=some (.v (.bool false)))(bJ:aT P N E vh Q st):aT P N E (.cond (.tmp c) vg vh) Q st:=by
 simp only [Option.map_eq_some_iff]at hc;obtain⟨⟨d,own⟩,he,rfl⟩:=hc;exact aT.cond false own he (λhb=>by cases hb) (λ_=>bJ)
end
def bl{P:Program}{f:FuncId}{args:List D}{dN:List (Nat×TypeId)}{H cu:List (List aP)}{out:Out}(_:gA P f args dN H out cu)(os:List Nat):e6:=.call out (some cu) os
def bv{P:Program}{f:FuncId}{args:List D}{dN:List (Nat×TypeId)}{H cu:List (List aP)}{out:Out}(_:gA P f args dN H out cu)(os:List Nat):e6:=.call out none os
def er{c:Prop}{P:Program}{f:FuncId}{args:List D}{dN:List (Nat×TypeId)}{H cu:List (List aP)}{out:Out}(_:c→gA P f args dN H out cu):e6:=.call out none []
def Lv{c c2:Prop}{P:Program}{f:FuncId}{args:List D}{dN:List (Nat×TypeId)}{H cu:List (List aP)}{out:Out}(_:c→c2→gA P f args dN H out cu):e6:=.call out none []
def my{raw x:V}(_:gM raw x):e6:=.val x
def fu{α:Type}[Inhabited α]{k:Nat}{e:α→V}(l:List α):gM (.bq k l.length λi=>(l.map e).getD i .dW) (ae k e l):=aci rfl _ rfl
def mZ(l:List Int):Bool:=l.all λx=>decide (0≤x)&&decide (x<256)
def jP(l:List Int):ano:=l.map λx=>UInt8.ofNat x.toNat
def Fe{l:List Int}(h:mZ l=true):(jP l).length=l.length∧∀i,i<l.length→V.int .u8 (l.getD i default) = .int .u8 (((jP l).getD i 0).toNat:Int):=by
 refine⟨by simp [jP],λi hi=>?_⟩
 unfold mZ at h;rw [List.all_eq_true]at h;have:=h l[i] (List.getElem_mem hi)
 simp only [Bool.and_eq_true,decide_eq_true_eq]at this;simp only [jP,List.getD,List.getElem?_map,List.getElem?_eq_getElem hi,Option.getD_some,Option.map_some,UInt8.toNat_ofNat'];rw [Nat.mod_eq_of_lt (by omega)]
 congr 1
 omega
def AU(T:TypeId):V→Option (Int×Int)
 |.iface t (.agg [.int .i64 a,.int .i64 b])=>bif Nat.beq t T then some (a,b)else none
 |_=>none
def TB{T:TypeId}{x:V}{r:Int×Int}(h:AU T x=some r):x = .iface T (.agg [.int .i64 r.1,.int .i64 r.2]):=by
 unfold AU at h;split at h
 ·rw [Bool.cond_eq_ite]at h;split at h
  ·rename_i hb;cases h;rw [Nat.beq_eq]at hb;subst hb;rfl
  ·cases h
 ·cases h
def vi(M:Mem):Option V→FrameMode→Prop
 |none,m=>m = .returning
 |some x,m=>∃v,m = .panicking [{v,recovered:=false}]∧cP M v x
def s4(P:Program)(fd:FuncId)(args:List D)(H:List (List aP))(x:Option V)(R:List (List aP)→Prop):Prop:=
 ∀(K:Ctx) (w:World) (vs:List Value) (M:Mem) (β:Nat→Option Nat) (mode:FrameMode),vs.length=args.length→
  bw P K M β {env:=hv args [],H:=cy 0 H,aK:=H.length} ⟨vs⟩ w→(∀r b,β r=some b→K.kU r=some b)→vi M x mode→
  CallsD P fd ⟨vs⟩ mode w λe m3 w'=>∃v bB M' β',e = .returned v∧settle m3 = .returning∧R bB∧bw P K M' β' {env:=h_ (.ret (.cn []) none),H:=cy 0 bB,aK:=H.length} #[v] w'
section
variable {P:Program} {K:Ctx} {M:Mem} {β:Nat→Option Nat} {st:aC} {tmps:Array Value} {w:World} {tt:dq}
def vi.acJ{x:Option V}{m:FrameMode}(h:vi M x m):m ≠ .run:=by
 cases x with
 |none=>intro hm;rw [hm]at h;cases h
 |some x=>obtain⟨v,Z,_⟩:=h;intro hm;rw [hm]at Z;cases Z
def vi.mono{M':Mem}(cF:M.le M'){x:Option V}{m:FrameMode}(h:vi M x m):vi M' x m:=by
 cases x with
 |none=>exact h
 |some x=>obtain⟨v,Z,aa⟩:=h;exact⟨v,Z,aa.mono cF⟩
def qm(P:Program)(tt:dq)(E:Nat)(rs:List ResultVar)(fd:FuncId)(ds:List D)(R:Out→List (List aP)→Prop)(x:Option V)(st:aC):Prop:=
 ∃(ρ:List Nat) (bs H1:List (List aP)) (jm:List D) (Lw:List (List aP)→Prop),mP ρ=true∧boxes st.H ρ=some bs∧jE (idx ρ) bs=some H1∧kS (idx ρ) ds=some jm∧s4 P fd jm H1 x Lw∧
  ∀cu,Lw cu→∃iu o bB,cu.length=ρ.length∧jE (λj=>ρ[j]?) cu=some iu∧Ab.leave tt E rs {env:=st.env,H:=kT ρ iu++st.H,aK:=st.aK}=some (o,bB)∧R o (nL bB)
def Lx{fn:Func}{E:Nat}(cf:e_ P tt=true)(d9:∀r b,K.kU r=some b→r<E)(hs:bw P K M β st tmps w){fd:FuncId}{ds:List D}{vs:List Value}(hlen:vs.length=ds.length)(am:∀(i:Nat) v d,vs[i]? = some v→ds[i]? = some d→ce M β v d)
 {x : Option V} {mode : FrameMode} (hm : vi M x mode) {f : Func} (bJ : P.funcs[fd]? = some f) (hb : f.body.isSome = true) (js : decide (f.name = "runtime.NumGoroutine") = false) {R : Out → List (List aP) → Prop} (mX : qm P tt E fn.results.toList fd ds R x st) :
 Leaves P fn tmps (λe w'=>∃o bB v M' β',R o bB∧e=sK o v∧bw P K M' β' {env:=h_ o,H:=cy 0 bB,aK:=E} #[v] w') [{target:=.fn (.func fd) ⟨vs⟩,args := #[]}] mode w:=by
 obtain⟨ρ,bs,H1,jm,Lw,hn,kB,lS,ey,hd,sV⟩:=mX;have qh:f.body≠none:=by intro bh;rw [bh]at hb;cases hb
 have AV : f.name ≠ "runtime.NumGoroutine" := by simpa using js
 refine leaves_cons (f:=fd) (args:=⟨vs⟩) hm.acJ (by simp [invoke,callFunc,bJ,qh,AV]) ?_
 have hc:=Sm (hd:=[]) hs hn kB lS hlen am ey ⟨by simp,by simp,by simp⟩
 have eJ:H1.length=ρ.length:=by rw [(xh lS).1,(uO kB).1]
 refine(hd (kc M β st tmps w ρ []) w vs M _ mode (by rw [hlen,SO ey]) hc (λr b h=>h) hm).mono ?_
 rintro e m3 w' ⟨v,bB,M',β',rfl,hu,acK,cw⟩
 obtain⟨iu,o,TC,Z,aa,aj,aD⟩:=sV bB acK;rw [eJ]at cw;obtain⟨cF,Ly,_,_⟩:=KJ hs hn kB aa Z cw
 dsimp only
 rw [hu];obtain⟨v2,aV,mt,M2,vj,bP,dF⟩:=AL cf d9 Ly aj;exact⟨v2,aV,o,nL TC,mt,M2,vj,aD,bP,dF.era⟩
def pu(P:Program)(_tt:dq)(fn:Func)(E:Nat)(c:Code)(R:Out→List (List aP)→Prop)(st:aC):Prop:=
 ∀(K:Ctx),K.ds=[]→(∀r b,K.kU r=some b→r<E)→∀(a:Act) (w:World),sS P K fn.ntmps .normal st .normal a w→
  c.wp P (bodyPostD P fn λe w'=>∃o bB v M' β',R o bB∧e=sK o v∧bw P K M' β' {env:=h_ o,H:=cy 0 bB,aK:=E} #[v] w') a w
def Lz(P:Program)(tt:dq)(fn:Func)(E:Nat)(y:Code)(R:Out→List (List aP)→Prop):b_→aC→Prop
 |.normal,st=>pu P tt fn E y R st
 |.ret,st=>∃o bB,Ab.leave tt E fn.results.toList st=some (o,bB)∧R o (nL bB)
 |_,_=>False
def pu.seq{fn:Func}{E:Nat}{x y:Code}{R:Out→List (List aP)→Prop}(cf:e_ P tt=true)(h:aT P fn.ntmps E x (Lz P tt fn E y R) st):pu P tt fn E (.seq x y) R st:=by
 intro K hJ d9 a w hs;refine wp_seq (wp_mono (h K d9 a w hs) ?_)
 rintro e dc w' ⟨fl,bR,Z,aa⟩
 cases fl with
 |normal=>obtain⟨rfl,aj⟩:=Z;exact aa K hJ d9 dc w' ⟨rfl,aj⟩
 |ret=>
  obtain⟨rfl,hd,_,M',β',cw⟩:=Z;obtain⟨o,bB,aj,aD⟩:=aa;obtain⟨v,aV,mt,M2,vj,bP,dF⟩:=AL cf d9 cw aj;show Leaves P fn dc.tmps _ dc.defers .returning w'
  rw [hd,hJ];exact⟨v,aV,o,nL bB,mt,M2,vj,aD,bP,dF.era⟩
 |exit i=>exact aa.elim
 |az x=>exact aa.elim
def LA(P:Program)(tt:dq)(E:Nat)(rs:List ResultVar)(fd:FuncId)(ds:List D)(R:Out→List (List aP)→Prop):b_→aC→Prop
 |.normal,st |.ret,st=>qm P tt E rs fd ds R none st
 |.az x,st=>qm P tt E rs fd ds R (some x) st
 |.exit _,_=>False
def pu.defer{fn:Func}{E:Nat}{id:Nat}{opsA:Array Oper}{dr hN:Oper}{y:Code}{R:Out→List (List aP)→Prop}(cf:e_ P tt=true)(mW:opsA = #[dr,hN]){t:Nat}{fd:FuncId}{eN:Array Operand}{c:Call}
 (Z:dr.op = .makeFunc (.func fd) #[] eN) (aa:dr.dst=some t) (aj:dr.guard=none) (aD:hN.op = .defer c) (aV:hN.dst=none) (bP:hN.guard=none) (dF:c.callee = .value (.tmp t)) (dI:c.args = #[]) (aB:Nat.blt t fn.ntmps=true)
 {ds : List D} (acL : mapM' (rd st.env [] [] tt 0) eN.toList = some ds) (_hE : Nat.ble E st.aK = true) {f : Func} (bJ : P.funcs[fd]? = some f) (hb : f.body.isSome = true) (js : decide (f.name = "runtime.NumGoroutine") = false)
 (hJ:uv st.aK ds=true)
 (h:aT P fn.ntmps st.aK y (LA P tt E fn.results.toList fd ds R) {env:=del st.env t,H:=st.H,aK:=st.aK}):pu P tt fn E (.seq (.region id opsA false) y) R st:=by
 rintro K acM d9 a w ⟨_,hd,dR,M,β,cw⟩
 obtain⟨tmps,defers⟩:=a;simp only at hd dR
 rw [acM]at hd;subst hd;have bm:t<tmps.size:=by rw [dR];simpa using aB
 -- lu captured values
 obtain⟨eJ,ep⟩:=sH acL;have rD:ft P K fn.ntmps M β {env:=st.env,bO:=[],H:=st.H,aK:=st.aK,rs:=[],aO:=[]} tmps w:=⟨cw,dR,(λ_ _ h=>by simp [look]at h),λ_ _ _ h=>by simp [look]at h⟩
 have mU:∀(i:Nat) v d,(eN.toList.map (⟨tmps,[]⟩:Act).eval)[i]? = some v→ds[i]? = some d→ce M β v d:=by
  intro i v d am hd;rw [List.getElem?_map,Option.map_eq_some_iff]at am;obtain⟨x,hx,rfl⟩:=am;exact dK (ds:=[]) (p:=[]) rD (λx hx=>by cases hx) (ep i x d hx hd)
 have hlen:(eN.toList.map (⟨tmps,[]⟩:Act).eval).length=ds.length:=by simp at eJ ⊢;omega
 -- lu frame behind lu region
 have pw:bw P K M β {env:=del st.env t,H:=st.H,aK:=st.aK} (tmps.setIfInBounds t (.func (.func fd) #[] ⟨eN.toList.map (⟨tmps,[]⟩:Act).eval⟩)) w:=cw.drop
 let qn:Ctx:={z7:=M,F:=K.F,kU:=λr=>if r<st.aK then β r else none,hG:=K.hG,ds:=[{target:=.fn (.func fd) ⟨eN.toList.map (⟨tmps,[]⟩:Act).eval⟩,args := #[]}]}
 have Ly:bw P qn M β {env:=del st.env t,H:=st.H,aK:=st.aK} (tmps.setIfInBounds t (.func (.func fd) #[] ⟨eN.toList.map (⟨tmps,[]⟩:Act).eval⟩)) w:=
  ⟨pw.e7,pw.own,pw.uniq,pw.unbox,pw.box,pw.inj,pw.lt,pw.mem,Mem.le_refl _,(λb aO du=>⟨(pw.frame b aO du).1,λ_=>rfl⟩),(λr b hb=>by
   simp only [qn]at hb;split at hb
   ·exact hb
   ·cases hb),pw.iX,pw.hG⟩
 have LB:∀{M':Mem} {β':Nat→Option Nat} {bR:aC} {fs:Array Value} {w':World},bw P qn M' β' bR fs w'→bw P K M' β' bR fs w':=by
  intro M' β' bR fs w' cq
  exact⟨cq.e7,cq.own,cq.uniq,cq.unbox,cq.box,cq.inj,cq.lt,cq.mem,Mem.le_trans cw.m0 cq.m0,(λb aO du=>⟨(cq.frame b aO du).1,λo=>((cq.frame b aO du).2 o).trans ((cw.frame b aO du).2 o)⟩),(λr b hb=>cq.iv r b (by
   have h':=cw.iv r b hb;have kH:=cw.lt r b h';simp only [qn];rw [if_pos kH];exact h')),cq.iX,cq.hG⟩
 have gO:∀{M':Mem} {β':Nat→Option Nat} {bR:aC} {fs:Array Value} {w':World},bw P qn M' β' bR fs w'→∀r,r<st.aK→∀b,β r=some b→β' r=some b:=λcq r ah b hb=>cq.iv r b (by simp only [qn];rw [if_pos ah];exact hb)
 refine wp_seq (wp_region ?_);subst mW
 have e1:(execOp (Act.eval ⟨tmps,[]⟩) dr).run P w = .ok (.value (.func (.func fd) #[] ⟨eN.toList.map (⟨tmps,[]⟩:Act).eval⟩)) w:=by
  simp only [execOp,Z,Instr.makeFunc];refine i8 _ ?_;simp
  congr 1
  apply Array.ext';simp
 have e2:(execOp (Act.eval ⟨tmps.setIfInBounds t (.func (.func fd) #[] ⟨eN.toList.map (⟨tmps,[]⟩:Act).eval⟩),[]⟩) hN).run P w = .ok (.defer {target:=.fn (.func fd) ⟨eN.toList.map (⟨tmps,[]⟩:Act).eval⟩,args := #[]}) w:=by
  simp [execOp,aD,resolve,dF,dI,Deferred.ofValue,Act.eval,bm]
 show wpOps P #[dr,hN] _ (List.range 2) ⟨tmps,[]⟩ w
 simp only [List.range,List.range.loop,wpOps];have Ff:∀ke,Region.wanted dr (yielded #[dr,hN] ke)=true:=λke=>by simp [Region.wanted,aj]
 have AW:∀ke,Region.wanted hN (yielded #[dr,hN] ke)=true:=λke=>by simp [Region.wanted,bP]
 simp only [show(#[dr,hN]:Array Oper)[0]? = some dr from rfl,show(#[dr,hN]:Array Oper)[1]? = some hN from rfl,Ff,AW,if_true]
 refine .inl ?_;unfold Oper.wp;rw [e1,Oper.upon_value,aa];refine .inl ?_;have acN:(execOp ((⟨tmps,[]⟩:Act).put (some t) (.func (.func fd) #[] ⟨eN.toList.map (⟨tmps,[]⟩:Act).eval⟩)).eval hN).run P w = .ok (.defer {target:=.fn (.func fd) ⟨eN.toList.map (⟨tmps,[]⟩:Act).eval⟩,args := #[]}) w:=e2;rw [acN,Oper.upon_defer,aV];show y.wp P _ ⟨tmps.setIfInBounds t _,[_]⟩ w
 have rC:∀r b,qn.kU r=some b→r<st.aK:=by
  intro r b hb;simp only [qn]at hb;split at hb
  ·assumption
  ·cases hb
 refine wp_mono (h qn rC _ w ⟨rfl,rfl,by simpa using dR,M,β,Ly⟩) ?_
 rintro e dc w' ⟨fl,bR,g1,g2⟩
 have oz:∀{M':Mem} {β':Nat→Option Nat} {bR:aC} {fs:Array Value} {w':World},bw P qn M' β' bR fs w'→∀(i:Nat) v d,(eN.toList.map (⟨tmps,[]⟩:Act).eval)[i]? = some v→ds[i]? = some d→ce M' β' v d:=by
  intro M' β' bR fs w' cq i v d am hd;have cF:M.le M':=cq.m0;exact((mU i v d am hd).mono cF).Z1 (λr ah b hb=>gO cq r ah b hb) (sC hJ hd)
 cases fl with
 |normal=>
  obtain⟨rfl,hd,_,M',β',hs⟩:=g1;show Leaves P fn dc.tmps _ dc.defers .returning w'
  rw [hd];exact Lx cf d9 (LB hs) hlen (oz hs) (x:=none) rfl bJ hb js g2
 |ret=>
  obtain⟨rfl,hd,_,M',β',hs⟩:=g1;show Leaves P fn dc.tmps _ dc.defers .returning w'
  rw [hd];exact Lx cf d9 (LB hs) hlen (oz hs) (x:=none) rfl bJ hb js g2
 |exit i=>exact g2.elim
 |az x=>
  obtain⟨v,rfl,hd,M',β',gj,hs⟩:=g1;show Leaves P fn dc.tmps _ dc.defers (.panicking _) w'
  rw [hd];exact Lx cf d9 (LB hs) hlen (oz hs) (x:=some x) ⟨v,rfl,gj⟩ bJ hb js g2
def qc.acO {f : FuncId} {fn : Func} {c : Code} {args : List D} {dN : List (Nat × TypeId)} {H : List (List aP)} {R : Out → List (List aP) → Prop} (bJ : P.funcs[f]? = some fn) (hb : fn.body = some c) (js : decide (fn.name = "runtime.NumGoroutine") = false)
 (ey:Nat.ble args.length fn.ntmps=true) (h:pu P tt fn H.length c R {env:=hv args dN,H:=cy 0 H,aK:=H.length}):qc P f args dN H R:=by
 refine⟨⟨fn,bJ,by rw [hb];rfl,by simpa using js⟩,?_⟩
 intro dL w vs M β hlen Lb Lc
 suffices key:∀K:Ctx,K.ds=[]→bw P K M β {env:=hv args dN,H:=cy 0 H,aK:=H.length} ⟨vs⟩ w→(∀r b,β r=some b→K.kU r=some b)→
  Calls P f ⟨vs⟩ w λe w'=>∃o bB v M' β',R o bB∧e=sK o v∧bw P K M' β' {env:=h_ o,H:=cy 0 bB,aK:=H.length} #[v] w' from
  (key {dL with ds:=[]} rfl (Lb.u4 []) Lc).mono λe w' ⟨o,bB,v,M',β',Z,aa,aj⟩=>⟨o,bB,v,M',β',Z,aa,aj.u4 dL.ds⟩
 intro K hJ cw gO;have d9:∀r b,K.kU r=some b→r<H.length:=λr b hb=>cw.lt r b (cw.iv r b hb)
 simp only [Nat.ble_eq]at ey;exact calls_of_wp_defers bJ hb (h K hJ d9 {tmps:=(⟨vs⟩:Array Value)++Array.replicate (fn.ntmps-(⟨vs⟩:Array Value).size) undef,defers:=[]} w ⟨rfl,hJ.symm,by simp;omega,M,β,La hlen cw⟩)
def s4.TD{fd:FuncId}{fn:Func}{i0:Nat}{opsA:Array Oper}{dr hN:Oper}{rest:Code}{r t2:Nat}{c:Call}(cf:e_ P tt=true)(bJ:P.funcs[fd]? = some fn)(hb:fn.body=some (.seq (.region i0 opsA false) rest))(mW:opsA = #[dr,hN])
 (Z:dr.op = .call c) (aa:dr.dst=some r) (aj:dr.guard=none) (aD:c.callee = .builtin .recover) (aV:c.args = #[]) (bP:hN.op = .assign (.tmp r)) (dF:hN.dst=some t2) (dI:hN.guard=none)
 {args:List D} {H:List (List aP)} {x:Option V} {R:List (List aP)→Prop} (ah:Nat.blt r fn.ntmps=true) (jt:Nat.blt t2 fn.ntmps=true) (ey:Nat.ble args.length fn.ntmps=true)
 (h:aT P fn.ntmps H.length rest (sU tt H.length fn.results.toList λo bB=>o = .ret (.cn []) none∧R bB) {env:=(t2,{d:=.v (x.getD .h9)})::del (hv args []) r,H:=cy 0 H,aK:=H.length}):s4 P fd args H x R:=by
 intro K w vs M β mode hlen cw gO hm;have d9:∀r b,K.kU r=some b→r<H.length:=λr b hb=>cw.lt r b (cw.iv r b hb)
 simp only [Nat.ble_eq]at ey;simp only [Nat.blt_eq]at ah jt;refine callsD_of_wpS bJ hb λs5 cs hu=>?_
 apply wpS_seq;apply wpS_region;subst mW;have Ff:∀ke,Region.wanted dr (yielded #[dr,hN] ke)=true:=λke=>by simp [Region.wanted,aj]
 have AW:∀ke,Region.wanted hN (yielded #[dr,hN] ke)=true:=λke=>by simp [Region.wanted,dI]
 have e1:∀a:Act,(execOp a.eval dr).run P w = .ok .recover w:=λa=>by
  simp [execOp,Z,resolve,aD,aV,invoke,builtin]
 have cS:=La (n:=fn.ntmps-(⟨vs⟩:Array Value).size) hlen cw
 -- KK 'recover' abP
 have key:∃(v:Value) (m3:FrameMode),cP M v (x.getD .h9)∧settle m3 = .returning∧(recoverD (s5::cs)=some (v,{s5 with mode:=m3}::cs)∨(recoverD (s5::cs)=none∧v = .nilIface∧({s5 with mode:=m3}:Frame)=s5)):=by
  cases x with
  |none=>
   have jN:mode = .returning:=hm;subst jN;exact⟨.nilIface,.returning,.h9,rfl,.inr ⟨by simp [recoverD,hu],rfl,by rw [←hu]⟩⟩
  |some y=>
   obtain⟨v,jN,am⟩:=hm;subst jN;exact⟨v,.panicking [{v,recovered:=true}],am,by simp [settle],.inl (by simp [recoverD,hu])⟩
 obtain⟨v,m3,am,xe,AX⟩:=key;show wpOpsS P #[dr,hN] _ (List.range 2) _ (s5::cs) w
 simp only [List.range,List.range.loop,wpOpsS,show(#[dr,hN]:Array Oper)[0]? = some dr from rfl,show(#[dr,hN]:Array Oper)[1]? = some hN from rfl,Ff,AW,if_true,e1]
 have e2:∀ke:Array Value,r<ke.size→(execOp (Act.eval ⟨ke.setIfInBounds r v,[]⟩) hN).run P w = .ok (.value v) w:=λke aB=>by
  simp [execOp,bP,Act.eval,aB]
 have dR:((⟨vs⟩:Array Value)++Array.replicate (fn.ntmps-(⟨vs⟩:Array Value).size) undef).size=fn.ntmps:=by simp;omega
 generalize ami:(⟨vs⟩:Array Value)++Array.replicate (fn.ntmps-(⟨vs⟩:Array Value).size) undef=ke at cS dR
 have mX:∀cs',cs'={s5 with mode:=m3}::cs→rest.wpS P (bodyPostS P fn s5 cs λe m3 w'=>∃v bB M' β',e = .returned v∧settle m3 = .returning∧R bB∧bw P K M' β' {env:=h_ (.ret (.cn []) none),H:=cy 0 bB,aK:=H.length} #[v] w')
  ⟨(ke.setIfInBounds r v).setIfInBounds t2 v,[]⟩ cs' w:=by
  intro cs' dQ
  have AY:bw P {K with ds:=[]} M β {env:=(t2,{d:=.v (x.getD .h9)})::del (hv args []) r,H:=cy 0 H,aK:=H.length} ((ke.setIfInBounds r v).setIfInBounds t2 v) w:=
   ((cS.drop (t:=r) (v:=v)).put (t:=t2) (v:=v) (e:={d:=.v (x.getD .h9)}) (by rw [Array.size_setIfInBounds,dR];exact jt) (.v _ _ am) (λT aA=>by cases aA)).u4 []
  refine wpS_of_wp (wp_mono (h {K with ds:=[]} d9 _ w ⟨rfl,rfl,by simpa using dR,M,β,AY⟩) ?_)
  rintro e dc w' ⟨fl,bR,g1,g2⟩
  cases fl with
  |normal=>
   obtain⟨rfl,hd,_,M',β',hs⟩:=g1;obtain⟨o,bB,g3,rfl,g4⟩:=g2;obtain⟨v2,g5,mt,M2,vj,g6,g7⟩:=AL cf (K:={K with ds:=[]}) d9 hs g3;cases g6;exact⟨hd,m3,dQ,v2,g5,v2,bB,M2,vj,rfl,xe,g4,g7.u4 K.ds⟩
  |ret=>
   obtain⟨rfl,hd,_,M',β',hs⟩:=g1;obtain⟨o,bB,g3,rfl,g4⟩:=g2;obtain⟨v2,g5,mt,M2,vj,g6,g7⟩:=AL cf (K:={K with ds:=[]}) d9 hs g3;cases g6;exact⟨hd,m3,dQ,v2,g5,v2,bB,M2,vj,rfl,xe,g4,g7.u4 K.ds⟩
  |exit i=>exact g2.elim
  |az y=>
   obtain⟨bB,_,g4,_⟩:=g2;cases g4
 have e3:(execOp ((({tmps:=ke,defers:=[]}:Act).put dr.dst v).eval) hN).run P w = .ok (.value v) w:=by
  rw [aa];exact e2 ke (by omega)
 rcases AX with AX|⟨AX,rfl,hc0⟩
 ·simp only [AX,e3];rw [Oper.upon_value,aa,dF];exact mX _ rfl
 ·simp only [AX,e3];rw [Oper.upon_value,aa,dF];exact mX _ (by rw [hc0])
end
def px(H:List (Nat×List aP)):Nat→List (Nat×List aP)
 | 0=>[]
 |n+1=>match look H n with
  |some cs=>(n,cs)::px H n
  |none=>px H n
def LC{H:List (Nat×List aP)}:∀{n q:Nat} {cs:List aP},look (px H n) q=some cs→q<n∧look H q=some cs
 | 0,q,cs,h=>by simp [px,look]at h
 |n+1,q,cs,h=>by
  unfold px at h;split at h
  ·rename_i c hc;rw [dC]at h;split at h
   ·rename_i ak;subst ak;cases h;exact⟨by omega,hc⟩
   ·obtain⟨Z,aa⟩:=LC h;exact⟨by omega,aa⟩
  ·obtain⟨Z,aa⟩:=LC h;exact⟨by omega,aa⟩
def TE(mk:Nat)(ops:List Oper)(o:Oper)(x:V)(hs:List (Nat×List aP))(aO:List Prop)(jO:List Nat)(rs:List e6)(sX:List (Nat×List aP)):dS:=
 {dst:=o.dst,p:=[],f:={e:=none,rs:=[],hs:=[(mk,[])],aO},jO,mY:=pp ops o,pn:=qj o,rs,eA:=1,u5:=x,po:=hs,sX}
def TF(ops:List Oper)(o:Oper):dS:=
 {dst:=o.dst,p:=[],f:={e:=none,rs:=[]},jO:=[],mY:=pp ops o,pn:=qj o,rs:=[],eA:=2}
def rE(bZ:ge)(tt:dq)(ops:List Oper)(f7 mk:Nat):Nat→List Oper→List (List e6)→c8→Option (List dS×c8×List Prop×List (V×List (Nat×List aP)))
 |_,[],[],g=>some ([],g,[],[])
 |i,o::l,rs::jw,g=>bif Nat.beq i f7 then match o_ ops g o with
  |some []=>match step1 bZ tt ops {g with rs:=rs} [] o with
   |some (.az x hs aO)=>match rE bZ tt ops f7 mk (i+1) l jw (dY (TE mk ops o x hs aO (iB tt g [] o++List.range mk) rs g.H) g) with
    |some (ci,ew,sT,xs)=>some (TE mk ops o x hs aO (iB tt g [] o++List.range mk) rs g.H::ci,ew,sT++aO,(x,hs++px g.H mk)::xs)
    |none=>none
   |_=>none
  |_=>none
  else bif waits ops f7 3 i then match rE bZ tt ops f7 mk (i+1) l jw (dY (TF ops o) g) with
   |some (ci,ew,sT,xs)=>some (TF ops o::ci,ew,sT,xs)
   |none=>none
  else match findD bZ tt ops g o rs with
   |some E=>bif E.f.hs.all (λy=>!Nat.beq y.1 mk)then match rE bZ tt ops f7 mk (i+1) l jw (dY E g) with
    |some (ci,ew,sT,xs)=>some (E::ci,ew,sT++E.f.aO.map (under g E.p),xs)
    |none=>none
    else none
   |none=>none
 |_,_,_,_=>none
def AZ(bZ:ge)(tt:dq)(N:Nat)(ops:List Oper)(f7 mk:Nat)(jw:List (List e6))(st:aC):Option (V×List (Nat×List aP)×List Prop):=
 match rE bZ tt ops f7 mk 0 ops jw (Fa ops st) with
 |some (ci,g,aO,[(x,hs)])=>bif E9 N ops ci&&(look g.H mk).isSome&&(look st.H mk).isNone then some (x,hs,aO)else none
 |_=>none
def LD:Option (V×List (Nat×List aP)×List Prop)→Option (V×List Prop)
 |some (x,_,bi)=>some (x,bi)
 |none=>none
def LE:Option (V×List (Nat×List aP)×List Prop)→List (Nat×List aP)
 |some (_,H,_)=>H
 |none=>[]
section
variable {P:Program} {K:Ctx} {N E:Nat} {st:aC} {tt:dq} {opsA:Array Oper} {bZ:ge}
structure TG(opsA:Array Oper)(ci:List dS)(f7 mk:Nat)(x:V)(hs:List (Nat×List aP)):Prop where
 dead:∀(i:Nat) E,ci[i]? = some E→E.eA=2→waits opsA.toList f7 3 i=true
 az:∀(i:Nat) E,ci[i]? = some E→E.eA=1→E.p=[]∧E.u5=x∧E.po++px E.sX mk=hs∧∀q,q<mk→q∈E.jO
 go:∀(i:Nat) E,ci[i]? = some E→E.eA=0→i≠f7∧(E.f.hs.all (λy=>!Nat.beq y.1 mk))=true
 eA:∀(i:Nat) E,ci[i]? = some E→E.eA=0∨E.eA=1∨E.eA=2
def acP{listed:Array Bool}(gl:nO opsA listed){i f7:Nat}(hi:i∈Region.ready .any opsA listed){n:Nat}(hw:waits opsA.toList f7 n i=true):listed.getD f7 false=true:=by
 cases n with
 |zero=>simp [waits]at hw
 |succ n=>
  obtain⟨_,o,an,pr⟩:=mem_ready.1 hi;rw [waits]at hw;have ab:opsA.toList[i]? = some o:=by simpa using an
  simp only [ab]at hw;obtain⟨e,he,hb⟩:=List.any_eq_true.1 hw;simp only [Bool.and_eq_true,Bool.or_eq_true,Nat.beq_eq]at hb;have Z:=pr e (by simpa using he) hb.1
  rcases hb.2 with rfl|aa
  ·exact Z
  ·exact E0 gl aa Z
def LF{mk:Nat}:∀{l H:List (Nat×List aP)},(l.all λy=>!Nat.beq y.1 mk)=true→look H mk=none→look (l++H) mk=none
 |[],_,_,h=>h
 |(a,b)::l,H,ab,h=>by
  simp only [List.all_cons,Bool.and_eq_true,Bool.not_eq_true']at ab;rw [List.cons_append,dC];have:a≠mk:=by intro e;subst e;simp at ab
  rw [if_neg this];exact LF ab.2 h
def acQ{E:dS}{g:c8}{mk:Nat}(h:(E.f.hs.all λy=>!Nat.beq y.1 mk)=true)(hg:look g.H mk=none):look (dY E g).H mk=none:=by
 unfold dY;cases E.dst with
 |none=>exact LF h hg
 |some t=>
  cases E.p with
  |nil=>exact LF h hg
  |cons x p=>dsimp only;cases E.f.e<;>exact hg
def i_.TH(cf:e_ P tt=true){ci:List dS}{f7 mk:Nat}{x:V}{hs:List (Nat×List aP)}(k2:TG opsA ci f7 mk x hs)(dD:∀(i:Nat) o E,opsA[i]? = some o→ci[i]? = some E→ia opsA.toList o E=true)(aU:∀(i:Nat) E,ci[i]? = some E→ql N E=true)(kb:AR opsA.toList ci=true){Q:Exit→Act→World→Prop}
 (eg:∀n e dc w',sS P K N (.az x) {env:=[],H:=hs,aK:=n} e dc w'→Q e dc w'):
 ∀(n:Nat) (listed:Array Bool) (g:c8) (tmps:Array Value) (w:World) (M:Mem) (β:Nat→Option Nat),i_ (jq P) tt opsA ci (λg=>(look g.H mk).isSome=true) n listed g→listed.size=opsA.size→nO opsA listed→s3 ci listed g→listed.getD f7 false=false→look g.H mk=none→ft P K N M β g tmps w→wpAny P .any opsA Q n listed ⟨tmps,K.ds⟩ w
 | 0,_,g,tmps,w,M,β,h,_,_,_,_,eU,_=>by have:(look g.H mk).isSome=true:=h.2;rw [eU]at this;cases this
 |n+1,listed,g,tmps,w,M,β,h,dR,gl,mm,TI,eU,fK=>by
  refine⟨(λah=>by have:(look g.H mk).isSome=true:=h.1 ah;rw [eU]at this;cases this),λi hi=>?_⟩
  obtain⟨o,E,an,bK,E8,hn⟩:=h.2 i hi;have bm:i<listed.size:=by rw [dR];exact(Array.getElem?_eq_some_iff.1 an).1
  have nP:listed.getD i false=false:=by have:=(mem_ready.1 hi).1;simpa [Array.getD_eq_getD_getElem?,bm]using this
  have pm:ft P K N M β {g with rs:=E.rs,aO:=[]} tmps w:=⟨fK.bd,fK.size,fK.fresh,fK.cond⟩;unfold wpOp;simp only [an];rcases k2.eA i E bK with hk|hk|hk
  ·have jv:=E8.resolve_left (by rw [hk];simp)
   obtain⟨qo,u2⟩:=k2.go i E bK hk;have Lo:=Tx (N:=N) hk jv bK (dD i o E an bK) (aU i E bK) kb gl nP mm;refine K9 pm cf (opsA:=opsA) rfl Lo (λq ak=>?_) (λfs w' M' β' cq=>?_)
   ·obtain⟨q',pi,rfl⟩:=List.mem_map.1 ak;exact jv.aO q' pi
   ·exact i_.TH cf k2 dD aU kb eg n _ (dY E g) fs w' M' β' hn (by simpa using dR) (gl.set hi) (mm.ap bK bm) (by rw [getD_set_ne false qo];exact TI) (acQ u2 eU) ⟨cq.bd,cq.size,cq.fresh,cq.cond⟩
  ·have jv:=E8.resolve_left (by rw [hk];simp)
   obtain⟨hp,hx,acR,oC⟩:=k2.az i E bK hk
   have cS:step1 (jq P) tt opsA.toList {g with rs:=E.rs,aO:=[]} [] o=some (.az x E.po E.f.aO):=by
    have Z:=jv.st;rw [hk,hp,hx]at Z;refine Eq.trans ?_ Z;exact Li (g1:={g with rs:=E.rs,aO:=[]}) (g2:={g with rs:=E.rs}) (λ_ _ _ _=>⟨rfl,rfl⟩) rfl rfl (λ_=>rfl) (λ_ _=>rfl)
   have LG:o_ opsA.toList {g with rs:=E.rs,aO:=[]} o=some []:=by rw [←hp];exact jv.EX
   have acS:nD (jq P) tt N opsA.toList {g with rs:=E.rs,aO:=[]} o=some (.az x {env:=o9 g.env,H:=E.po++g.H,aK:=g.aK} (E.f.aO++[])):=by
    unfold nD;rw [LG]
    dsimp only
    rw [cS];rfl
   refine S3 pm cf (opsA:=opsA) rfl acS (λq ak=>?_) (λe dc w' rC=>?_)
   ·rw [List.append_nil]at ak;have:=jv.aO q ak
    rw [hp]at this;exact this
   ·obtain⟨v,Z,aa,Ah,Ai,aj,aD⟩:=rC;have mX:=jv.fin hk
    have lw:∀q cs,look hs q=some cs→look (E.po++g.H) q=some cs:=by
     intro q cs ak;rw [←acR,xu]at ak;rw [xu];cases ab:look E.po q with
     |some c=>rw [ab]at ak;exact ak
     |none=>
      rw [ab]at ak;obtain⟨aV,bP⟩:=LC ak;rw [←bP];exact mX q (oC q aV)
    refine eg g.aK e dc w' ⟨v,Z,aa,Ah,Ai,aj,(aD.AG _).sub rfl (λl aX ab=>?_) (λq cs ak=>⟨cs,lw q cs ak,rfl⟩)⟩
    cases l with
    |slot s=>simp [aC.at,look]at ab
    |cell q i=>
     simp only [aC.at]at ab ⊢;cases ak:look hs q with
     |none=>rw [ak]at ab;simp at ab
     |some cs=>
      rw [ak]at ab;rw [lw q cs ak];exact⟨aX,ab,rfl,λ_ h=>h⟩
  ·have:=acP gl hi (k2.dead i E bK hk)
   rw [TI]at this;cases this
def Fg{ops:List Oper}{f7 mk:Nat}{Fi:c8→Prop}:∀{l:List Oper} {i:Nat} {jw:List (List e6)} {g:c8} {ci:List dS} {ew:c8} {aO:List Prop} {xs:List (V×List (Nat×List aP))},rE bZ tt ops f7 mk i l jw g=some (ci,ew,aO,xs)→(∀q,q∈aO→q)→Fi ew→
 ci.length=l.length∧E5 bZ tt ops Fi (k3 l ci) g∧
 (∀(j:Nat) E,ci[j]? = some E→(E.eA=0∧i+j≠f7∧(E.f.hs.all (λy=>!Nat.beq y.1 mk))=true)∨(E.eA=1∧E.p=[]∧(E.u5,E.po++px E.sX mk)∈xs∧∀q,q<mk→q∈E.jO)∨(E.eA=2∧waits ops f7 3 (i+j)=true))
 |[],i,[],g,ci,ew,aO,xs,h,_,du=>by
  simp only [rE,Option.some.injEq,Prod.mk.injEq]at h;obtain⟨rfl,rfl,rfl,rfl⟩:=h;exact⟨rfl,du,by simp⟩
 |[],_,_::_,_,_,_,_,_,h,_,_=>by simp [rE]at h
 |_::_,_,[],_,_,_,_,_,h,_,_=>by simp [rE]at h
 |o::l,i,rs::jw,g,ci,ew,aO,xs,h,b7,du=>by
  have next:∀{E:dS} {vb:List dS} {xz:List (V×List (Nat×List aP))},(∀(j:Nat) E,vb[j]? = some E→(E.eA=0∧i+1+j≠f7∧(E.f.hs.all (λy=>!Nat.beq y.1 mk))=true)∨(E.eA=1∧E.p=[]∧(E.u5,E.po++px E.sX mk)∈xz∧∀q,q<mk→q∈E.jO)∨(E.eA=2∧waits ops f7 3 (i+1+j)=true))→(∀z,z∈xz→z∈xs)→
   ((E.eA=0∧i≠f7∧(E.f.hs.all (λy=>!Nat.beq y.1 mk))=true)∨(E.eA=1∧E.p=[]∧(E.u5,E.po++px E.sX mk)∈xs∧∀q,q<mk→q∈E.jO)∨(E.eA=2∧waits ops f7 3 i=true))→
   ∀(j:Nat) cQ,(E::vb)[j]? = some cQ→(cQ.eA=0∧i+j≠f7∧(cQ.f.hs.all (λy=>!Nat.beq y.1 mk))=true)∨(cQ.eA=1∧cQ.p=[]∧(cQ.u5,cQ.po++px cQ.sX mk)∈xs∧∀q,q<mk→q∈cQ.jO)∨(cQ.eA=2∧waits ops f7 3 (i+j)=true):=by
   intro E vb xz Z hx aa j cQ hj;cases j with
   |zero=>simp at hj;subst hj;exact aa
   |succ j=>
    have:=Z j cQ (by simpa using hj)
    rw [show i+1+j=i+(j+1)by omega]at this
    rcases this with aj|⟨aj,aD,aV,bP⟩|aj
    ·exact .inl aj
    ·exact .inr (.inl ⟨aj,aD,hx _ aV,bP⟩)
    ·exact .inr (.inr aj)
  simp only [rE]at h;rw [Bool.cond_eq_ite]at h;split at h
  ·rename_i qo;split at h
   case h_2=>cases h
   rename_i LG;split at h
   case h_2=>cases h
   rename_i x hs acD cS;split at h
   case h_2=>cases h
   rename_i vb g1 TJ xz Z;simp only [Option.some.injEq,Prod.mk.injEq]at h;obtain⟨rfl,rfl,rfl,rfl⟩:=h;obtain⟨aa,aj,aD⟩:=Fg Z (λq ak=>b7 q (List.mem_append_left _ ak)) du
   refine⟨by simp [aa],⟨.inr ⟨LG,cS,(λq ak=>b7 q (List.mem_append_right _ ak)),(λq ak=>List.mem_append_left _ ak),λ_ q _=>rfl⟩,aj⟩,next aD (λz cx=>List.mem_cons_of_mem _ cx) (.inr (.inl ⟨rfl,rfl,List.mem_cons_self ..,λq ak=>List.mem_append_right _ (List.mem_range.2 ak)⟩))⟩
  ·rename_i qo;rw [Bool.cond_eq_ite]at h;split at h
   ·rename_i hw;split at h
    case h_2=>cases h
    rename_i vb g1 TJ xz Z;simp only [Option.some.injEq,Prod.mk.injEq]at h;obtain⟨rfl,rfl,rfl,rfl⟩:=h;obtain⟨aa,aj,aD⟩:=Fg Z b7 du;exact⟨by simp [aa],⟨.inl rfl,aj⟩,next aD (λz cx=>cx) (.inr (.inr ⟨rfl,hw⟩))⟩
   ·split at h
    case h_2=>cases h
    rename_i E bK;rw [Bool.cond_eq_ite]at h;split at h
    case isFalse=>cases h
    rename_i pc;split at h
    case h_2=>cases h
    rename_i vb g1 TJ xz Z;simp only [Option.some.injEq,Prod.mk.injEq]at h;obtain⟨rfl,rfl,rfl,rfl⟩:=h;obtain⟨aa,aj,aD⟩:=Fg Z (λq ak=>b7 q (List.mem_append_left _ ak)) du
    have Lp:∀q,q∈E.f.aO→under g E.p q:=λq ak=>b7 _ (List.mem_append_right _ (List.mem_map.2 ⟨q,ak,rfl⟩))
    have u2:=pc;unfold findD at bK;split at bK
    ·cases bK
    rename_i p hp;split at bK
    ·rename_i f bJ;cases bK;exact⟨by simp [aa],⟨.inr ⟨hp,bJ,Lp,λ_ h=>h,λh=>by cases h⟩,aj⟩,next aD (λz cx=>cx) (.inl ⟨rfl,(by simpa using qo),u2⟩)⟩
    ·cases bK
def aT.acT{id:Nat}{Q:b_→aC→Prop}(cf:e_ P tt=true)(hm:P.follows .mixedOrders=true)(f7:Nat)(jw:List (Nat×List e6)){x:V}{bi:List Prop}(ah:LD (AZ (jq P) tt N opsA.toList f7 (st.aK+opsA.toList.length) (spread opsA.toList.length 0 jw) st)=some (x,bi))(b7:kF bi)
 (eg:∀n,Q (.az x) {env:=[],H:=LE (AZ (jq P) tt N opsA.toList f7 (st.aK+opsA.toList.length) (spread opsA.toList.length 0 jw) st),aK:=n}):aT P N E (.region id opsA true) Q st:=by
 rintro K d9 a w ⟨_,hd,dR,M,β,cw⟩
 obtain⟨tmps,ds⟩:=a;simp only at hd dR
 subst hd;refine wp_region_any hm ?_;cases lx:AZ (jq P) tt N opsA.toList f7 (st.aK+opsA.toList.length) (spread opsA.toList.length 0 jw) st with
 |none=>rw [lx]at ah;cases ah
 |some res=>
 obtain⟨rn,acU,amj⟩:=res;rw [lx]at ah eg;simp only [LD,Option.some.injEq,Prod.mk.injEq]at ah;obtain⟨rfl,rfl⟩:=ah;simp only [LE]at eg;unfold AZ at lx;split at lx
 case h_2=>cases lx
 rename_i ci g sT Aw fK eO;rw [Bool.cond_eq_ite]at lx;split at lx
 case isFalse=>cases lx
 rename_i hc;simp only [Option.some.injEq,Prod.mk.injEq]at lx;obtain⟨rfl,rfl,rfl⟩:=lx;simp only [Bool.and_eq_true,Option.isNone_iff_eq_none]at hc;obtain⟨⟨hc,xx⟩,TK⟩:=hc;generalize amk:st.aK+opsA.toList.length=mk at eO xx TK
 obtain⟨hlen,Lt,Fh⟩:=Fg (Fi:=λg=>(look g.H mk).isSome=true) eO b7.mem xx
 simp only [E9,Bool.and_eq_true]at hc;obtain⟨⟨⟨c1,c2⟩,c3⟩,c4⟩:=hc
 have dD:∀(i:Nat) o E,opsA[i]? = some o→ci[i]? = some E→ia opsA.toList o E=true:=by
  intro i o E an bK;obtain⟨kD,z2⟩:=vc hlen i;have ky:opsA.toList[i]? = some o:=by simpa using an
  rw [ky]at kD;rw [bK]at z2;cases cx:(k3 opsA.toList ci)[i]? with
  |none=>rw [cx]at kD;simp at kD
  |some x=>
   rw [cx]at kD z2;simp at kD z2
   subst kD;subst z2;exact List.all_eq_true.1 c1 x (List.mem_of_getElem? cx)
 have aU:∀(i:Nat) E,ci[i]? = some E→ql N E=true:=λi E bK=>List.all_eq_true.1 c2 E (List.mem_of_getElem? bK)
 have AS:nO opsA (Array.replicate opsA.size false):=λj o an hj=>by have bm:j<opsA.size:=(Array.getElem?_eq_some_iff.1 an).1;simp [Array.getD_eq_getD_getElem?,bm]at hj
 have AT:=i_.text dD (λg1 g2 f6 Z=>by rw [←f6.box mk];exact Z) (k3 opsA.toList ci) 0 (Array.replicate opsA.size false) _ (λj=>by have:=(vc hlen j).1;simpa using this) (λj=>by have:=(vc hlen j).2;simpa using this)
  ⟨by simp,λj hj=>by simp [hj]⟩ AS c4 Lt
 have uN:(k3 opsA.toList ci).length=opsA.size:=by rw [Lq hlen];simp
 rw [uN]at AT
 have k2:TG opsA ci f7 mk Aw fK:=by
  constructor
  ·intro i E bK hk;rcases Fh i E bK with⟨Z,_⟩|⟨Z,_⟩|⟨_,Z⟩
   ·omega
   ·omega
   ·simpa using Z
  ·intro i E bK hk;rcases Fh i E bK with⟨Z,_⟩|⟨_,Z,aa,aj⟩|⟨Z,_⟩
   ·omega
   ·simp only [List.mem_singleton,Prod.mk.injEq]at aa;exact⟨Z,aa.1,aa.2,aj⟩
   ·omega
  ·intro i E bK hk;rcases Fh i E bK with⟨_,Z,aa⟩|⟨Z,_⟩|⟨Z,_⟩
   ·exact⟨by simpa using Z,aa⟩
   ·omega
   ·omega
  ·intro i E bK;rcases Fh i E bK with⟨Z,_⟩|⟨Z,_⟩|⟨Z,_⟩
   ·exact .inl Z
   ·exact .inr (.inl Z)
   ·exact .inr (.inr Z)
 refine i_.TH (K:=K) (mk:=mk) cf k2 dD aU c3 (λn e dc w' cq=>⟨_,_,cq,eg n⟩) _ _ _ tmps _ M β AT (by simp) AS (λx hx=>by cases hx) ?_ TK ⟨(cw.drew _).up _,dR,(λs id h _ b hb=>by have Z:=cw.lt _ _ hb;have aa:=(Fc _ _ _ (rf h)).1;simp only at aa;omega),λ_ _ _ h=>by simp [Fa,look]at h⟩
 rw [Array.getD_eq_getD_getElem?];by_cases oG:f7<opsA.size
 ·simp [oG]
 ·simp [oG]
end
section
variable {P:Program} {tt:dq} {fn:Func} {E:Nat} {st:aC}
def LH{y:Code}{R:Out→List (List aP)→Prop}(h:pu P tt fn E y R st):Lz P tt fn E y R .normal st:=h
def acV{y:Code}{out:Out}{A0:List (List aP)}(h:(Ab.leave tt E fn.results.toList st).map (λx=>(x.1,nL x.2))=some (out,A0)):Lz P tt fn E y (λo bB=>o=out∧bB=A0) .ret st:=by
 rw [Option.map_eq_some_iff]at h;obtain⟨⟨o,bB⟩,Z,aa⟩:=h;cases aa;exact⟨o,bB,Z,rfl,rfl⟩
def TL(tt:dq)(E:Nat)(rs:List ResultVar)(ds:List D)(ρ:List Nat)(cu:List (List aP))(st:aC):Option (List (List aP)×List D×Out×List (List aP)):=
 bif !mP ρ then none else match boxes st.H ρ,kS (idx ρ) ds,jE (λj=>ρ[j]?) cu with
  |some bs,some jm,some iu=>bif Nat.beq cu.length ρ.length then match jE (idx ρ) bs,Ab.leave tt E rs {env:=st.env,H:=kT ρ iu++st.H,aK:=st.aK} with
   |some H1,some (o,bB)=>some (H1,jm,o,nL bB)
   |_,_=>none
   else none
  |_,_,_=>none
def qm.of{rs:List ResultVar}{fd:FuncId}{ds jm:List D}{x:Option V}(ρ:List Nat){H1 cu A0:List (List aP)}{o:Out}(d:s4 P fd jm H1 x λbB=>bB=cu)(hc:TL tt E rs ds ρ cu st=some (H1,jm,o,A0)):
 qm P tt E rs fd ds (λo' bB=>o'=o∧bB=A0) x st:=by
 unfold TL at hc;rw [Bool.cond_eq_ite]at hc;split at hc
 ·cases hc
 rename_i hn;split at hc
 case h_2=>cases hc
 rename_i bs a iu kB ha uU;rw [Bool.cond_eq_ite]at hc;split at hc
 case isFalse=>cases hc
 rename_i ab;split at hc
 case h_2=>cases hc
 rename_i acW o' bB lS gQ;simp only [Option.some.injEq,Prod.mk.injEq]at hc;obtain⟨rfl,rfl,rfl,rfl⟩:=hc;refine⟨ρ,bs,acW,a,_,(by simpa using hn),kB,lS,ha,d,λTC aj=>?_⟩
 subst aj;exact⟨iu,o',bB,(by simpa using ab),uU,gQ,rfl,rfl⟩
def acX{rs:List ResultVar}{fd:FuncId}{ds:List D}{R:Out→List (List aP)→Prop}(h:qm P tt E rs fd ds R none st):LA P tt E rs fd ds R .ret st:=h
def TM{rs:List ResultVar}{fd:FuncId}{ds:List D}{R:Out→List (List aP)→Prop}{x:V}(h:qm P tt E rs fd ds R (some x) st):LA P tt E rs fd ds R (.az x) st:=h
end
section
variable {P:Program}
def acY{w:World}{b off:Nat}{vs:List Value}{T:TypeId}{ou:Nat×Nat}(h:w.heap[b]? = some (.cells ⟨vs⟩ T ou))(u:Value):
 (w.setCell ⟨b,off,none⟩ u).heap[b]? = some (.cells ⟨vs.set off u⟩ T ou):=by
 have bm:=lt_of_heap h;have cq:w.heap[b] = .cells ⟨vs⟩ T ou:=by simpa [Array.getElem?_eq_getElem bm]using h
 show(w.heap.modify b _)[b]? = _
 rw [Array.getElem?_eq_getElem (by simpa using bm),Array.getElem_modify_self,cq]
 simp
def acZ{w:World}{b off:Nat}{u:Value}(k:Nat)(h:k≠b):(w.setCell ⟨b,off,none⟩ u).heap[k]? = w.heap[k]? := Go.RowKit.Below.heap_setCell w ⟨b,off,none⟩ u k h
def TN {f : FuncId} {fd : Func} {off : Nat} {u : TypeId} (jH : P.funcs[f]? = some fd) (LI : fd.body.isSome = true) (hn : decide (fd.name = "runtime.NumGoroutine") = false)
 (ac0:∀(b:Nat) (w:World),w.cell? ⟨b,off,none⟩=some (.pointer (some ⟨b,off,none⟩))→Calls P f #[.pointer (some ⟨b,off,none⟩)] w λe w'=>e = .returned (.tuple #[])∧w'=w)
 (ac1:∀(b:Nat) (w:World) (T:TypeId) (k:Nat),w.cell? ⟨b,off,none⟩=some (.pointer none)→w.shape? b=some (T,k)→off<k→liesAt P P.depth T (k / P.cellsOf T) off u 1=true→w.frozen? ⟨b,off,none⟩=false→
  Calls P f #[.pointer (some ⟨b,off,none⟩)] w λe w'=>e = .returned (.tuple #[])∧w'=w.setCell ⟨b,off,none⟩ (.pointer (some ⟨b,off,none⟩)))
 {cs:List aP} (dQ:cs[off]? = some ⟨.cb 0 off u,none⟩):gA P f [.ptr 0 off] [] [cs] (.ret (.cn []) none) [cs]:=by
 refine⟨⟨fd,jH,LI,by simpa using hn⟩,λK w vs M β hlen hs gO=>?_⟩
 obtain⟨v,rfl⟩:∃v,vs=[v]:=by
  match vs,hlen with
  |[v],_=>exact⟨v,rfl⟩
 have ph:=hs.e7 (.slot 0) ⟨.ptr 0 off,none⟩ (by simp [aC.at,hv,rr,cy,look])
 have uX:cc (⟨[v]⟩:Array Value) w β (.slot 0)=v:=by simp [cc]
 rw [uX]at ph;obtain⟨b,hb,rfl⟩:∃b,β 0=some b∧v = .pointer (some ⟨b,off,none⟩):=by cases ph with|ptr r o b h=>exact⟨b,h,rfl⟩
 have hl0:look (cy 0 [cs]) 0=some cs:=by simp [cy,look]
 obtain⟨bo,ws,T,bI,bh,TO,ac2,ac3,iJ,hlies⟩:=hs.box 0 cs hl0;rw [hb]at bI;cases bI;have sP:off<cs.length:=(List.getElem?_eq_some_iff.1 dQ).1;have A1:ws[off]? = some ws[off]:=List.getElem?_eq_getElem (by omega)
 have hY:w.cell? ⟨b,off,none⟩=some ws[off]:=by rw [cell_of_heap bh,A1]
 have gj:=hs.e7 (.cell 0 off) ⟨.cb 0 off u,none⟩ (by simp [aC.at,hl0,dQ])
 have b':cc (⟨[.pointer (some ⟨b,off,none⟩)]⟩:Array Value) w β (.cell 0 off)=ws[off]:=by simp [cc,hb,hY]
 rw [b']at gj
 have fin:∀w',bw P K M β {env:=[],H:=cy 0 [cs],aK:=[cs].length} #[.tuple #[]] w'→bw P K M β {env:=h_ (.ret (.cn []) none),H:=cy 0 [cs],aK:=[cs].length} #[.tuple #[]] w':=λw' h=>by
  have:=h.put (t:=0) (v:=.tuple #[]) (e:=⟨.cn [],none⟩) (by simp) (.cn [] [] rfl λi v c am=>by simp at am) (λT aA=>by cases aA)
  exact this
 generalize hx:ws[off]=x at hY gj A1
 cases gj with
 |lp r o m3=>
  have hsh:w.shape? b=some (T,ws.length):=by simp [World.shape?,bh]
  have hfz:w.frozen? ⟨b,off,none⟩=false:=by simp [World.frozen?,bh]
  have ml:=hlies _ (List.mem_of_getElem? dQ) 0 off u rfl;refine(ac1 b w T ws.length hY hsh (by omega) ml hfz).mono ?_
  rintro e w' ⟨rfl,rfl⟩
  refine⟨_,_,.tuple #[],M,β,⟨rfl,rfl⟩,rfl,fin _ ?_⟩
  have Z:=(hs.AG #[.tuple #[]]).J2 (r:=0) (b:=b) (cs:=cs) (w':=w.setCell ⟨b,off,none⟩ (.pointer (some ⟨b,off,none⟩))) hl0 hb bh (vs':=ws.set off (.pointer (some ⟨b,off,none⟩))) (cs':=cs) (by simpa using TO)
   (λy bV=>by
    rcases List.mem_or_eq_of_mem_set bV with h|rfl
    ·exact iJ y h
    ·rfl) (λh=>by rw [List.length_set];exact h) rfl (acY bh _) (λk hk=>acZ k hk) cs.length (λi y e bV he=>by
    by_cases hi:off=i
    ·subst hi;rw [List.getElem?_set_self (by omega)]at bV
     cases bV;rw [dQ]at he;cases he;exact⟨.cb 0 off b u hb,λT aA=>by cases aA⟩
    ·rw [List.getElem?_set_ne hi]at bV;have Kg:=(List.getElem?_eq_some_iff.1 he).1;refine⟨?_,λT aA=>.inl ⟨by omega,⟨e,he,aA⟩,bV⟩⟩
     have:=hs.e7 (.cell 0 i) e (by simp [aC.at,hl0,he])
     simpa [cc,hb,cell_of_heap bh,bV]using this)
  refine Z.sub rfl (λl e ab=>⟨e,?_,rfl,λ_ h=>h⟩) (λr c ah=>⟨c,?_,rfl⟩)
  ·cases l with
   |slot s=>exact ab
   |cell r i=>
    simp only [aC.at,dC]at ab ⊢;by_cases ah:r=0
    ·subst ah;rw [hl0]at ab;simpa using ab
    ·simp [cy,dC,Ne.symm ah,look]at ab
  ·simp only [dC]at ah ⊢;by_cases lP:r=0
   ·subst lP;rw [hl0]at ah;simpa using ah
   ·simp [cy,dC,Ne.symm lP,look]at ah
 |cb r o gz m3 fA=>
  rw [hb]at fA;cases fA;refine(ac0 b w hY).mono ?_
  rintro e w' ⟨rfl,rfl⟩
  exact⟨_,_,.tuple #[],M,β,⟨rfl,rfl⟩,rfl,fin _ (hs.AG _)⟩
end
section
variable {P:Program}
def TP {f : FuncId} {fd : Func} {T5 : TypeId} (jH : P.funcs[f]? = some fd) (LI : fd.body.isSome = true) (hn : decide (fd.name = "runtime.NumGoroutine") = false) (ac4 : P.cellsOf T5 = 1)
 (pc:∀(b:Nat) (w:World),w.cell? ⟨b,1,none⟩=some (.slice none 0 0)→Calls P f #[.pointer (some ⟨b,0,none⟩)] w λe w'=>e = .returned (.string ⟨#[]⟩)∧w'=w.drew)
 (fZ:∀(b g cap:Nat) (w:World),cap≠0→w.cell? ⟨b,1,none⟩=some (.slice (some ⟨g,0,none⟩) 0 cap)→Calls P f #[.pointer (some ⟨b,0,none⟩)] w λe w'=>e = .returned (.string ⟨#[]⟩)∧w'=w.drew)
 (ac5:∀(b g:Nat) (w:World) (vs:List Value),w.cell? ⟨b,1,none⟩=some (.slice (some ⟨g,0,none⟩) 0 0)→b<w.heap.size→w.heap[g]? = some (.cells ⟨vs⟩ T5 (0,0))→
  Calls P f #[.pointer (some ⟨b,0,none⟩)] w λe w'=>e = .returned (.string ⟨#[]⟩)∧w'=(w.drew.alloc (.view ⟨g,0,none⟩ T5)))
 (uT:∀(b g cap:Nat) (w:World) (vs:List Value) (l:ano),l≠[]→w.cell? ⟨b,1,none⟩=some (.slice (some ⟨g,0,none⟩) l.length cap)→w.heap[g]? = some (.cells ⟨vs⟩ T5 (0,0))→
  l.length≤cap→cap≤vs.length→l.length≤9223372036854775807→(∀(j:Nat) (x:UInt8),l[j]? = some x→vs[j]? = some (Value.int .u8 x.toNat))→
  Calls P f #[.pointer (some ⟨b,0,none⟩)] w λe w'=>e = .returned (.string ⟨l.toArray⟩)∧w'=w.drew.freeze ⟨g,0,none⟩ l.length)
 {d0:aP} {cs:List aP} {l:ano} {n:Nat} {get:Nat→V} (ix:n=l.length∧∀i,i<l.length→get i = .int .u8 ((l.getD i 0).toNat:Int)) (h63:l.length≤9223372036854775807):
 gA P f [.ptr 0 0] [] [d0::⟨.v (.bq 1 n get),some T5⟩::cs] (.ret (.v (.str l)) none) [d0::⟨.v (.bq 1 n get),none⟩::cs]:=by
 obtain⟨rfl,ix⟩:=ix;refine⟨⟨fd,jH,LI,by simpa using hn⟩,λK w vs M β hlen hs gO=>?_⟩
 obtain⟨v,rfl⟩:∃v,vs=[v]:=by
  match vs,hlen with
  |[v],_=>exact⟨v,rfl⟩
 have ph:=hs.e7 (.slot 0) ⟨.ptr 0 0,none⟩ (by simp [aC.at,hv,rr,cy,look])
 have uX:cc (⟨[v]⟩:Array Value) w β (.slot 0)=v:=by simp [cc]
 rw [uX]at ph;obtain⟨b,hb,rfl⟩:∃b,β 0=some b∧v = .pointer (some ⟨b,0,none⟩):=by cases ph with|ptr r o b h=>exact⟨b,h,rfl⟩
 generalize lq:d0::(⟨.v (.bq 1 l.length get),some T5⟩:aP)::cs=m4 at hs
 have jI:m4[1]? = some ⟨.v (.bq 1 l.length get),some T5⟩:=by rw [←lq];rfl
 have hl0:look (cy 0 [m4]) 0=some m4:=by simp [cy,look]
 obtain⟨bo,ws,T,bI,bh,TO,ac2,ac3,iJ⟩:=hs.box 0 m4 hl0;rw [hb]at bI;cases bI;have sP:1<m4.length:=(List.getElem?_eq_some_iff.1 jI).1;have A1:ws[1]? = some ws[1]:=List.getElem?_eq_getElem (by omega)
 have hY:w.cell? ⟨b,1,none⟩=some ws[1]:=by rw [cell_of_heap bh,A1]
 have TQ:({env:=hv [.ptr 0 0] [],H:=cy 0 [m4],aK:=[m4].length}:aC).at (.cell 0 1)=some ⟨.v (.bq 1 l.length get),some T5⟩:=by simp [aC.at,hl0,jI]
 have gj:=hs.e7 _ _ TQ;have fW:=hs.own _ _ T5 TQ rfl;have b':cc (⟨[.pointer (some ⟨b,0,none⟩)]⟩:Array Value) w β (.cell 0 1)=ws[1]:=by simp [cc,hb,hY]
 rw [b']at gj fW
 -- lu state behind it
 have uS:∀(j:Nat) aX,(d0::(⟨.v (.bq 1 l.length get),none⟩:aP)::cs)[j]? = some aX→∃bU,m4[j]? = some bU∧bU.d=aX.d∧(∀T,aX.own=some T→bU.own=some T∧j≠1):=by
  intro j aX hj;rw [←lq]
  match j with
  | 0=>simp only [List.getElem?_cons_zero,Option.some.injEq]at hj ⊢;subst hj;exact⟨_,rfl,rfl,λT aA=>⟨aA,by omega⟩⟩
  | 1=>simp only [List.getElem?_cons_succ,List.getElem?_cons_zero,Option.some.injEq]at hj ⊢;subst hj;exact⟨_,rfl,rfl,λT aA=>by cases aA⟩
  |j+2=>simp only [List.getElem?_cons_succ]at hj ⊢;exact⟨aX,hj,rfl,λT aA=>⟨aA,by omega⟩⟩
 obtain⟨pm,oB⟩:=hs.RK (r:=0) (i:=1) (cs':=d0::⟨.v (.bq 1 l.length get),none⟩::cs) hl0 jI rfl (by rw [←lq];rfl) uS (.slot 0)
 rw [b']at oB
 have fin:∀w' M',bw P K M' β {env:=hv [.ptr 0 0] [],H:=(0,d0::⟨.v (.bq 1 l.length get),none⟩::cs)::cy 0 [m4],aK:=[m4].length} ⟨[.pointer (some ⟨b,0,none⟩)]⟩ w'→
  bw P K M' β {env:=h_ (.ret (.v (.str l)) none),H:=cy 0 [d0::⟨.v (.bq 1 l.length get),none⟩::cs],aK:=[m4].length} #[.string ⟨⟨l⟩⟩] w':=λw' M' h=>by
  have Z:=(h.AG #[.string ⟨⟨l⟩⟩]).put (t:=0) (v:=.string ⟨⟨l⟩⟩) (e:=⟨.v (.str l),none⟩) (by simp) (.v _ _ (.str l)) (λT aA=>by cases aA)
  refine Z.sub rfl (λq e ak=>⟨e,?_,rfl,λ_ h=>h⟩) (λr c ah=>⟨c,?_,rfl⟩)
  ·cases q with
   |slot s=>exact ak
   |cell r i=>
    simp only [aC.at,dC]at ak ⊢;by_cases ah:r=0
    ·subst ah;simpa [cy,look]using ak
    ·simp [cy,dC,Ne.symm ah,look]at ak
  ·simp only [dC]at ah ⊢;by_cases lP:r=0
   ·subst lP;simpa [cy,look]using ah
   ·simp [cy,dC,Ne.symm lP,look]at ah
 have ac6:b<w.heap.size:=lt_of_heap bh;have Fj:bw P K M β {env:=hv [.ptr 0 0] [],H:=(0,d0::⟨.v (.bq 1 l.length get),none⟩::cs)::cy 0 [m4],aK:=[m4].length} ⟨[.pointer (some ⟨b,0,none⟩)]⟩ w.drew:=pm.drew _;have TR:[m4].length=1:=rfl;generalize hx:ws[1]=x at hY gj fW oB A1
 rcases fW with h0|⟨g,n,cap,us,T',Z,aa,aj,aD,aV,bP,dF⟩
 ·subst h0;obtain⟨_,ab⟩|⟨_,_,_,_,h,_⟩:=sF gj
  ·obtain rfl:=List.eq_nil_of_length_eq_zero ab;refine(pc b w hY).mono ?_
   rintro e w' ⟨rfl,rfl⟩
   exact⟨_,_,_,M,β,⟨rfl,rfl⟩,rfl,fin _ M Fj⟩
  ·cases h
 ·subst dF
  have ac7:∃(b off cap:Nat) (val:Nat→Nat→Value),x = .slice (some ⟨b,off,none⟩) l.length cap∧l.length≤cap∧(∀i,i<l.length→(get i).cells.length=1)∧(∀i j,i<l.length→j<1→M b (off+i*1+j)=some (val i j))∧
   (∀i j,i<l.length→j<1→(val i j).oneCell'=true)∧(∀(i j:Nat) c,i<l.length→(get i).cells[j]? = some c→cP M (val i j) c):=by
   rcases sF gj with⟨h|⟨a,h⟩,cx⟩|hx
   ·rw [Z]at h;cases h
   ·rw [Z]at h;simp only [Value.slice.injEq,Option.some.injEq]at h;obtain⟨rfl,rfl,rfl⟩:=h;exact⟨g,0,0,λ_ _=>undef,Z.trans (by rw [cx]),by omega,λi hi=>by omega,λi j hi=>by omega,λi j hi=>by omega,λi j c hi=>by omega⟩
   ·exact hx
  obtain⟨g2,off,aml,val,am,hc,hk,cF,amm,iZ⟩:=ac7
  focus
  ·rw [Z]at am;simp only [Value.slice.injEq,Option.some.injEq,Addr.mk.injEq,and_true]at am;obtain⟨⟨rfl,rfl⟩,rfl,rfl⟩:=am;rw [ac4,Nat.mul_one]at aD;subst Z;by_cases ab:l=[]
   ·subst ab;by_cases hcap:cap=0
    ·subst hcap;refine(ac5 b g w us hY ac6 aj).mono ?_
     rintro e w' ⟨rfl,rfl⟩
     refine⟨_,_,_,M,β,⟨rfl,rfl⟩,rfl,fin _ M (Fj.grow (λk hk=>?_))⟩
     exact Go.Lib.alloc_old _ _ k hk
    ·refine(fZ b g cap w hcap hY).mono ?_
     rintro e w' ⟨rfl,rfl⟩
     exact⟨_,_,_,M,β,⟨rfl,rfl⟩,rfl,fin _ M Fj⟩
   ·have Ak:∀(j:Nat) (x:UInt8),l[j]? = some x→us[j]? = some (Value.int .u8 x.toNat):=by
     intro j x hx;have hj:j<l.length:=(List.getElem?_eq_some_iff.1 hx).1;have e1:=hs.mem _ _ _ (cF j 0 hj (by omega))
     have e2:=ix j hj;have e3:=iZ j 0 (.int .u8 ((l.getD j 0).toNat:Int)) hj (by rw [e2];rfl)
     rw [cell_of_heap aj,show 0+j*1+0=j by omega]at e1
     rw [e1];generalize val j 0=y at e3 ⊢
     cases e3;simp [List.getD,hx]
    refine(uT b g cap w us l ab hY aj hc aD h63 Ak).mono ?_
    rintro e w' ⟨rfl,rfl⟩
    refine⟨_,_,.string ⟨⟨l⟩⟩,M,β,⟨rfl,rfl⟩,rfl,fin _ M ?_⟩
    have hfz:(w.drew.freeze ⟨g,0,none⟩ l.length).os=w.drew.os∧(w.drew.freeze ⟨g,0,none⟩ l.length).output=w.drew.output∧(∀k,k≠g→(w.drew.freeze ⟨g,0,none⟩ l.length).heap[k]? = w.drew.heap[k]?)∧∃ou,(w.drew.freeze ⟨g,0,none⟩ l.length).heap[g]? = some (.cells ⟨us⟩ T' ou):=by
     have hg':w.drew.heap[g]? = some (.cells ⟨us⟩ T' (0,0)):=aj;have bm:=lt_of_heap hg';have cq:w.drew.heap[g] = .cells ⟨us⟩ T' (0,0):=by simpa [Array.getElem?_eq_getElem bm]using hg'
     unfold World.freeze;split
     ·exact⟨rfl,rfl,λ_ _=>rfl,_,hg'⟩
     ·refine⟨rfl,rfl,λk hk=>?_,?_⟩
      ·simp only [Array.getElem?_modify];rw [if_neg (by simpa using(Ne.symm hk))]
      ·simp only [Array.getElem?_modify];rw [if_pos trivial,hg'];exact⟨_,rfl⟩
    obtain⟨f1,f2,f3,ou,f4⟩:=hfz;refine Fj.free g bP (λr c ah lT=>oB.unbox g r c rfl ah lT) (λq e gP ak sJ ac8=>?_) (λk hk _=>f3 k hk) (Mem.le_refl _) (λ_ _ _=>rfl) (λo v am=>?_) (by rw [f1,f2])
    ·refine oB.apart q e gP g ak sJ ?_ rfl ac8
     rintro rfl
     simp only [aC.at,hv,rr,cy,look]at ak;simp at ak;subst ak;cases sJ
    ·have:=hs.mem _ _ _ am
     rw [cell_of_heap aj]at this;rw [cell_of_heap f4,this]
end
def vk(w:World):Mem:=λb o=>w.cell? ⟨b,o,none⟩
def qp(w:World)(vs:List Value)(cs:List V):Prop:=
 vs.length=cs.length∧(∀v,v∈vs→v.oneCell'=true)∧∀(i:Nat) v c,vs[i]? = some v→cs[i]? = some c→cP (vk w) v c
def qp.nil{w:World}:qp w [] []:=⟨rfl,(λv h=>by cases h),λi v c h=>by simp at h⟩
def qp.one{w:World}{v:Value}{c:V}(Z:v.oneCell'=true)(h:cP (vk w) v c):qp w [v] [c]:=
 ⟨rfl,(λu hu=>by obtain rfl:=List.mem_singleton.1 hu;exact Z),λi u d hu hd=>by
  match i with
  | 0=>cases hu;cases hd;exact h
  |i+1=>simp at hu⟩
def qp.app{w:World}{vs us:List Value}{cs ds:List V}(h:qp w vs cs)(cq:qp w us ds):qp w (vs++us) (cs++ds):=by
 refine⟨by simp [h.1,cq.1],λv am=>?_,λi v c am hc=>?_⟩
 ·rcases List.mem_append.1 am with am|am
  ·exact h.2.1 v am
  ·exact cq.2.1 v am
 ·by_cases hi:i<vs.length
  ·rw [List.getElem?_append_left hi]at am;rw [List.getElem?_append_left (by rw [←h.1];exact hi)]at hc
   exact h.2.2 i v c am hc
  ·rw [List.getElem?_append_right (by omega)]at am
   rw [List.getElem?_append_right (by rw [←h.1];omega),←h.1]at hc
   exact cq.2.2 _ v c am hc
def qp.agg{w:World}{vs:List Value}{cs:List V}(h:qp w vs cs):cP (vk w) (.agg ⟨vs⟩) (.agg cs):=.agg vs cs h.1 h.2.1 h.2.2
section
variable {H:Type} {enc:TypeId×Value→H} {P:Program} {w:World}
end
section
variable {P:Program} {K:Ctx} {N E:Nat} {M:Mem} {β:Nat→Option Nat} {st bR:aC} {tmps:Array Value} {w:World}
mutual
def qq(r:Nat)(x:V):D→D
 |.v y=>.v y
 |.ptr q off=>bif Nat.beq q r&&Nat.beq off 0 then .eE x else .ptr q off
 |.cb q off u=>.cb q off u
 |.eE y=>.eE y
 |.full k n g=>.full k n g
 |.fn f cs=>.fn f (qr r x cs)
 |.agg cs=>.agg (qr r x cs)
 |.cn cs=>.cn (qr r x cs)
def qr(r:Nat)(x:V):List D→List D
 |[]=>[]
 |d::l=>qq r x d::qr r x l
end
def Fk(r:Nat)(x:V):∀(l:List D) (i:Nat),(qr r x l)[i]? = (l[i]?).map (qq r x)
 |[],i=>by simp [qr]
 |d::l,0=>by simp [qr]
 |d::l,i+1=>by simp only [qr,List.getElem?_cons_succ];exact Fk r x l i
def Fl(r:Nat)(x:V):∀l:List D,(qr r x l).length=l.length
 |[]=>rfl
 |d::l=>by simp only [qr,List.length_cons,Fl r x l]
def ce.ou{M':Mem}(cF:M.le M'){r b:Nat}{x:V}{u:Value}(hb:β r=some b)(hx:x.isAgg=false)(hu:M' b 0=some u)(Z:u.oneCell'=true)(ah:cP M' u x){v:Value}{d:D}(h:ce M β v d):ce M' β v (qq r x d):=by
 induction h with
 |v u x h=>exact .v u x (h.mono cF)
 |ptr q off bo h=>
  simp only [qq];cases hc:Nat.beq q r&&Nat.beq off 0 with
  |false=>exact .ptr q off bo h
  |true=>
   simp only [Bool.and_eq_true,Nat.beq_eq]at hc;obtain⟨rfl,rfl⟩:=hc;rw [hb]at h;cases h;have xp:=xb hx;refine .eE b 0 x (λ_=>u) (λj hj=>?_) (λj hj=>Z) (λj c hc=>?_)
   ·rw [xp]at hj;simp at hj
    subst hj;exact hu
   ·rw [xp]at hc;cases j with
    |zero=>simp at hc;subst hc;exact ah
    |succ j=>simp at hc
 |lp q off t=>exact .lp q off t
 |cb q off bo t h=>exact .cb q off bo t h
 |eE b off x val hm Z h=>exact .eE b off x val (λj hj=>cF _ _ _ (hm j hj)) Z (λj c hc=>(h j c hc).mono cF)
 |full base k n get h=>exact .full base k n get (h.mono cF)
 |fn f vs cs hn _ aF=>
  simp only [qq];refine .fn f vs _ (by rw [Fl];exact hn) λi v c am hc=>?_
  rw [Fk]at hc;simp only [Option.map_eq_some_iff]at hc;obtain⟨c0,h0,rfl⟩:=hc;exact aF i v c0 am h0
 |agg vs cs hn Z _ aF=>
  simp only [qq];refine .agg vs _ (by rw [Fl];exact hn) Z λi v c am hc=>?_
  rw [Fk]at hc;simp only [Option.map_eq_some_iff]at hc;obtain⟨c0,h0,rfl⟩:=hc;exact aF i v c0 am h0
 |cn vs cs hn _ aF=>
  simp only [qq];refine .cn vs _ (by rw [Fl];exact hn) λi v c am hc=>?_
  rw [Fk]at hc;simp only [Option.map_eq_some_iff]at hc;obtain⟨c0,h0,rfl⟩:=hc;exact aF i v c0 am h0
def xA(r:Nat)(x:V)(e:aP):aP:={d:=qq r x e.d,own:=e.own}
def Fm(r:Nat)(x:V):List (Nat×aP)→List (Nat×aP)
 |[]=>[]
 |(t,e)::l=>(t,xA r x e)::Fm r x l
def Fn(r:Nat)(x:V):List (Nat×List aP)→List (Nat×List aP)
 |[]=>[]
 |(t,cs)::l=>(t,cs.map (xA r x))::Fn r x l
def TS(r:Nat)(x:V):∀(l:List (Nat×aP)) (s:Nat),look (Fm r x l) s=(look l s).map (xA r x)
 |[],s=>rfl
 |(t,e)::l,s=>by
  simp only [Fm,dC];by_cases h:t=s
  ·simp [h]
  ·simp only [h,if_false];exact TS r x l s
def LJ(r:Nat)(x:V):∀(l:List (Nat×List aP)) (s:Nat),look (Fn r x l) s=(look l s).map λcs=>cs.map (xA r x)
 |[],s=>rfl
 |(t,cs)::l,s=>by
  simp only [Fn,dC];by_cases h:t=s
  ·simp [h]
  ·simp only [h,if_false];exact LJ r x l s
def s6(r:Nat)(x:V)(st:aC):aC:={env:=Fm r x st.env,H:=Fn r x (del st.H r),aK:=st.aK}
def A2{r:Nat}{x:V}{l:Loc}{aX:aP}(h:(s6 r x st).at l=some aX):∃e,aC.at {env:=st.env,H:=del st.H r,aK:=st.aK} l=some e∧aX=xA r x e:=by
 cases l with
 |slot s=>
  simp only [aC.at,s6,TS,Option.map_eq_some_iff]at h ⊢;obtain⟨e,Z,aa⟩:=h;exact⟨e,Z,aa.symm⟩
 |cell q i=>
  simp only [aC.at,s6,LJ,Option.bind_eq_some_iff,Option.map_eq_some_iff]at h ⊢;obtain⟨cs,⟨k1,Z,rfl⟩,aa⟩:=h;rw [List.getElem?_map,Option.map_eq_some_iff]at aa;obtain⟨e,aj,aD⟩:=aa;exact⟨e,⟨k1,Z,aj⟩,aD.symm⟩
def ac9{r:Nat}{x:V}{d:D}{q off:Nat}{u:TypeId}(h:qq r x d = .cb q off u):d = .cb q off u:=by
 cases d<;>simp only [qq]at h
 case ptr q' o'=>cases hc:Nat.beq q' r&&Nat.beq o' 0<;>rw [hc]at h<;>cases h
 all_goals first|exact h|cases h
def bw.freeze(h:bw P K M β st tmps w){r:Nat}{x:V}{own:Option TypeId}(ah:look st.H r=some [⟨.v x,own⟩])(hx:x.isAgg=false):∃M',bw P K M' β (s6 r x st) tmps w:=by
 obtain⟨b,vs,T,hb,bh,hlen,TT,du,iJ,hlies⟩:=h.box r _ ah
 obtain⟨u,rfl⟩:∃u,vs=[u]:=by
  match vs,hlen with
  |[u],_=>exact⟨u,rfl⟩
 have Fo:∀q cs,look (del st.H r) q=some cs→q≠r∧look st.H q=some cs:=by
  intro q cs ak;rw [p7]at ak;split at ak
  ·cases ak
  ·rename_i dj;exact⟨λe=>dj e.symm,ak⟩
 have Z:bw P K M β {env:=st.env,H:=del st.H r,aK:=st.aK} tmps w:=h.sub rfl (λl e ab=>by
  cases l with
  |slot s=>exact⟨e,ab,rfl,λ_ h=>h⟩
  |cell q i=>
   simp only [aC.at,Option.bind_eq_some_iff]at ab ⊢;obtain⟨cs,aa,aj⟩:=ab;exact⟨e,⟨cs,(Fo _ _ aa).2,aj⟩,rfl,λ_ h=>h⟩) (λq cs ak=>⟨cs,(Fo _ _ ak).2,rfl⟩)
 have hle:M.le (iK M b 0 [u]):=Kn λo _=>TT o
 have hY:iK M b 0 [u] b 0=some u:=by simp [iK]
 have aa:bw P K (iK M b 0 [u]) β {env:=st.env,H:=del st.H r,aK:=st.aK} tmps w:=by
  refine Z.free b du (λq cs ak ac'=>?_) (λl e T' ab aA mS=>?_) (λ_ _ _=>rfl) hle (λbo o dj=>by simp [iK,dj]) (λo v am=>?_)
  ·obtain⟨aj,aD⟩:=Fo _ _ ak;exact aj (h.inj q r b _ _ aD ah ac' hb)
  ·have hl0:∃bU,st.at l=some bU∧bU.own=some T':=by
    cases l with
    |slot s=>exact⟨e,ab,aA⟩
    |cell q i=>
     simp only [aC.at,Option.bind_eq_some_iff]at ab ⊢;obtain⟨cs,aj,aD⟩:=ab;exact⟨e,⟨cs,(Fo _ _ aj).2,aD⟩,aA⟩
   obtain⟨bU,aj,aD⟩:=hl0;exact h.unbox l bU T' b r _ aj aD mS ah hb
  ·rw [cell_of_heap bh];unfold iK at am;split at am
   ·rename_i hc;simpa using am
   ·rw [TT o]at am;cases am
 have gj:cP (iK M b 0 [u]) u x:=by
  have aj:=h.e7 (.cell r 0) ⟨.v x,own⟩ (by rw [aC.JZ ah];rfl)
  have aD:cc tmps w β (.cell r 0)=u:=by simp only [cc,hb,cell_of_heap bh];simp
  rw [aD]at aj;cases aj with
  |v _ _ aV=>exact aV.mono hle
 refine⟨iK M b 0 [u],?_⟩
 have ux:∀q cs',look (s6 r x st).H q=some cs'→∃cs,look (del st.H r) q=some cs∧cs'=cs.map (xA r x):=by
  intro q cs' ak;simp only [s6,LJ,Option.map_eq_some_iff]at ak;obtain⟨cs,aj,aD⟩:=ak;exact⟨cs,aj,aD.symm⟩
 constructor
 ·intro l aX ab;obtain⟨e,aj,rfl⟩:=A2 ab;exact(aa.e7 l e aj).ou (Mem.le_refl _) hb hx hY (iJ u (by simp)) gj
 ·intro l aX T' ab aA;obtain⟨e,aj,rfl⟩:=A2 ab;exact aa.own l e T' aj aA
 ·intro l cr e aX T' ac_ bo ab aA dk dJ;obtain⟨e1,aj,rfl⟩:=A2 ab;obtain⟨e2,aD,rfl⟩:=A2 dk;exact aa.uniq l cr e1 e2 T' ac_ bo aj aA aD dJ
 ·intro l e T' bo q cs ab aA mS ak;obtain⟨e1,aj,rfl⟩:=A2 ab;obtain⟨k1,aD,_⟩:=ux q cs ak;exact aa.unbox l e1 T' bo q k1 aj aA mS aD
 ·intro q cs ak;obtain⟨k1,aD,rfl⟩:=ux q cs ak;obtain⟨bo,vs',T',g1,g2,g3,g4,g5,g6,g7⟩:=aa.box q k1 aD;refine⟨bo,vs',T',g1,g2,by simpa using g3,g4,g5,g6,λe he q' off t hd=>?_⟩
  obtain⟨bU,J3,rfl⟩:=List.mem_map.1 he;exact g7 bU J3 q' off t (ac9 hd)
 ·intro q q' bo cs cs' ak pi cZ fA;obtain⟨c1,aj,_⟩:=ux q cs ak;obtain⟨c2,aD,_⟩:=ux q' cs' pi;exact aa.inj q q' bo c1 c2 aj aD cZ fA
 ·exact aa.lt
 ·exact aa.mem
 ·exact aa.m0
 ·exact aa.frame
 ·exact aa.iv
 ·exact aa.iX
 ·exact aa.hG
def A3(H:List (Nat×List aP))(r:Nat):Option V:=
 match look H r with
 |some [⟨.v x,_⟩]=>bif x.isAgg then none else some x
 |_=>none
def aT.freeze{c:Code}{Q:b_→aC→Prop}(r:Nat)(x:V)(ah:A3 st.H r=some x)(h:aT P N E c Q (s6 r x st)):aT P N E c Q st:=by
 rintro K d9 a w ⟨he,hd,dR,M,β,cw⟩
 unfold A3 at ah;split at ah
 ·rename_i y own ab;rw [Bool.cond_eq_ite]at ah;split at ah
  ·cases ah
  ·rename_i hx;cases ah;obtain⟨M',hs⟩:=cw.freeze ab (by simpa using hx)
   exact h K d9 a w ⟨he,hd,dR,M',β,hs⟩
 ·cases ah
def A4(r:Nat)(st:aC):aC:=match A3 st.H r with
 |some x=>s6 r x st
 |none=>st
def LK(r:Nat)(Q:b_→aC→Prop):b_→aC→Prop
 |.normal,st=>Q .normal (A4 r st)
 |.ret,st=>Q .ret (A4 r st)
 |e,st=>Q e st
def TU{K:Ctx}{M:Mem}{β:Nat→Option Nat}{tmps:Array Value}{w:World}(r:Nat)(h:bw P K M β st tmps w):∃M',bw P K M' β (A4 r st) tmps w:=by
 unfold A4;cases hx:A3 st.H r with
 |none=>exact⟨M,h⟩
 |some x=>
  unfold A3 at hx;split at hx
  ·rename_i y own ab;rw [Bool.cond_eq_ite]at hx;split at hx
   ·cases hx
   ·rename_i ada;cases hx;exact h.freeze ab (by simpa using ada)
  ·cases hx
def aT.ou{x:Code}{Q:b_→aC→Prop}(r:Nat)(h:aT P N E x (LK r Q) st):aT P N E x Q st:=by
 intro K d9 a w hs;refine wp_mono (h K d9 a w hs) ?_
 rintro e dc w' ⟨fl,bR,Z,aa⟩
 cases fl with
 |normal=>
  obtain⟨g1,g2,g3,M,β,g4⟩:=Z;obtain⟨M',g5⟩:=TU r g4;exact⟨.normal,_,⟨g1,g2,g3,M',β,g5⟩,aa⟩
 |ret=>
  obtain⟨g1,g2,g3,M,β,g4⟩:=Z;obtain⟨M',g5⟩:=TU r g4;exact⟨.ret,_,⟨g1,g2,g3,M',β,g5⟩,aa⟩
 |exit i=>exact⟨.exit i,bR,Z,aa⟩
 |az x=>exact⟨.az x,bR,Z,aa⟩
def A5(s e:aP):aP:=match s.own with|none=>{d:=e.d} |some _=>e
def xB:List (Nat×aP)→List (Nat×aP)→List (Nat×aP)
 |(_,s)::l,(t,e)::m=>(t,A5 s e)::xB l m
 |_,m=>m
def nQ:List aP→List aP→List aP
 |s::l,e::m=>A5 s e::nQ l m
 |_,m=>m
def xC:List (Nat×List aP)→List (Nat×List aP)→List (Nat×List aP)
 |(_,s)::l,(t,cs)::m=>(t,nQ s cs)::xC l m
 |_,m=>m
def fit(s st:aC):aC:={env:=xB s.env st.env,H:=xC s.H st.H,aK:=st.aK}
def Fp(s e:aP):(A5 s e).d=e.d∧∀T,(A5 s e).own=some T→e.own=some T:=by
 unfold A5;split
 ·exact⟨rfl,λT h=>by cases h⟩
 ·exact⟨rfl,λT h=>h⟩
def TV:∀(l m:List (Nat×aP)) (t:Nat) (aX:aP),look (xB l m) t=some aX→∃e,look m t=some e∧e.d=aX.d∧∀T,aX.own=some T→e.own=some T
 |[],m,t,aX,h=>⟨aX,by simpa [xB]using h,rfl,λ_ h=>h⟩
 |(a,s)::l,[],t,aX,h=>by simp [xB,look]at h
 |(a,s)::l,(q,e)::m,t,aX,h=>by
  simp only [xB,dC]at h ⊢;split at h
  ·rename_i ak;rw [if_pos ak];cases h;exact⟨e,rfl,(Fp s e).1.symm,(Fp s e).2⟩
  ·rename_i ak;rw [if_neg ak];exact TV l m t aX h
def TW:∀(l m:List aP) (i:Nat) (aX:aP),(nQ l m)[i]? = some aX→∃e,m[i]? = some e∧e.d=aX.d∧∀T,aX.own=some T→e.own=some T
 |[],m,i,aX,h=>⟨aX,by simpa [nQ]using h,rfl,λ_ h=>h⟩
 |s::l,[],i,aX,h=>by simp [nQ]at h
 |s::l,e::m,0,aX,h=>by
  simp only [nQ,List.getElem?_cons_zero,Option.some.injEq]at h;subst h;exact⟨e,rfl,(Fp s e).1.symm,(Fp s e).2⟩
 |s::l,e::m,i+1,aX,h=>by
  simp only [nQ,List.getElem?_cons_succ]at h ⊢;exact TW l m i aX h
def TX:∀l m:List aP,(nQ l m).length=m.length
 |[],m=>by simp [nQ]
 |s::l,[]=>by simp [nQ]
 |s::l,e::m=>by simp only [nQ,List.length_cons,TX l m]
def LL:∀(l m:List (Nat×List aP)) (t:Nat) (cs':List aP),look (xC l m) t=some cs'→∃cs s,look m t=some cs∧cs'=nQ s cs
 |[],m,t,cs',h=>⟨cs',[],by simpa [xC]using h,by simp [nQ]⟩
 |(a,s)::l,[],t,cs',h=>by simp [xC,look]at h
 |(a,s)::l,(q,cs)::m,t,cs',h=>by
  simp only [xC,dC]at h ⊢;split at h
  ·rename_i ak;rw [if_pos ak];cases h;exact⟨cs,s,rfl,rfl⟩
  ·rename_i ak;rw [if_neg ak];exact LL l m t cs' h
def bw.fit(h:bw P K M β st tmps w)(s:aC):bw P K M β (fit s st) tmps w:=
 h.sub rfl (λl aX ab=>by
  cases l with
  |slot t=>exact TV _ _ _ _ ab
  |cell q i=>
   simp only [aC.at,Ab.fit,Option.bind_eq_some_iff]at ab;obtain⟨cs',Z,aa⟩:=ab;obtain⟨cs,z,aj,rfl⟩:=LL _ _ _ _ Z;obtain⟨e,aD,aV⟩:=TW _ _ _ _ aa;exact⟨e,by simp only [aC.at,aj,Option.bind_some];exact aD,aV⟩) (λq cs' ak=>by
   obtain⟨cs,z,aj,rfl⟩:=LL _ _ _ _ ak;exact⟨cs,aj,(TX _ _).symm⟩)
def aT.fit{c:Code}{Q:b_→aC→Prop}(s:aC)(h:aT P N E c Q (Ab.fit s st)):aT P N E c Q st:=by
 rintro K d9 a w ⟨he,hd,dR,M,β,cw⟩
 exact h K d9 a w ⟨he,hd,dR,M,β,cw.fit s⟩
def aT.qs{c:Code}{Q:b_→aC→Prop}(s:aC)(live w8:List Nat)(n:Nat)(ah:(uw live w8 n st.env st.H st.aK).map (Ab.fit s)=some bR)(bK:Nat.ble E n=true)(h:aT P N E c Q bR):aT P N E c Q st:=by
 simp only [Option.map_eq_some_iff]at ah;obtain⟨amn,Z,rfl⟩:=ah;exact aT.drop live w8 n Z bK (h.fit s)
def forget(py:List Nat):List (Nat×aP)→List (Nat×aP)
 |[]=>[]
 |(t,e)::l=>(t,bif py.any (Nat.beq t)then {d:=e.d}else e)::forget py l
def TY(py:List Nat):∀(m:List (Nat×aP)) (t:Nat) (aX:aP),look (forget py m) t=some aX→∃e,look m t=some e∧e.d=aX.d∧∀T,aX.own=some T→e.own=some T
 |[],t,aX,h=>by simp [forget,look]at h
 |(q,e)::m,t,aX,h=>by
  simp only [forget,dC]at h ⊢;split at h
  ·rename_i ak;rw [if_pos ak];cases h;refine⟨e,rfl,?_⟩
   cases py.any (Nat.beq q)
   ·exact⟨rfl,λ_ h=>h⟩
   ·exact⟨rfl,λT h=>by cases h⟩
  ·rename_i ak;rw [if_neg ak];exact TY py m t aX h
def aT.forget{c:Code}{Q:b_→aC→Prop}(py:List Nat)(h:aT P N E c Q {env:=Ab.forget py st.env,H:=st.H,aK:=st.aK}):aT P N E c Q st:=by
 rintro K d9 a w ⟨he,hd,dR,M,β,cw⟩
 refine h K d9 a w ⟨he,hd,dR,M,β,cw.sub rfl (λl aX ab=>?_) (λq cs ak=>⟨cs,ak,rfl⟩)⟩
 cases l with
 |slot t=>exact TY _ _ _ _ ab
 |cell q i=>exact⟨aX,ab,rfl,λ_ h=>h⟩
end
end Go.Ab

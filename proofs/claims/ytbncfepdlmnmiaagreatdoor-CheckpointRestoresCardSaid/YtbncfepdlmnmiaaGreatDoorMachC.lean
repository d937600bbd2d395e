/- The abstract machine: a step of code over plain data, proved against the model. -/
import Derived.Orders
import Derived.Scope
import Derived.Recover
import Derived.Lib.Builder
import Derived.Lib.UnsafeStr
import Derived.ChangeSame
import Derived.OpenShut
import Derived.ReadAgain
import Derived.Lib.SliceRun
import Derived.Test.YtbncfepdlmnmiaaGreatDoorMachB
set_option linter.all false
namespace Go.Ab
def lp:List Prop→Prop
 |[]=>True
 |p::l=>p∧lp l
def lp.mem:∀{l:List Prop},lp l→∀q,q∈l→q
 |[],_,q,h=>by cases h
 |p::l,hp,q,h=>by
  rcases List.mem_cons.1 h with rfl|h
  ·exact hp.1
  ·exact lp.mem hp.2 q h
section
variable {P:Program} {N E:Nat} {st:aK} {tt:dS}
def ba.cut{x y:Code}{Q:cr→aK→Prop}(J:aK→Prop)(Z:ba P N E x (cr.then J Q) st)(ad:∀b',J b'→ba P N E y Q b'):ba P N E (.seq x y) Q st:=
 ba.seq (Z.mono λfI b' h=>by cases fI<;>first|exact ad b' h|exact h)
def cr.pj{next:aK→Prop}{Q:cr→aK→Prop}(h:next st):cr.then next Q .normal st:=h
def cr.X9{next:aK→Prop}{Q:cr→aK→Prop}{x:V}(h:Q (.bj x) st):cr.then next Q (.bj x) st:=h
def cr.ah6{Q:cr→aK→Prop}{i:Nat}(h:Q .normal st):cr.inBlock i Q (.exit i) st:=by simpa [cr.inBlock]using h
def cr.ah7{Q:cr→aK→Prop}{i j:Nat}(dY:Nat.beq j i=false)(h:Q (.exit j) st):cr.inBlock i Q (.exit j) st:=by
 have:j≠i:=by rintro rfl;simp at dY
 simpa [cr.inBlock,this]using h
def ah8 {f : FuncId} {fn : Func} {c : Code} {args : List D} {eb : List (Nat × TypeId)} {H cm : List (List aZ)} {out : Out} (co : fl P tt = true) (cc : P.funcs[f]? = some fn) (hb : fn.body = some c) (kc : decide (fn.name = "runtime.NumGoroutine") = false)
 (fc:Nat.ble args.length fn.ntmps=true) (h:ba P fn.ntmps H.length c (sG tt H.length fn.results.toList λo H'=>o=out∧H'=cm) {env:=h5 args eb,H:=da 0 H,a1:=H.length}):gj P f args eb H out cm:=
 rf.of_wp co cc hb kc fc h
def ah9{rs:List ResultVar}{out:Out}{cm:List (List aZ)}(h:leave tt E rs st=some (out,cm)):sG tt E rs (λo H'=>o=out∧H'=cm) .ret st:=⟨out,cm,.inl h,rfl,rfl⟩
def OU{rs:List ResultVar}{out:Out}{cm:List (List aZ)}(h:leave tt E rs st=some (out,cm)):sG tt E rs (λo H'=>o=out∧H'=cm) .normal st:=⟨out,cm,.inl h,rfl,rfl⟩
def ah'{rs:List ResultVar}{out:Out}{cm:List (List aZ)}{c:Nat}(h:sF tt E c rs st=some (out,cm)):sG tt E rs (λo H'=>o=out∧H'=cm) .ret st:=⟨out,cm,.inr ⟨c,h⟩,rfl,rfl⟩
def ah_{rs:List ResultVar}{x:V}{cm:List (List aZ)}(h:(Hq E st.H).map oo=some cm):sG tt E rs (λo H'=>o = .bj x∧H'=cm) (.bj x) st:=by
 rw [Option.map_eq_some_iff]at h;obtain⟨H',Z,ad⟩:=h;exact⟨H',Z,rfl,ad⟩
end
def ar{α:Type}(b:Bool)(x:Option α):Option α:=bif b then x else none
def oq{α:Type}{b:Bool}{x:Option α}{r:α}(h:ar b x=some r):b=true∧x=some r:=by
 cases b
 ·cases h
 ·exact⟨rfl,h⟩
def bind_some{α β:Type}{x:Option α}{f:α→Option β}{r:β}(h:Option.bind x f=some r):∃a,x=some a∧f a=some r:=Option.bind_eq_some_iff.1 h
def dH{α:Type}{b:Bool}{x y z:α}(hb:b=true)(h:(bif b then x else y)=z):x=z:=by subst hb;exact h
def fD{c x:Bool}(h:(!c||x)=true)(hc:c=true):x=true:=by subst hc;simpa using h
def eL{c x:Bool}(h:(c||x)=true)(hc:c=false):x=true:=by subst hc;simpa using h
def ag{α:Type}[Inhabited α](k:Nat)(e:α→V)(l:List α):V:=.bT k l.length λi=>e (l.getD i default)
def ip(x:V):hK x x:=λ_ _ h=>h
def rn{k n:Nat}{g fa:Nat→V}(h:∀i,i<n→g i=fa i):hK (.bT k n g) (.bT k n fa):=by
 intro M v ao;cases ao with
 |mv=>exact .mv _ _
 |p4=>exact .p4 _ _ _
 |bT b off k n cap g val hc hk db Z ah=>
  exact .bT b off k n cap fa val hc (λi hi=>by rw [←h i hi];exact hk i hi) db Z (λi j c hi l_=>ah i j c hi (by rw [h i hi];exact l_))
def aia{α:Type}[Inhabited α]{k:Nat}{e:α→V}{xs:List V}{l:List α}(h:xs=l.map e)(n:Nat)(hn:n=l.length):hK (.bT k n λi=>xs.getD i .gW) (ag k e l):=by
 subst h;subst hn;refine rn λi hi=>?_
 simp [List.getD,List.getElem?_eq_getElem hi]
def fe{α:Type}[Inhabited α]{k:Nat}{e:α→V}(l mC:List α):hK (.bT k (l.length+mC.length) λi=>bif Nat.blt i l.length then e (l.getD i default)else e (mC.getD (i-l.length) default)) (ag k e (l++mC)):=by
 rw [ag,List.length_append];refine rn λi hi=>?_
 by_cases h:i<l.length
 ·have hb:Nat.blt i l.length=true:=by simpa using h
  simp [hb,List.getD,List.getElem?_append_left h]
 ·have hb:Nat.blt i l.length=false:=by rw [Bool.eq_false_iff];simpa using h
  simp [hb,List.getD,List.getElem?_append_right (Nat.le_of_not_lt h)]
def X'(l:List Int)(s:auJ):hK (.bT 1 (l.length+s.length) λi=>bif Nat.blt i l.length then .int .u8 (l.getD i default)else .int .u8 (s.getD (i-l.length) 0).toNat) (ag 1 (λx=>.int .u8 x) (l++s.map λb=>(b.toNat:Int))):=by
 have ae:(l++s.map λb=>(b.toNat:Int)).length=l.length+s.length:=by simp
 rw [ag,ae];refine rn λi hi=>?_
 by_cases h:i<l.length
 ·have hb:Nat.blt i l.length=true:=by simpa using h
  simp [hb,List.getD,List.getElem?_append_left h]
 ·have hb:Nat.blt i l.length=false:=by rw [Bool.eq_false_iff];simpa using h
  have ad:i-l.length<s.length:=by omega
  simp [hb,List.getD,List.getElem?_append_right (Nat.le_of_not_lt h),ad]
def X_{α:Type}[Inhabited α]{k:Nat}{e:α→V}(l:List α)(b:Int)(h:0≤b∧b≤l.length):hK (.bT k b.toNat λi=>e (l.getD i default)) (ag k e (l.take b.toNat)):=by
 have:(l.take b.toNat).length=b.toNat:=by simp;omega
 rw [ag,this];exact rn λi hi=>by simp [List.getD,hi]
section
variable {P:Program} {N E:Nat} {st b':aK}
def ba.drop{c:Code}{Q:cr→aK→Prop}(live yx:List Nat)(n:Nat)(ah:vq live yx n st.env st.H st.a1=some b')(ch:Nat.ble E n=true)(h:ba P N E c Q b'):ba P N E c Q st:=by
 rintro K et a w ⟨he,hd,eC,M,β,c'⟩
 obtain⟨CJ,hs⟩:=c'.vq ah (λr b hb=>Nat.lt_of_lt_of_le (et r b hb) (by simpa using ch))
 exact h K et a w ⟨he,hd,eC,M,CJ,hs⟩
end
def all_nil:lp []:=trivial
def all_cons{p:Prop}{l:List Prop}(h:p)(ae:lp l):lp (p::l):=⟨h,ae⟩
inductive aD(α β:Type) where
 |ret (a:α) (b:β)
 |bj (x:V) (b:β)
def aD.on{α β ec:Type}(x:aD α β)(f:α→β→ec)(g:V→β→ec):ec:=
 match x with
 |.ret a b=>f a b
 |.bj x b=>g x b
def fX{b:Bool}(h:b=false):(!b)=true:=by subst h;rfl
def yX{a b:Bool}(h:a=true)(ad:b=true):(a&&b)=true:=by subst h;subst ad;rfl
inductive lq:List V→List V→Prop where
 |nil:lq [] []
 |cons {x y:V} {xs ys:List V} (h:hK x y) (ae:lq xs ys):lq (x::xs) (y::ys)
def lq.len:∀{xs ys:List V},lq xs ys→xs.length=ys.length
 |_,_,.nil=>rfl
 |_,_,.cons _ ae=>by simp [ae.len]
def lq.at:∀{xs ys:List V},lq xs ys→∀(i:Nat) {y:V},ys[i]? = some y→∃x,xs[i]? = some x∧hK x y
 |_,_,.nil,i,y,h=>by simp at h
 |_,_,.cons h ae,i,y,ci=>by
  cases i with
  |zero=>simp at ci;subst ci;exact⟨_,rfl,h⟩
  |succ i=>simp at ci;simpa using ae.at i ci
def Ya{xs ys:List V}(h:lq xs ys):hK (.agg xs) (.agg ys):=by
 intro M v ao;cases ao with
 |agg vs cs hn Z ah=>
  refine .agg vs ys (hn.trans h.len) Z (λi v c ao hc=>?_)
  obtain⟨x,hx,hi⟩:=h.at i hc;exact hi M v (ah i v x ao hx)
def aib{k n:Nat}{g fa:Nat→V}(h:∀i,i<n→lq (g i).cells (fa i).cells):hK (.bT k n g) (.bT k n fa):=by
 intro M v ao;cases ao with
 |mv=>exact .mv _ _
 |p4=>exact .p4 _ _ _
 |bT b off k n cap g val hc hk db Z ah=>
  refine .bT b off k n cap fa val hc (λi hi=>by rw [←(h i hi).len];exact hk i hi) db Z (λi j c hi l_=>?_)
  obtain⟨x,hx,aic⟩:=(h i hi).at j l_;exact aic M _ (ah i j x hi hx)
inductive iJ{α:Type}(e:α→V):List V→List α→Prop where
 |nil:iJ e [] []
 |cons {x:V} {y:α} {xs:List V} {ys:List α} (h:lq x.cells (e y).cells) (ae:iJ e xs ys):iJ e (x::xs) (y::ys)
def iJ.len{α:Type}{e:α→V}:∀{xs:List V} {ys:List α},iJ e xs ys→xs.length=ys.length
 |_,_,.nil=>rfl
 |_,_,.cons _ ae=>by simp [ae.len]
def iJ.at{α:Type}[Inhabited α]{e:α→V}:∀{xs:List V} {ys:List α},iJ e xs ys→∀(i:Nat),i<ys.length→lq (xs.getD i .gW).cells (e (ys.getD i default)).cells
 |_,_,.nil,i,h=>by simp at h
 |_,_,.cons h ae,i,ci=>by
  cases i with
  |zero=>simpa using h
  |succ i=>simpa using ae.at i (by simpa using ci)
def uc{α:Type}[Inhabited α]{k:Nat}{e:α→V}{xs:List V}{l:List α}(h:iJ e xs l)(n:Nat)(hn:n=l.length):hK (.bT k n λi=>xs.getD i .gW) (ag k e l):=by
 subst hn;exact aib λi hi=>h.at i hi
section
variable {tt:dS} {g1 g2:dt} {p:Path} {o:Oper} {ops:List Oper} {cx:gJ}
def OV{x:Operand}(h:∀t,x = .tmp t→look g1.env t=look g2.env t∧look g1.ca t=look g2.ca t)(p:Path)(ty:TypeId):rd g1.env g1.ca p tt ty x=rd g2.env g2.ca p tt ty x:=by
 cases x with
 |tmp t=>
  obtain⟨Z,ad⟩:=h t rfl;simp only [rd,Z,ad]
 |const v=>cases v with
  |slice a n c=>cases a<;>cases n<;>cases c<;>rfl
  |_=>rfl
 |global _=>rfl
 |func _=>rfl
def aid{x:Operand}(h:∀t,x = .tmp t→look g1.env t=look g2.env t):o4 g1 x=o4 g2 x:=by
 cases x with
 |tmp t=>simp only [o4,h t rfl]
 |_=>rfl
def CK{α β:Type}{f ud:α→Option β}:∀{l:List α},(∀x,x∈l→f x=ud x)→mapM' f l=mapM' ud l
 |[],_=>rfl
 |x::l,h=>by simp only [mapM',h x (by simp),CK (l:=l) λy ci=>h y (by simp [ci])]
def OW{f ud:TypeId→Operand→Option D}:∀{l:List Operand} {ts:List TypeId},(∀x,x∈l→∀t,f t x=ud t x)→l8 f l ts=l8 ud l ts
 |[],_,_=>by simp [l8]
 |x::l,[],_=>by simp [l8]
 |x::l,t::ts,h=>by simp only [l8,h x (by simp) t,OW (l:=l) (ts:=ts) λy ci=>h y (by simp [ci])]
def je(tt:dS)(g:dt)(p:Path)(o:Oper):List Nat:=
 match o.op with
 |.alloc _ |.box _ _=>match o.dst.bind (look g.ids)with |some id=>[id] |none=>[]
 |.load _ a=>match rd g.env g.ca p tt o.type a with |some (.ptr q _)=>[q] |_=>[]
 |.store _ a _=>match rd g.env g.ca p tt o.type a with |some (.ptr q _)=>[q] |_=>[]
 |.call c=>match c.callee with
  |.value x=>match rd g.env g.ca p tt o.type x,l8 (rd g.env g.ca p tt) c.args.toList c.argTypes.toList with
   |some (.fn _ fq),some ds=>o5 g.H 2 (dedup ((ds++fq).flatMap refs))
   |_,_=>[]
  |_=>[]
 |_=>[]
def Hs{x:Nat}:∀{l:List Nat},x∈l→x∈dedup l
 |y::l,h=>by
  simp only [dedup];rw [Bool.cond_eq_ite];split
  ·rename_i ci;rcases List.mem_cons.1 h with rfl|h
   ·obtain⟨z,dG,aie⟩:=List.any_eq_true.1 ci;have:x=z:=by simpa using aie
    subst this;exact dG
   ·exact Hs h
  ·rcases List.mem_cons.1 h with rfl|h
   ·simp
   ·exact List.mem_cons_of_mem _ (Hs h)
def Yb{H:List (Nat×List aZ)}:∀{n:Nat} {l:List Nat} {x:Nat},x∈l→x∈o5 H n l
 | 0,_,_,h=>h
 |n+1,_,_,h=>Yb (n:=n) (Hs (List.mem_append_left _ h))
def Yc{α β:Type}{f ud:α→List β}:∀{l:List α},(∀x,x∈l→f x=ud x)→l.flatMap f=l.flatMap ud
 |[],_=>rfl
 |x::l,h=>by simp only [List.flatMap_cons,h x (by simp),Yc (l:=l) λy ci=>h y (by simp [ci])]
def OX{H1 cm:List (Nat×List aZ)}:∀{n:Nat} {l:List Nat},(∀q,q∈o5 H1 n l→look H1 q=look cm q)→o5 H1 n l=o5 cm n l
 | 0,_,_=>rfl
 |n+1,l,h=>by
  simp only [o5]at h ⊢
  have:(l.flatMap λr=>((look H1 r).getD []).flatMap λe=>refs e.d)=l.flatMap λr=>((look cm r).getD []).flatMap λe=>refs e.d:=
   Yc λr ah=>by rw [h r (Yb (Hs (List.mem_append_left _ ah)))]
  rw [←this];exact OX h
def Yd{H1 cm:List (Nat×List aZ)}:∀{l:List Nat},(∀q,q∈l→look H1 q=look cm q)→boxes H1 l=boxes cm l
 |[],_=>rfl
 |r::l,h=>by simp only [boxes,h r (by simp),Yd (l:=l) λq av=>h q (by simp [av])]
def Ye{xs:List Operand}{ts:List TypeId}(hs:∀t,Operand.tmp t∈xs→look g1.env t=look g2.env t∧look g1.ca t=look g2.ca t):∀os:List Nat,handed tt g1 xs ts os=handed tt g2 xs ts os
 |[]=>rfl
 |i::os=>by
  simp only [handed,Ye hs os];split
  ·rename_i t l hx ae;obtain⟨Z,ad⟩:=hs t (List.mem_of_getElem? hx);rw [Z,ad]
  ·rfl
  ·rfl
def aif{xs:List Operand}{ts:List TypeId}{f:FuncId}{args:List D}(hs:∀t,Operand.tmp t∈xs→look g1.env t=look g2.env t∧look g1.ca t=look g2.ca t)(eV:g1.rs=g2.rs)(eW:∀q,q∈o5 g1.H 2 (dedup (args.flatMap refs))→look g1.H q=look g2.H q):ym cx tt g1 p xs ts f args=ym cx tt g2 p xs ts f args:=by
 have Z:o5 g1.H 2 (dedup (args.flatMap refs))=o5 g2.H 2 (dedup (args.flatMap refs)):=OX eW;unfold ym;simp only [←Z,←eV,←Yd eW,←λos=>Ye (tt:=tt) (ts:=ts) hs os]
def ro(o:Oper):Bool:=
 match o.op with
 |.alloc _ |.box _ _=>true
 |_=>false
def Yf(rp:g1.ids=g2.ids)(hn:g1.a1=g2.a1)(eW:∀id,o.dst.bind (look g1.ids)=some id→look g1.H id=look g2.H id):oc g1 o=oc g2 o:=by
 unfold oc;rw [←rp,←hn];split
 ·rename_i id h;rw [eW id h]
 ·rfl
def OY(hs:∀x,x∈o.op.operands.toList→∀t,x = .tmp t→look g1.env t=look g2.env t∧look g1.ca t=look g2.ca t)(eV:g1.rs=g2.rs)(rp:g1.ids=g2.ids)
 (hn:ro o=true→g1.a1=g2.a1) (eW:∀q,q∈je tt g1 p o→look g1.H q=look g2.H q):step1 cx tt ops g1 p o=step1 cx tt ops g2 p o:=by
 have R:∀x,x∈o.op.operands.toList→∀p ty,rd g1.env g1.ca p tt ty x=rd g2.env g2.ca p tt ty x:=λx hx p ty=>OV (hs x hx) p ty
 have O:∀x,x∈o.op.operands.toList→o4 g1 x=o4 g2 x:=λx hx=>aid λt ax=>(hs x hx t ax).1
 cases aq:o.op with
 |move x=>simp only [aq,Op.operands]at R O;simp only [step1,aq,R x (by simp),O x (by simp),eV]
 |assign x=>simp only [aq,Op.operands]at R O;simp only [step1,aq,R x (by simp),O x (by simp),eV]
 |pick c a b=>
  simp only [aq,Op.operands]at R O;cases c with
  |tmp c=>simp only [step1,aq,R (.tmp c) (by simp),R a (by simp),R b (by simp),eV]
  |_=>simp only [step1,aq]
 |alloc t=>
  have hi:oc g1 o=oc g2 o:=Yf rp (hn (by simp [ro,aq])) λid hid=>eW id (by simp [je,aq,hid])
  simp only [step1,aq,eV,hi]
 |box t x=>
  have hi:oc g1 o=oc g2 o:=Yf rp (hn (by simp [ro,aq])) λid hid=>eW id (by simp [je,aq,hid])
  simp only [aq,Op.operands]at R O;simp only [step1,aq,R x (by simp),eV,hi]
 |build t parts=>
  simp only [aq,Op.operands]at R O
  have:mapM' (fun(i,x)=>(rd g1.env g1.ca p tt (sk tt t i) x).map λd=>(i,d)) parts.toList=mapM' (fun(i,x)=>(rd g2.env g2.ca p tt (sk tt t i) x).map λd=>(i,d)) parts.toList:=
   CK λy ci=>by
    obtain⟨i,x⟩:=y;simp only [R x (List.mem_map.2 ⟨(i,x),ci,rfl⟩)]
  simp only [step1,aq,this,eV]
 |buildSlice t len parts=>
  simp only [aq,Op.operands]at R O
  have:mapM' (fun(i,x)=>(rd g1.env g1.ca p tt (sk tt t i) x).map λd=>(i,d)) parts.toList=mapM' (fun(i,x)=>(rd g2.env g2.ca p tt (sk tt t i) x).map λd=>(i,d)) parts.toList:=
   CK λy ci=>by
    obtain⟨i,x⟩:=y;simp only [R x (List.mem_map.2 ⟨(i,x),ci,rfl⟩)]
  simp only [step1,aq,this,eV]
 |load t a=>
  simp only [aq,Op.operands]at R O;simp only [je,aq,R a (by simp)]at eW
  simp only [step1,aq,R a (by simp),eV]
  split
  ·rename_i q off aJ ha Hg;simp only [ha]at eW;simp only [eW q (by simp)]
  ·rfl
  ·rfl
 |store t a x=>
  simp only [aq,Op.operands]at R O;simp only [je,aq,R a (by simp)]at eW
  simp only [step1,aq,R a (by simp),R x (by simp),O x (by simp),eV]
  split
  ·rename_i q off d aJ ha hd Hg;simp only [ha]at eW;simp only [eW q (by simp)]
  ·rfl
 |nilCheck x=>simp only [aq,Op.operands]at R O;simp only [step1,aq,R x (by simp),eV]
 |binOp op t x y t2=>simp only [aq,Op.operands]at R O;simp only [step1,aq,R x (by simp),R y (by simp),eV]
 |unOp op t x=>simp only [aq,Op.operands]at R O;simp only [step1,aq,R x (by simp),eV]
 |convert s t x=>simp only [aq,Op.operands]at R O;simp only [step1,aq,R x (by simp),eV]
 |makeInterface t x=>simp only [aq,Op.operands]at R O;simp only [step1,aq,R x (by simp),eV]
 |makeFunc fn first fq=>
  simp only [aq,Op.operands]at R O;cases fn with
  |func f=>
   have:mapM' (rd g1.env g1.ca p tt o.type) fq.toList=mapM' (rd g2.env g2.ca p tt o.type) fq.toList:=CK λx hx=>R x (by rw [Array.toList_append];exact List.mem_append_right _ hx) _ _
   simp only [step1,aq,this,eV]
  |_=>simp only [step1,aq]
 |slice t x lo hi ku=>
  simp only [aq,Op.operands]at R O
  have kC:lo.map (rd g1.env g1.ca p tt o.type)=lo.map (rd g2.env g2.ca p tt o.type):=by
   cases lo with
   |none=>rfl
   |some l=>simp [R l (by simp)]
  have jK:hi.map (rd g1.env g1.ca p tt o.type)=hi.map (rd g2.env g2.ca p tt o.type):=by
   cases hi with
   |none=>rfl
   |some l=>simp [R l (by simp)]
  have OZ:ku.map (rd g1.env g1.ca p tt o.type)=ku.map (rd g2.env g2.ca p tt o.type):=by
   cases ku with
   |none=>rfl
   |some m=>simp [R m (by simp)]
  simp only [step1,aq,R x (by simp),kC,jK,OZ,eV]
 |fieldAddr s x f=>simp only [aq,Op.operands]at R O;simp only [step1,aq,R x (by simp),eV]
 |field s x f=>simp only [aq,Op.operands]at R O;simp only [step1,aq,R x (by simp),eV]
 |indexAddr t x i=>simp only [aq,Op.operands]at R O;simp only [step1,aq,R x (by simp),R i (by simp),eV]
 |index t x i=>simp only [aq,Op.operands]at R O;simp only [step1,aq,R x (by simp),R i (by simp),eV]
 |typeAssert x a t ok=>simp only [aq,Op.operands]at R O;simp only [step1,aq,R x (by simp),eV]
 |extract x i=>simp only [aq,Op.operands]at R O;simp only [step1,aq,R x (by simp),eV]
 |panic x=>simp only [aq,Op.operands]at R O;simp only [step1,aq,R x (by simp)]
 |call c=>
  simp only [aq,Op.operands,Call.operands]at R O hs;cases hc:c.callee with
  |value x=>
   have hx:=R x (by simp [hc])
   have ha:l8 (rd g1.env g1.ca p tt) c.args.toList c.argTypes.toList=l8 (rd g2.env g2.ca p tt) c.args.toList c.argTypes.toList:=OW λy ci t=>R y (by rw [Array.toList_append];exact List.mem_append_right _ ci) p t
   simp only [je,aq,hc,hx,ha]at eW;simp only [step1,aq,hc,hx,ha];split
   ·rename_i f fq ds Z ad;simp only [Z,ad]at eW;exact aif (λt ax=>hs (.tmp t) (by rw [Array.toList_append];exact List.mem_append_right _ ax) t rfl) eV eW
   ·rfl
  |invoke x m=>simp only [step1,aq,hc]
  |builtin b=>
   have ha:mapM' (λy=>rd g1.env g1.ca p tt o.type y) c.args.toList=mapM' (λy=>rd g2.env g2.ca p tt o.type y) c.args.toList:=CK λx hx=>R x (by rw [Array.toList_append];exact List.mem_append_right _ hx) _ _
   cases b with
   |len=>simp only [step1,aq,hc,ha,eV]
   |min=>simp only [step1,aq,hc,ha,eV]
   |max=>simp only [step1,aq,hc,ha,eV]
   |append=>
    simp only [step1,aq,hc,eV];split
    ·rename_i t x e fN ata atb _ t2 ae _ _;have hm:∀y,y∈[Operand.tmp t,x]→y∈(match c.callee with|.value f => #[f] |.invoke r _ => #[r] |.builtin _ => #[]:Array Operand).toList++c.args.toList:=λy ci=>by rw [ae];exact List.mem_append_right _ ci
     have kD:∀y,y∈[Operand.tmp t,x]→y∈((match c.callee with|.value f => #[f] |.invoke r _ => #[r] |.builtin _ => #[]:Array Operand)++c.args).toList:=λy ci=>by rw [Array.toList_append];exact hm y ci
     simp only [R (.tmp t) (kD _ (by simp)),R x (kD _ (by simp)),(hs (.tmp t) (kD _ (by simp)) t rfl).1]
    ·rfl
   |_=>simp only [step1,aq,hc]
 |_=>simp only [step1,aq]
end
structure eM where
 dst:Option Nat
 p:Path
 f:lG
 kE:List Nat
 ny:List Nat
 qg:Bool
 rs:List fw
 fy:Nat:=0
 we:V:=.gW
 qh:List (Nat×List aZ):=[]
 ue:List (Nat×List aZ):=[]
 ot:Nat:=0
def qi(ops:List Oper)(o:Oper):List Nat:=
 (o.op.operands.toList.filterMap fun|.tmp t=>some t|_=>none)++(match o.guard with
  |some (j,_)=>((ops[j]?).bind (·.dst)).toList
  |none=>[])
def eR(E:eM)(g:dt):dt:=
 match E.dst with
 |none=>{g with env:=gX E.f.hF g.env,H:=E.f.hs++g.H,a1:=g.a1+E.f.nx}
 |some t=>match E.p with
  |[]=>{g with
   env:=match E.f.e with|some e=>(t,e)::gX E.f.hF g.env|none=>del (gX E.f.hF g.env) t
   ca:=del g.ca t,H:=E.f.hs++g.H,a1:=g.a1+E.f.nx}
  |_::_=>match E.f.e with
   |some e=>{g with env:=del g.env t,ca:=(t,E.p,e.d)::del g.ca t}
   |none=>g
def ou(E:eM):List Nat:=E.dst.toList++E.f.hF
def pk(E:eM):List Nat:=E.f.hs.map (·.1)
def yY{α:Type}:∀(a b:List (Nat×α)) (q:Nat),look (a++b) q=(match look a q with|some x=>some x|none=>look b q)
 |[],_,_=>rfl
 |(j,x)::a,b,q=>by
  simp only [List.cons_append,dN,yY a b q];by_cases h:j=q<;>simp [h]
def Yg{α:Type}:∀{a:List (Nat×α)} {q:Nat},q∉a.map (·.1)→look a q=none
 |[],_,_=>rfl
 |(j,x)::a,q,h=>by
  simp only [List.map_cons,List.mem_cons,not_or]at h;rw [dN,if_neg (Ne.symm h.1)];exact Yg h.2
section
variable {E:eM} {g g1 g2:dt}
def m5(g1 g2:dt)(t:Nat):Prop:=look g1.env t=look g2.env t∧look g1.ca t=look g2.ca t
def wg(g1 g2:dt)(q:Nat):Prop:=look g1.H q=look g2.H q
def wh{t:Nat}(h:t∉ou E):m5 (eR E g) g t:=by
 simp only [ou,List.mem_append,not_or]at h;unfold m5 eR;cases hd:E.dst with
 |none=>simp only [nq,if_neg h.2,and_self]
 |some u=>
  have hu:u≠t:=by rintro rfl;simp [hd]at h
  cases hp:E.p with
  |nil=>
   dsimp only
   cases he:E.f.e with
   |some e=>simp only [dN,if_neg hu,nq,if_neg h.2,q3,and_self]
   |none=>simp only [nq,if_neg h.2,q3,if_neg hu,and_self]
  |cons x p=>
   dsimp only
   cases he:E.f.e with
   |some e=>simp only [dN,if_neg hu,q3,and_self]
   |none=>exact⟨rfl,rfl⟩
def O0{t:Nat}(h:m5 g1 g2 t):m5 (eR E g1) (eR E g2) t:=by
 obtain⟨Z,ad⟩:=h;unfold m5 eR;cases hd:E.dst with
 |none=>simp only [nq,Z,ad,and_self]
 |some u=>
  cases hp:E.p with
  |nil=>
   dsimp only
   cases he:E.f.e with
   |some e=>simp only [dN,nq,Z,ad,q3,and_self]
   |none=>simp only [nq,q3,Z,ad,and_self]
  |cons x p=>
   dsimp only
   cases he:E.f.e with
   |some e=>simp only [dN,q3,Z,ad,and_self]
   |none=>exact⟨Z,ad⟩
def O1:(eR E g).H=E.f.hs++g.H∨(eR E g).H=g.H:=by
 unfold eR;cases E.dst with
 |none=>exact .inl rfl
 |some u=>
  cases E.p with
  |nil=>exact .inl rfl
  |cons x p=>dsimp only;cases E.f.e<;>exact .inr rfl
def yZ{q:Nat}(h:q∉pk E):wg (eR E g) g q:=by
 unfold wg;rcases O1 (E:=E) (g:=g)with Z|Z<;>rw [Z]
 rw [yY,Yg h]
def O2{q:Nat}(h:wg g1 g2 q):wg (eR E g1) (eR E g2) q:=by
 unfold wg at *;unfold eR;cases E.dst with
 |none=>simp only [yY,h]
 |some u=>
  cases E.p with
  |nil=>simp only [yY,h]
  |cons x p=>dsimp only;cases E.f.e<;>exact h
def y0(E:eM):Nat:=
 match E.dst with
 |none=>E.f.nx
 |some _=>match E.p with
  |[]=>E.f.nx
  |_::_=>0
def Ht:(eR E g).a1=g.a1+y0 E:=by
 unfold eR y0;cases E.dst with
 |none=>rfl
 |some u=>
  cases E.p with
  |nil=>rfl
  |cons x p=>dsimp only;cases E.f.e<;>rfl
structure Alike(g1 g2:dt):Prop where
 slot:∀t,m5 g1 g2 t
 box:∀q,wg g1 g2 q
 a1:g1.a1=g2.a1
 ids:g1.ids=g2.ids
def Hu:(eR E g).ids=g.ids:=by
 unfold eR;cases E.dst with
 |none=>rfl
 |some u=>
  cases E.p with
  |nil=>rfl
  |cons x p=>dsimp only;cases E.f.e<;>rfl
def Alike.refl:Alike g g:=⟨λ_=>⟨rfl,rfl⟩,λ_=>rfl,rfl,rfl⟩
def Alike.symm(h:Alike g1 g2):Alike g2 g1:=⟨λt=>⟨(h.slot t).1.symm,(h.slot t).2.symm⟩,λq=>(h.box q).symm,h.a1.symm,h.ids.symm⟩
def Alike.trans{g3:dt}(h:Alike g1 g2)(cO:Alike g2 g3):Alike g1 g3:=⟨λt=>⟨(h.slot t).1.trans (cO.slot t).1,(h.slot t).2.trans (cO.slot t).2⟩,λq=>(h.box q).trans (cO.box q),h.a1.trans cO.a1,h.ids.trans cO.ids⟩
def Alike.ap(h:Alike g1 g2):Alike (eR E g1) (eR E g2):=
 ⟨λt=>O0 (h.slot t),λq=>O2 (h.box q),(by simp only [Ht,h.a1]),by simp only [Hu,h.ids]⟩
def sep(a b:List Nat):Bool:=a.all λx=>!b.any (Nat.beq x)
def wi{a b:List Nat}(h:sep a b=true){x:Nat}(ha:x∈a):x∉b:=by
 intro hb;have:=List.all_eq_true.1 h x ha
 simp only [Bool.not_eq_true',List.any_eq_false]at this;exact this x hb (by simp)
def CL(E dx:eM):Bool:=
 sep (ou E) dx.ny&&sep (ou E) (ou dx)&&sep (ou dx) E.ny&&(sep (pk E) dx.kE||Nat.beq E.ot 2&&Nat.beq dx.ot 1)&&sep (pk E) (pk dx)&&(sep (pk dx) E.kE||Nat.beq dx.ot 2&&Nat.beq E.ot 1)&&(!E.qg||Nat.beq (y0 dx) 0)&&(!dx.qg||Nat.beq (y0 E) 0)
def aig{E dx:eM}(Z:sep (ou E) (ou dx)=true)(ad:sep (pk E) (pk dx)=true):Alike (eR E (eR dx g)) (eR dx (eR E g)):=by
 refine⟨λt=>?_,λq=>?_,?_,by simp only [Hu]⟩
 ·by_cases ax:t∈ou E
  ·have dm:=wi Z ax;have a:m5 (eR E (eR dx g)) (eR E g) t:=O0 (wh dm);have b:m5 (eR dx (eR E g)) (eR E g) t:=wh dm;exact⟨a.1.trans b.1.symm,a.2.trans b.2.symm⟩
  ·have a:m5 (eR E (eR dx g)) (eR dx g) t:=wh ax;have b:m5 (eR dx (eR E g)) (eR dx g) t:=O0 (wh ax);exact⟨a.1.trans b.1.symm,a.2.trans b.2.symm⟩
 ·by_cases ax:q∈pk E
  ·have dm:=wi ad ax;exact(O2 (E:=E) (yZ (E:=dx) (g:=g) dm)).trans (yZ (E:=dx) (g:=eR E g) dm).symm
  ·exact(yZ (E:=E) (g:=eR dx g) ax).trans (O2 (E:=dx) (yZ (E:=E) (g:=g) ax)).symm
 ·simp only [Ht];omega
end
section
variable {tt:dS} {ops:List Oper} {cx:gJ} {o:Oper} {E:eM} {g g1 g2:dt}
def Yh(h:∀t,t∈qi ops o→m5 g1 g2 t):p9 ops g1 o=p9 ops g2 o:=by
 unfold p9;split
 ·rfl
 ·rename_i j w hg;cases ax:(ops[j]?).bind (·.dst) with
  |none=>rfl
  |some t=>
   have:=h t (by simp [qi,hg,ax])
   simp only [this.1,this.2]
def Hv:∀{p:Path} {q:Prop},(∀x,x∈p→m5 g1 g2 x.1)→under g1 p q=under g2 p q
 |[],_,_=>rfl
 |(t,w)::p,q,h=>by
  have ax:=h (t,w) (by simp)
  have aW:=Hv (p:=p) (q:=q) λx hx=>h x (by simp [hx])
  have:B5 g1.env g1.ca t=B5 g2.env g2.ca t:=by unfold B5;rw [ax.1,ax.2]
  simp only [under,this,aW]
def aih{p:Path}(hs:∀x,x∈o.op.operands.toList→∀t,x = .tmp t→look g1.env t=look g2.env t∧look g1.ca t=look g2.ca t)(rp:g1.ids=g2.ids)(eW:∀q,q∈je tt g1 p o→look g1.H q=look g2.H q):je tt g1 p o=je tt g2 p o:=by
 have R:∀x,x∈o.op.operands.toList→∀p ty,rd g1.env g1.ca p tt ty x=rd g2.env g2.ca p tt ty x:=λx hx p ty=>OV (hs x hx) p ty
 cases aq:o.op with
 |alloc t=>simp only [je,aq,rp]
 |box t x=>simp only [je,aq,rp]
 |load t a=>simp only [aq,Op.operands]at R;simp only [je,aq,R a (by simp)]
 |store t a x=>simp only [aq,Op.operands]at R;simp only [je,aq,R a (by simp)]
 |call c=>
  simp only [aq,Op.operands,Call.operands]at R;cases hc:c.callee with
  |value x=>
   have hx:=R x (by simp [hc])
   have ha:l8 (rd g1.env g1.ca p tt) c.args.toList c.argTypes.toList=l8 (rd g2.env g2.ca p tt) c.args.toList c.argTypes.toList:=OW λy ci t=>R y (by rw [Array.toList_append];exact List.mem_append_right _ ci) p t
   simp only [je,aq,hc,hx,ha]at eW ⊢;split
   ·rename_i f fq ds Z ad;simp only [Z,ad]at eW;exact OX eW
   ·rfl
  |_=>simp only [je,aq,hc]
 |_=>simp only [je,aq]
structure O3(cx:gJ)(tt:dS)(ops:List Oper)(o:Oper)(E:eM)(g:dt):Prop where
 Hw:p9 ops g o=some E.p
 st:step1 cx tt ops {g with rs:=E.rs} E.p o=some (bif Nat.beq E.fy 0 then .go E.f else .bj E.we E.qh E.f.bc)
 bc:∀q,q∈E.f.bc→under g E.p q
 kE:∀q,q∈je tt g E.p o→q∈E.kE
 fin:E.fy=1→∀q,q∈E.kE→look g.H q=look E.ue q
def Can(cx:gJ)(tt:dS)(ops:List Oper)(o:Oper)(E:eM)(g:dt):Prop:=E.fy=2∨O3 cx tt ops o E g
def Can.congr(h:Can cx tt ops o E g1)(wj:∀t,t∈qi ops o++E.p.map (·.1)→t∈E.ny)(ra:ro o=E.qg)(hs:∀t,t∈E.ny→m5 g1 g2 t)(hb:∀q,q∈E.kE→wg g1 g2 q)(hn:E.qg=true→g1.a1=g2.a1)(rp:g1.ids=g2.ids):Can cx tt ops o E g2:=by
 rcases h with h|h
 ·exact .inl h
 right
 have gQ:∀x,x∈o.op.operands.toList→∀t,x = .tmp t→look g1.env t=look g2.env t∧look g1.ca t=look g2.ca t:=by
  rintro x hx t rfl
  exact hs t (wj t (List.mem_append_left _ (by simp only [qi,List.mem_append,List.mem_filterMap];exact .inl ⟨_,hx,rfl⟩)))
 have me:je tt g1 E.p o=je tt g2 E.p o:=aih gQ rp (λq av=>hb q (h.kE q av))
 refine⟨?_,?_,λq av=>?_,(by rw [←me];exact h.kE),λhk q av=>(hb q av).symm.trans (h.fin hk q av)⟩
 ·rw [←Yh (g1:=g1) (g2:=g2) λt ax=>hs t (wj t (List.mem_append_left _ ax))];exact h.Hw
 ·rw [←h.st];refine(OY (g1:={g1 with rs:=E.rs}) (g2:={g2 with rs:=E.rs}) gQ rfl rp (λhm=>hn (by rw [←ra];exact hm)) (λq av=>hb q ?_)).symm
  exact h.kE q av
 ·rw [←Hv (g1:=g1) (g2:=g2) λx hx=>hs x.1 (wj _ (List.mem_append_right _ (List.mem_map.2 ⟨x,hx,rfl⟩)))]
  exact h.bc q av
def wk(o:Oper)(rs:List fw):Nat:=
 match o.op with
 |.load _ _=>match rs with
  |.own::_=>2
  |.marks _::_=>0
  |_=>1
 |_=>0
def uf(g1 g2:dt)(q:Nat):Prop:=(look g1.H q).map (·.map (·.d))=(look g2.H q).map (·.map (·.d))
def Yi:∀(cs:List aZ) (off:Nat) (e:aZ),cs[off]? = some e→(setAt cs off [{d:=e.d}]).map (·.d)=cs.map (·.d)
 |[],off,e,h=>by simp at h
 |c::cs,0,e,h=>by
  simp only [List.getElem?_cons_zero,Option.some.injEq]at h;subst h;simp [setAt]
 |c::cs,off+1,e,h=>by
  simp only [List.getElem?_cons_succ]at h;simp only [setAt,List.map_cons,Yi cs off e h]
def aii(h:O3 cx tt ops o E g)(ae:wk o E.rs=2)(hk:E.fy=0)(q:Nat):uf (eR E g) g q:=by
 have dC:=h.st;rw [hk]at dC;unfold wk at ae;split at ae
 case h_2=>cases ae
 rename_i t a aq;simp only [step1,aq,show Nat.beq 0 0=true from rfl,cond_true]at dC
 have nil:E.f.hs=[]→uf (eR E g) g q:=by
  intro bB;unfold uf;rcases O1 (E:=E) (g:=g)with Z|Z<;>rw [Z]
  rw [bB];rfl
 split at dC
 ·rename_i aij off aJ ah b2;split at dC
  ·rename_i cs ev;rw [Bool.cond_eq_ite]at dC;split at dC
   ·rw [Bool.cond_eq_ite]at dC;split at dC
    ·split at dC
     ·rename_i eV;rw [eV]at ae;cases ae
     ·simp only [Option.map_some,Option.some.injEq,ob.go.injEq]at dC;exact nil (by rw [←dC])
    ·cases dC
   ·split at dC
    ·rename_i e he;split at dC
     ·rw [Bool.cond_eq_ite]at dC;split at dC
      ·simp only [Option.some.injEq,ob.go.injEq]at dC;unfold uf;rcases O1 (E:=E) (g:=g)with Z|Z<;>rw [Z]
       rw [←dC];simp only [List.cons_append,List.nil_append,dN];split
       ·rename_i av;subst av;rw [ev];simp only [Option.map_some,Yi cs off e he]
       ·rfl
      ·cases dC
     ·simp only [Option.map_some,Option.some.injEq,ob.go.injEq]at dC;exact nil (by rw [←dC])
    ·cases dC
  ·cases dC
 ·rename_i x aJ ah b2;rw [Bool.cond_eq_ite]at dC;split at dC
  ·simp only [Option.map_some,Option.some.injEq,ob.go.injEq]at dC;exact nil (by rw [←dC])
  ·cases dC
 ·cases dC
def aik{p:Path}{rs:List fw}{t:TypeId}{a:Operand}(aq:o.op = .load t a)(eV:∀l,rs ≠ .own::l)(Hx:∀c l,rs ≠ .marks c::l)(R:rd g1.env g1.ca p tt o.type a=rd g2.env g2.ca p tt o.type a)(ail:∀q off,rd g2.env g2.ca p tt o.type a=some (.ptr q off)→uf g1 g2 q):
 step1 cx tt ops {g1 with rs:=rs} p o=step1 cx tt ops {g2 with rs:=rs} p o:=by
 simp only [step1,aq,R];split
 ·rename_i q off aJ ah b2;have hd:=ail q off ah;unfold uf at hd;cases Z:look g1.H q with
  |none=>
   rw [Z]at hd;cases ad:look g2.H q with
   |none=>rfl
   |some c2=>rw [ad]at hd;cases hd
  |some c1=>
   rw [Z]at hd;cases ad:look g2.H q with
   |none=>rw [ad]at hd;cases hd
   |some c2=>
    rw [ad]at hd;simp only [Option.map_some,Option.some.injEq]at hd;have hlen:c1.length=c2.length:=by have:=congrArg List.length hd;simpa using this
    have aim:((c1.drop off).take aJ.size).map (·.d)=((c2.drop off).take aJ.size).map (·.d):=by rw [List.map_take,List.map_drop,hd,←List.map_drop,←List.map_take]
    have jc:(c1[off]?).map (·.d)=(c2[off]?).map (·.d):=by rw [←List.getElem?_map,hd,List.getElem?_map]
    simp only [hlen,aim];cases aJ.k.isAgg with
    |true=>
     cases rs with
     |nil=>rfl
     |cons x l=>
      cases x with
      |marks=>exact absurd rfl (Hx _ l)
      |_=>rfl
    |false=>
     simp only [cond_false];cases Yj:c1[off]? with
     |none=>
      rw [Yj]at jc;cases Hy:c2[off]? with
      |none=>rfl
      |some e2=>rw [Hy]at jc;cases jc
     |some e1=>
      rw [Yj]at jc;cases Hy:c2[off]? with
      |none=>rw [Hy]at jc;cases jc
      |some e2=>
       rw [Hy]at jc;simp only [Option.map_some,Option.some.injEq]at jc;cases rs with
       |nil=>cases e1.own<;>cases e2.own<;>simp [jc]
       |cons r l=>
        cases r with
        |own=>exact absurd rfl (eV l)
        |val x=>cases e1.own<;>cases e2.own<;>simp [jc]
        |raw=>cases e1.own<;>cases e2.own<;>simp [jc]
        |marks=>exact absurd rfl (Hx _ l)
        |call u v z=>cases e1.own<;>cases e2.own<;>simp [jc]
 ·rfl
 ·rfl
def Can.Yk(h:Can cx tt ops o E g1)(ae:wk o E.rs=1)(hk:E.fy=0)(wj:∀t,t∈qi ops o++E.p.map (·.1)→t∈E.ny)(hs:∀t,t∈E.ny→m5 g1 g2 t)(hb:∀q,uf g1 g2 q):Can cx tt ops o E g2:=by
 rcases h with h|h
 ·exact .inl h
 right
 have gQ:∀x,x∈o.op.operands.toList→∀t,x = .tmp t→look g1.env t=look g2.env t∧look g1.ca t=look g2.ca t:=by
  rintro x hx t rfl
  exact hs t (wj t (List.mem_append_left _ (by simp only [qi,List.mem_append,List.mem_filterMap];exact .inl ⟨_,hx,rfl⟩)))
 unfold wk at ae;split at ae
 case h_2=>cases ae
 rename_i t a aq
 have eV:∀l,E.rs ≠ .own::l:=by
  intro l e;rw [e]at ae;cases ae
 have Hx:∀c l,E.rs ≠ .marks c::l:=by
  intro c l e;rw [e]at ae;cases ae
 have R:rd g1.env g1.ca E.p tt o.type a=rd g2.env g2.ca E.p tt o.type a:=OV (gQ a (by simp [aq,Op.operands])) _ _
 have me:je tt g1 E.p o=je tt g2 E.p o:=by simp only [je,aq,R]
 refine⟨?_,?_,λq av=>?_,(by rw [←me];exact h.kE),λlm=>by rw [hk]at lm;cases lm⟩
 ·rw [←Yh (g1:=g1) (g2:=g2) λt ax=>hs t (wj t (List.mem_append_left _ ax))];exact h.Hw
 ·rw [←h.st];exact(aik aq eV Hx R λq off _=>hb q).symm
 ·rw [←Hv (g1:=g1) (g2:=g2) λx hx=>hs x.1 (wj _ (List.mem_append_right _ (List.mem_map.2 ⟨x,hx,rfl⟩)))]
  exact h.bc q av
end
def iK(ops:List Oper)(o:Oper)(E:eM):Bool:=ain (qi ops o++E.p.map (·.1)) E.ny&&(ro o == E.qg)&&decide (E.dst=o.dst)&&(match E.f.rs with|[]=>true|_=>false)&&(Nat.beq E.ot 0||Nat.beq E.ot (wk o E.rs)&&Nat.beq E.fy 0)
where ain (a b:List Nat):Bool:=a.all λx=>b.any (Nat.beq x)
def Hz{ops:List Oper}{o:Oper}{E:eM}(h:iK ops o E=true):(∀t,t∈qi ops o++E.p.map (·.1)→t∈E.ny)∧ro o=E.qg∧E.dst=o.dst∧E.f.rs=[]:=by
 simp only [iK,Bool.and_eq_true,beq_iff_eq,decide_eq_true_eq]at h;obtain⟨⟨⟨⟨Z,ad⟩,am⟩,aR⟩,_⟩:=h;refine⟨λt ax=>?_,ad,am,?_⟩
 ·obtain⟨y,ci,ht⟩:=List.any_eq_true.1 (List.all_eq_true.1 Z t ax);have:t=y:=by simpa using ht
  rw [this];exact ci
 ·split at aR
  ·assumption
  ·cases aR
def waits(ops:List Oper)(i:Nat):Nat→Nat→Bool
 | 0,_=>false
 |n+1,j=>match ops[j]? with
  |some o=>o.after.toList.any λe=>Region.binds .any e&&(Nat.beq e.on i||waits ops i n e.on)
  |none=>false
def ov(opsA:Array Oper)(listed:Array Bool):Prop:=∀(j:Nat) o,opsA[j]? = some o→listed.getD j false=true→∀e,e∈o.after→Region.binds .any e=true→listed.getD e.on false=true
def HA{opsA:Array Oper}{listed:Array Bool}(hc:ov opsA listed){i:Nat}:∀{n j:Nat},waits opsA.toList i n j=true→listed.getD j false=true→listed.getD i false=true
 | 0,_,h,_=>by simp [waits]at h
 |n+1,j,h,hj=>by
  simp only [waits]at h;split at h
  ·rename_i o aq;obtain⟨e,he,hb⟩:=List.any_eq_true.1 h;simp only [Bool.and_eq_true,Bool.or_eq_true,Nat.beq_eq]at hb;have Z:=hc j o (by simpa using aq) hj e (by simpa using he) hb.1
   rcases hb.2 with rfl|ad
   ·exact Z
   ·exact HA hc ad Z
  ·cases h
def ov.set{opsA:Array Oper}{listed:Array Bool}(hc:ov opsA listed){i:Nat}(ah:i∈Region.ready .any opsA listed):ov opsA (listed.setIfInBounds i true):=by
 intro j o aq hj e he hb;by_cases qj:i=j
 ·subst qj;obtain⟨_,o',lh,pb⟩:=mem_ready.1 ah;rw [aq]at lh;cases lh;exact getD_set_true (pb e he hb)
 ·rw [getD_set_ne false qj]at hj;exact getD_set_true (hc j o aq hj e he hb)
section
variable {cx:gJ} {tt:dS} {opsA:Array Oper} {cU:List eM} {Fi:dt→Prop} {g g1 g2:dt}
def jL(cx:gJ)(tt:dS)(opsA:Array Oper)(cU:List eM)(Fi:dt→Prop):Nat→Array Bool→dt→Prop
 | 0,listed,g=>Region.ready .any opsA listed=[]∧Fi g
 |n+1,listed,g=>(Region.ready .any opsA listed=[]→Fi g)∧∀i,i∈Region.ready .any opsA listed→∃o E,opsA[i]? = some o∧cU[i]? = some E∧Can cx tt opsA.toList o E g∧
  jL cx tt opsA cU Fi n (listed.setIfInBounds i true) (eR E g)
def jL.alike(ew:∀(i:Nat) o E,opsA[i]? = some o→cU[i]? = some E→iK opsA.toList o E=true)(dV:∀g1 g2,Alike g1 g2→Fi g1→Fi g2):∀{n:Nat} {listed:Array Bool} {g1 g2:dt},Alike g1 g2→jL cx tt opsA cU Fi n listed g1→jL cx tt opsA cU Fi n listed g2
 | 0,_,_,_,ha,h=>⟨h.1,dV _ _ ha h.2⟩
 |n+1,_,_,_,ha,h=>⟨λah=>dV _ _ ha (h.1 ah),λi hi=>by
  obtain⟨o,E,aq,ch,kd,hn⟩:=h.2 i hi;obtain⟨ef,aj,_,_⟩:=Hz (ew i o E aq ch);exact⟨o,E,aq,ch,kd.congr ef aj (λt _=>ha.slot t) (λq _=>ha.box q) (λ_=>ha.a1) ha.ids,jL.alike ew dV ha.ap hn⟩⟩
def CM{ops:List Oper}{o:Oper}{E:eM}{n:Nat}(h:iK ops o E=true)(ae:E.ot=n+1):wk o E.rs=n+1∧E.fy=0:=by
 simp only [iK,Bool.and_eq_true,Bool.or_eq_true,Nat.beq_eq]at h;rcases h.2 with h|h
 ·rw [ae]at h;cases h
 ·exact⟨h.1.symm.trans ae,h.2⟩
def Can.data{cx:gJ}{tt:dS}{ops:List Oper}{o:Oper}{E:eM}{g:dt}(h:Can cx tt ops o E g)(ew:iK ops o E=true)(ae:E.ot=2)(q:Nat):uf (eR E g) g q:=by
 obtain⟨Z,ad⟩:=CM ew ae;rcases h with h|h
 ·rw [ad]at h;cases h
 ·exact aii h Z ad q
def aio{E dx:eM}(h:CL E dx=true):sep (ou E) dx.ny=true∧sep (ou E) (ou dx)=true∧sep (ou dx) E.ny=true∧(sep (pk E) dx.kE=true∨E.ot=2∧dx.ot=1)∧sep (pk E) (pk dx)=true∧(sep (pk dx) E.kE=true∨dx.ot=2∧E.ot=1)∧(E.qg=true→y0 dx=0)∧(dx.qg=true→y0 E=0):=by
 simp only [CL,Bool.and_eq_true,Bool.or_eq_true,Bool.not_eq_true',Nat.beq_eq]at h;obtain⟨⟨⟨⟨⟨⟨⟨Z,ad⟩,am⟩,aR⟩,bv⟩,cz⟩,eG⟩,eD⟩:=h;exact⟨Z,ad,am,aR,bv,cz,λhm=>eG.resolve_left (by simp [hm]),λhm=>eD.resolve_left (by simp [hm])⟩
def jL.first(ew:∀(i:Nat) o E,opsA[i]? = some o→cU[i]? = some E→iK opsA.toList o E=true)(dV:∀g1 g2,Alike g1 g2→Fi g1→Fi g2){i:Nat}{o:Oper}{E:eM}(hi:opsA[i]? = some o)(ch:cU[i]? = some E):
 ∀(fuel:Nat) (listed:Array Bool) (g:dt),
  (∀(j:Nat) qk mE,opsA[j]? = some qk→cU[j]? = some mE→j≠i→listed.getD j true=false→waits opsA.toList i 3 j=false→CL E mE=true)→ov opsA listed→
  i∈Region.ready .any opsA listed→Can cx tt opsA.toList o E g→jL cx tt opsA cU Fi fuel (listed.setIfInBounds i true) (eR E g)→jL cx tt opsA cU Fi (fuel+1) listed g:=by
 intro fuel;induction fuel with
 |zero=>
  intro listed g _ _ ah kd H;refine⟨λh=>(by rw [h]at ah;cases ah),λj hj=>?_⟩
  by_cases qj:j=i
  ·subst qj;exact⟨o,E,hi,ch,kd,H⟩
  ·have:=ready_mono hj qj
   rw [H.1]at this;cases this
 |succ fuel aW=>
  intro listed g kV gP ah kd H;refine⟨λh=>(by rw [h]at ah;cases ah),λj hj=>?_⟩
  by_cases qj:j=i
  ·subst qj;exact⟨o,E,hi,ch,kd,H⟩
  obtain⟨qk,mE,ql,ug,Yl,aip⟩:=H.2 j (ready_mono hj qj);obtain⟨Ym,atc,Yn,pb⟩:=mem_ready.1 hj;rw [ql]at Yn;cases Yn
  have ow:listed.getD i false=false:=by
   have h0:=(mem_ready.1 ah).1;rcases Nat.lt_or_ge i listed.size with cO|cO
   ·simpa [Array.getD_eq_getD_getElem?,cO]using h0
   ·simp [Array.getD_eq_getD_getElem?,Array.getElem?_eq_none cO]
  have aiq:waits opsA.toList i 3 j=false:=by
   rw [Bool.eq_false_iff];intro hw;rw [waits]at hw;have ae:opsA.toList[j]? = some qk:=by simpa using ql
   simp only [ae]at hw;obtain⟨e,he,hb⟩:=List.any_eq_true.1 hw;simp only [Bool.and_eq_true,Bool.or_eq_true,Nat.beq_eq]at hb;have Z:=pb e (by simpa using he) hb.1
   rcases hb.2 with rfl|ad
   ·rw [ow]at Z;cases Z
   ·rw [HA gP ad Z]at ow;cases ow
  obtain⟨d1,d2,d3,d4,d5,d6,d7,d8⟩:=aio (kV j qk mE ql ug qj Ym aiq);obtain⟨ef,aj,_,_⟩:=Hz (ew i o E hi ch);obtain⟨i_,mC,_,_⟩:=Hz (ew j qk mE ql ug)
  have c1:Can cx tt opsA.toList qk mE g:=by
   rcases d4 with d4|⟨e1,e2⟩
   ·exact Yl.congr i_ mC (λt ax=>wh λhw=>wi d1 hw ax) (λq av=>yZ λhw=>wi d4 hw av) (λhm=>by rw [Ht,d8 hm];rfl) Hu
   ·exact Yl.Yk (CM (ew j qk mE ql ug) e2).1 (CM (ew j qk mE ql ug) e2).2 i_ (λt ax=>wh λhw=>wi d1 hw ax) (kd.data (ew i o E hi ch) e1)
  have c2:Can cx tt opsA.toList o E (eR mE g):=by
   have O4:∀t,t∈E.ny→m5 g (eR mE g) t:=λt ax=>by have:=wh (E:=mE) (g:=g) (t:=t) λhw=>wi d3 hw ax;exact⟨this.1.symm,this.2.symm⟩
   rcases d6 with d6|⟨e1,e2⟩
   ·exact kd.congr ef aj O4 (λq av=>(yZ (E:=mE) (g:=g) (q:=q) λhw=>wi d6 hw av).symm) (λhm=>by rw [Ht,d7 hm];rfl) Hu.symm
   ·exact kd.Yk (CM (ew i o E hi ch) e2).1 (CM (ew i o E hi ch) e2).2 ef O4 (λq=>(c1.data (ew j qk mE ql ug) e1 q).symm)
  refine⟨qk,mE,ql,ug,c1,aW (listed.setIfInBounds j true) (eR mE g) ?_ (gP.set hj) (ready_mono ah (Ne.symm qj)) c2 ?_⟩
  ·intro k ok air hk ais HB ow pg;refine kV k ok air hk ais HB ?_ pg;by_cases uh:j=k
   ·subst uh;exact Ym
   ·rw [getD_set_ne true uh]at ow;exact ow
  ·rw [Array.setIfInBounds_comm _ _ qj];exact jL.alike ew dV (aig d2 d5).symm aip
structure HC(n k:Nat)(listed:Array Bool):Prop where
 size:listed.size=n
 at':∀j,j<n→listed[j]? = some (decide (j<k))
def HC.set{n k:Nat}{listed:Array Bool}(h:HC n k listed):HC n (k+1) (listed.setIfInBounds k true):=by
 refine⟨by simp [h.size],λj hj=>?_⟩
 by_cases uh:k=j
 ·subst uh;simp [h.size,hj]
 ·rw [Array.getElem?_setIfInBounds_ne uh,h.at' j hj]
  congr 1
  have:(j<k)=(j<k+1):=by apply propext;omega
  simp [this]
def ait(o:Oper)(k:Nat):Bool:=o.after.toList.all λe=>!Region.binds .any e||Nat.blt e.on k
def HD(ops:List Oper)(E:eM)(k:Nat):Nat→List (Oper×eM)→Bool
 |_,[]=>true
 |j,(_,dx)::l=>(CL E dx||waits ops k 3 j)&&HD ops E k (j+1) l
def HE(ops:List Oper):Nat→List (Oper×eM)→Bool
 |_,[]=>true
 |k,(o,E)::l=>ait o k&&HD ops E k (k+1) l&&HE ops (k+1) l
def HF(cx:gJ)(tt:dS)(ops:List Oper)(Fi:dt→Prop):List (Oper×eM)→dt→Prop
 |[],g=>Fi g
 |(o,E)::l,g=>Can cx tt ops o E g∧HF cx tt ops Fi l (eR E g)
def Yo{ops:List Oper}{E:eM}{k:Nat}:∀{l:List (Oper×eM)} {n:Nat},HD ops E k n l=true→∀(j:Nat) o dx,l[j]? = some (o,dx)→waits ops k 3 (n+j)=false→CL E dx=true
 |[],_,_,j,o,dx,hj,_=>by simp at hj
 |(c8,a8)::l,n,h,j,o,dx,hj,pg=>by
  simp only [HD,Bool.and_eq_true,Bool.or_eq_true]at h;cases j with
  |zero=>
   simp at hj
   obtain⟨rfl,rfl⟩:=hj;exact h.1.resolve_right (by rw [Nat.add_zero]at pg;rw [pg];simp)
  |succ j=>exact Yo h.2 j o dx (by simpa using hj) (by rwa [show n+1+j=n+(j+1)by omega])
def jL.text(ew:∀(i:Nat) o E,opsA[i]? = some o→cU[i]? = some E→iK opsA.toList o E=true)(dV:∀g1 g2,Alike g1 g2→Fi g1→Fi g2):
 ∀(l:List (Oper×eM)) (k:Nat) (listed:Array Bool) (g:dt),(∀j:Nat,(l[j]?).map (·.1)=opsA[k+j]?)→(∀j:Nat,(l[j]?).map (·.2)=cU[k+j]?)→HC opsA.size k listed→ov opsA listed→HE opsA.toList k l=true→HF cx tt opsA.toList Fi l g→
  jL cx tt opsA cU Fi l.length listed g
 |[],k,listed,g,Z,_,c7,_,_,hc=>by
  refine⟨?_,hc⟩
  have hk:opsA[k]? = none:=by have:=Z 0;simpa using this.symm
  have lm:opsA.size≤k:=by simpa using hk
  refine List.eq_nil_iff_forall_not_mem.2 λj hj=>?_
  obtain⟨hu,o,aq,_⟩:=mem_ready.1 hj;have b2:j<opsA.size:=(Array.getElem?_eq_some_iff.1 aq).1;have:=c7.at' j b2
  rw [Array.getD_eq_getD_getElem?,this]at hu;have uh:j<k:=by omega
  simp [uh]at hu
 |(o,E)::l,k,listed,g,Z,ad,c7,gP,hx,hc=>by
  have aq:opsA[k]? = some o:=by have:=Z 0;simpa using this.symm
  have ch:cU[k]? = some E:=by have:=ad 0;simpa using this.symm
  have b2:k<opsA.size:=(Array.getElem?_eq_some_iff.1 aq).1;simp only [HE,Bool.and_eq_true]at hx;obtain⟨⟨ah,cc⟩,hx⟩:=hx
  have Yp:k∈Region.ready .any opsA listed:=by
   refine mem_ready.2 ⟨?_,o,aq,λe he hb=>?_⟩
   ·rw [Array.getD_eq_getD_getElem?,c7.at' k b2];simp
   ·have:=List.all_eq_true.1 ah e (by simpa using he)
    simp only [hb,Bool.not_true,Bool.false_or,Nat.blt_eq]at this;rw [Array.getD_eq_getD_getElem?,c7.at' e.on (by omega)]
    simp [this]
  refine jL.first ew dV aq ch l.length listed g ?_ gP Yp hc.1 (jL.text ew dV l (k+1) _ _ (λj=>?_) (λj=>?_) c7.set (gP.set Yp) hx hc.2)
  ·intro j qk mE ql ug dY ow pg;have vP:j<opsA.size:=(Array.getElem?_eq_some_iff.1 ql).1
   have uh:k<j:=by
    rw [Array.getD_eq_getD_getElem?,c7.at' j vP]at ow;simp at ow
    omega
   have e1:=Z (j-k);have e2:=ad (j-k);have Yq:k+(j-k)=j:=by omega
   rw [Yq,ql]at e1;rw [Yq,ug]at e2
   have e3:(((o,E)::l)[j-k]?)=l[j-k-1]? := by
    have:j-k=(j-k-1)+1:=by omega
    rw [this];simp
   rw [e3]at e1 e2;cases ae:l[j-k-1]? with
   |none=>rw [ae]at e1;simp at e1
   |some x=>
    rw [ae]at e1 e2;simp at e1 e2
    obtain⟨dy,eo⟩:=x;simp only at e1 e2
    subst e1;subst e2;exact Yo cc _ _ _ ae (by rwa [show k+1+(j-k-1)=j by omega])
  ·have:=Z (j+1);simpa [Nat.add_assoc,Nat.add_comm 1 j]using this
  ·have:=ad (j+1);simpa [Nat.add_assoc,Nat.add_comm 1 j]using this
end
def rq(N:Nat)(E:eM):Bool:=
 match E.dst with
 |none=>E.p.isEmpty
 |some t=>Nat.blt t N&&match E.p with
  |[]=>true
  |p=>E.f.e.isSome&&E.f.hs.isEmpty&&E.f.hF.isEmpty&&p.all (λy=>!Nat.beq y.1 t)&&Nat.beq E.f.nx 0
def CN(ops:List Oper)(i:Nat)(t:Nat):Nat→List eM→Bool
 |_,[]=>true
 |j,dx::l=>(match dx.p with
  |[]=>true
  |p=>(match dx.dst with |some bp=>Nat.beq bp t |none=>false)||p.all (λy=>!Nat.beq y.1 t)||waits ops i 3 j)&&CN ops i t (j+1) l
def HG(ops:List Oper)(cU:List eM):Nat→List eM→Bool
 |_,[]=>true
 |i,E::l=>(match E.dst with
  |none=>true
  |some t=>CN ops i t 0 cU)&&HG ops cU (i+1) l
def CO(ops:List Oper)(cU:List eM):Bool:=HG ops cU 0 cU
def Yr{ops:List Oper}{i t:Nat}:∀{l:List eM} {k:Nat},CN ops i t k l=true→∀(j:Nat) (dx:eM),l[j]? = some dx→dx.p≠[]→
 ((match dx.dst with|some bp=>Nat.beq bp t|none=>false)||dx.p.all (λy=>!Nat.beq y.1 t))=true∨waits ops i 3 (k+j)=true
 |[],_,_,j,dx,h,_=>by simp at h
 |a8::l,k,h,j,dx,hj,dY=>by
  simp only [CN,Bool.and_eq_true]at h;cases j with
  |zero=>
   simp at hj
   subst hj;have Z:=h.1;split at Z
   ·rename_i p';exact absurd p' dY
   ·rw [Bool.or_eq_true]at Z;exact Z
  |succ j=>
   have:=Yr h.2 j dx (by simpa using hj) dY
   rwa [show k+(j+1)=k+1+j by omega]
def Ys{ops:List Oper}{cU:List eM}:∀{l:List eM} {k:Nat},HG ops cU k l=true→∀(i:Nat) (E:eM) (t:Nat),l[i]? = some E→E.dst=some t→CN ops (k+i) t 0 cU=true
 |[],_,_,i,E,t,h,_=>by simp at h
 |a8::l,k,h,i,E,t,hi,hd=>by
  simp only [HG,Bool.and_eq_true]at h;cases i with
  |zero=>
   simp at hi
   subst hi;have Z:=h.1;rw [hd]at Z;exact Z
  |succ i=>
   have:=Ys h.2 i E t (by simpa using hi) hd
   rwa [show k+(i+1)=k+1+i by omega]
section
variable {P:Program} {K:Ctx} {N:Nat} {M:Mem} {β:Nat→Option Nat} {tt:dS} {opsA:Array Oper} {cU:List eM} {g:dt} {w:World} {tmps:Array Value}
def ui(cU:List eM)(listed:Array Bool)(g:dt):Prop:=∀x,x∈g.ca→∃(i:Nat) (E:eM),cU[i]? = some E∧listed.getD i false=true∧E.dst=some x.1∧E.p=x.2.1∧E.p≠[]
def HH{α:Type}:∀{l:List (Nat×α)} {t:Nat} {x:Nat×α},x∈del l t→x∈l
 |[],_,_,h=>by simp [del]at h
 |(j,y)::l,t,x,h=>by
  simp only [del]at h;rw [Bool.cond_eq_ite]at h;split at h
  ·exact List.mem_cons_of_mem _ (HH h)
  ·rcases List.mem_cons.1 h with rfl|h
   ·simp
   ·exact List.mem_cons_of_mem _ (HH h)
def ui.ap{listed:Array Bool}{i:Nat}{E:eM}(ch:cU[i]? = some E)(hi:i<listed.size)(h:ui cU listed g):ui cU (listed.setIfInBounds i true) (eR E g):=by
 have cO:ui cU (listed.setIfInBounds i true) g:=λx hx=>by
  obtain⟨j,dx,Z,ad,am⟩:=h x hx;exact⟨j,dx,Z,getD_set_true ad,am⟩
 intro x hx;unfold eR at hx;cases hd:E.dst with
 |none=>simp only [hd]at hx;exact cO x hx
 |some t=>
  simp only [hd]at hx;cases hp:E.p with
  |nil=>simp only [hp]at hx;exact cO x (HH hx)
  |cons y p=>
   simp only [hp]at hx;cases he:E.f.e with
   |none=>simp only [he]at hx;exact cO x hx
   |some e=>
    simp only [he]at hx;rcases List.mem_cons.1 hx with rfl|hx
    ·exact⟨i,E,ch,by simp [hi],by simp [hd],by simp [hp],by simp [hp]⟩
    ·exact cO x (HH hx)
def aiu{listed:Array Bool}{i:Nat}{E:eM}{t:Nat}(kV:CO opsA.toList cU=true)(ch:cU[i]? = some E)(hd:E.dst=some t)(hc:ov opsA listed)(hi:listed.getD i false=false)(h:ui cU listed g):yp g.ca t=true:=by
 unfold yp;rw [List.all_eq_true];intro x hx;obtain⟨j,dx,sH,ae,kQ,yR,dY⟩:=h x hx;have Z:=Ys kV i E t ch hd;rw [Nat.zero_add]at Z;rcases Yr Z j dx sH dY with ad|ad
 ·rw [kQ,yR]at ad;exact ad
 ·rw [Nat.zero_add]at ad;have:=HA hc ad ae
  rw [hi]at this;cases this
def Yt{listed:Array Bool}{cx:gJ}{o:Oper}{E:eM}{i:Nat}(kB:E.fy=0)(kd:O3 cx tt opsA.toList o E g)(ch:cU[i]? = some E)(ew:iK opsA.toList o E=true)(aQ:rq N E=true)(kV:CO opsA.toList cU=true)(hc:ov opsA listed)(hi:listed.getD i false=false)(jr:ui cU listed g):
 kv cx tt N opsA.toList {g with rs:=E.rs,bc:=[]} o=some (.go {eR E g with rs:=[],bc:=E.f.bc.map (under g E.p)}):=by
 obtain⟨_,_,fW,gw⟩:=Hz ew;have hg:p9 opsA.toList {g with rs:=E.rs,bc:=[]} o=some E.p:=kd.Hw
 have hs:step1 cx tt opsA.toList {g with rs:=E.rs,bc:=[]} E.p o=some (.go E.f):=by
  have dC:=kd.st;rw [kB]at dC;refine Eq.trans ?_ dC;exact OY (g1:={g with rs:=E.rs,bc:=[]}) (g2:={g with rs:=E.rs}) (λ_ _ _ _=>⟨rfl,rfl⟩) rfl rfl (λ_=>rfl) (λ_ _=>rfl)
 have hu:∀q,under {g with rs:=E.rs,bc:=[]} E.p q=under g E.p q:=λq=>Hv λ_ _=>⟨rfl,rfl⟩
 unfold kv;rw [hg]
 dsimp only
 rw [hs]
 dsimp only
 rw [←fW];have cH:E.f.bc.map (under {g with rs:=E.rs,bc:=[]} E.p)++[]=E.f.bc.map (under g E.p):=by rw [List.append_nil];exact List.map_congr_left λq _=>hu q
 rw [cH,gw];unfold rq at aQ;unfold eR;cases hd:E.dst with
 |none=>
  rw [hd]at aQ
  dsimp only at aQ ⊢
  rw [aQ];rfl
 |some t=>
  rw [hd]at aQ;have cc:=aiu kV ch hd hc hi jr;simp only [Bool.and_eq_true]at aQ;obtain⟨b2,aQ⟩:=aQ
  dsimp only
  rw [b2,cc];cases hp:E.p with
  |nil=>rfl
  |cons x p=>
   rw [hp]at aQ;simp only [Bool.and_eq_true,List.isEmpty_iff,Nat.beq_eq,Option.isSome_iff_exists]at aQ;obtain⟨⟨⟨⟨⟨e,he⟩,bB⟩,hc⟩,pb⟩,hn⟩:=aQ;simp only [he,bB,hc,hn,pb];rfl
def jL.sound(co:fl P tt=true)(kB:∀(i:Nat) E,cU[i]? = some E→E.fy=0)(ew:∀(i:Nat) o E,opsA[i]? = some o→cU[i]? = some E→iK opsA.toList o E=true)(aQ:∀(i:Nat) E,cU[i]? = some E→rq N E=true)(kV:CO opsA.toList cU=true){Fi:dt→Prop}{Q:Exit→Act→World→Prop}
 (dT:∀g eB w' M' β',Fi g→fO P K N M' β' g eB w'→Q .normal ⟨eB,K.ds⟩ w'):
 ∀(n:Nat) (listed:Array Bool) (g:dt) (tmps:Array Value) (w:World) (M:Mem) (β:Nat→Option Nat),jL (hT P) tt opsA cU Fi n listed g→listed.size=opsA.size→ov opsA listed→ui cU listed g→fO P K N M β g tmps w→wpAny P .any opsA Q n listed ⟨tmps,K.ds⟩ w
 | 0,_,g,tmps,w,M,β,h,_,_,_,hs=>⟨h.1,dT g tmps w M β h.2 hs⟩
 |n+1,listed,g,tmps,w,M,β,h,eC,gP,jr,hs=>by
  refine⟨λah=>dT g tmps w M β (h.1 ah) hs,λi hi=>?_⟩
  obtain⟨o,E,aq,ch,HI,hn⟩:=h.2 i hi;have kd:=HI.resolve_left (by rw [kB i E ch];simp)
  have b2:i<listed.size:=by rw [eC];exact(Array.getElem?_eq_some_iff.1 aq).1
  have ow:listed.getD i false=false:=by have:=(mem_ready.1 hi).1;simpa [Array.getD_eq_getD_getElem?,b2]using this
  have O5:=Yt (N:=N) (kB i E ch) kd ch (ew i o E aq ch) (aQ i E ch) kV gP ow jr;have gk:fO P K N M β {g with rs:=E.rs,bc:=[]} tmps w:=⟨hs.bC,hs.size,hs.fresh,hs.cond⟩;unfold wpOp;simp only [aq];refine CH gk co (opsA:=opsA) rfl O5 (λq av=>?_) (λeB w' M' β' cO=>?_)
  ·obtain⟨q',qc,rfl⟩:=List.mem_map.1 av;exact kd.bc q' qc
  ·exact jL.sound co kB ew aQ kV dT n _ (eR E g) eB w' M' β' hn (by simpa using eC) (gP.set hi) (jr.ap ch b2) ⟨cO.bC,cO.size,cO.fresh,cO.cond⟩
end
def findD(cx:gJ)(tt:dS)(ops:List Oper)(g:dt)(o:Oper)(rs:List fw):Option eM:=
 match p9 ops g o with
 |none=>none
 |some p=>match step1 cx tt ops {g with rs:=rs} p o with
  |some (.go f)=>some {dst:=o.dst,p,f,kE:=je tt g p o,ny:=qi ops o++p.map (·.1),qg:=ro o,rs,ot:=wk o rs}
  |_=>none
def wm(cx:gJ)(tt:dS)(ops:List Oper):List Oper→List (List fw)→dt→Option (List eM×dt×List Prop)
 |[],[],g=>some ([],g,[])
 |o::l,rs::ke,g=>match findD cx tt ops g o rs with
  |some E=>match wm cx tt ops l ke (eR E g) with
   |some (cU,fa,bc)=>some (E::cU,fa,bc++E.f.bc.map (under g E.p))
   |none=>none
  |none=>none
 |_,_,_=>none
def lS:List Oper→List eM→List (Oper×eM)
 |o::l,E::m=>(o,E)::lS l m
 |_,_=>[]
def HJ(N:Nat)(ops:List Oper)(cU:List eM):Bool:=
 (lS ops cU).all (λx=>iK ops x.1 x.2)&&cU.all (rq N)&&CO ops cU&&HE ops 0 (lS ops cU)
section
variable {cx:gJ} {tt:dS} {ops:List Oper}
def Yu{Fi:dt→Prop}:∀{l:List Oper} {ke:List (List fw)} {g:dt} {cU:List eM} {fa:dt} {bc:List Prop},wm cx tt ops l ke g=some (cU,fa,bc)→(∀q,q∈bc→q)→Fi fa→
 cU.length=l.length∧(∀E,E∈cU→E.fy=0)∧HF cx tt ops Fi (lS l cU) g
 |[],[],g,cU,fa,bc,h,_,dV=>by
  simp only [wm,Option.some.injEq,Prod.mk.injEq]at h;obtain⟨rfl,rfl,rfl⟩:=h;exact⟨rfl,by simp,dV⟩
 |o::l,rs::ke,g,cU,fa,bc,h,cH,dV=>by
  simp only [wm]at h;split at h
  case h_2=>cases h
  rename_i E ch;split at h
  case h_2=>cases h
  rename_i wn g1 HK Z;simp only [Option.some.injEq,Prod.mk.injEq]at h;obtain⟨rfl,rfl,rfl⟩:=h;obtain⟨ad,aiv,am⟩:=Yu Z (λq av=>cH q (List.mem_append_left _ av)) dV
  have aiw:E.fy=0:=by
   unfold findD at ch;split at ch
   ·cases ch
   split at ch
   ·cases ch;rfl
   ·cases ch
  refine⟨by simp [ad],λdx sH=>?_,?_,am⟩
  ·rcases List.mem_cons.1 sH with rfl|sH
   ·exact aiw
   ·exact aiv dx sH
  have O6:∀q,q∈E.f.bc→under g E.p q:=λq av=>cH _ (List.mem_append_right _ (List.mem_map.2 ⟨q,av,rfl⟩))
  unfold findD at ch;split at ch
  ·cases ch
  rename_i p hp;split at ch
  ·rename_i f cc;cases ch;exact .inr ⟨hp,cc,O6,λ_ h=>h,λh=>by cases h⟩
  ·cases ch
 |[],_::_,_,_,_,_,h,_,_=>by simp [wm]at h
 |_::_,[],_,_,_,_,h,_,_=>by simp [wm]at h
def wo:∀{l:List Oper} {m:List eM},m.length=l.length→∀(j:Nat),((lS l m)[j]?).map (·.1)=l[j]? ∧ ((lS l m)[j]?).map (·.2)=m[j]?
 |[],[],_,j=>by simp [lS]
 |o::l,E::m,h,j=>by
  cases j with
  |zero=>simp [lS]
  |succ j=>simpa [lS]using wo (by simpa using h) j
 |[],_::_,h,_=>by simp at h
 |_::_,[],h,_=>by simp at h
def O7:∀{l:List Oper} {m:List eM},m.length=l.length→(lS l m).length=l.length
 |[],[],_=>rfl
 |_::l,_::m,h=>by simp [lS,O7 (l:=l) (m:=m) (by simpa using h)]
 |[],_::_,h=>by simp at h
 |_::_,[],h=>by simp at h
end
section
variable {P:Program} {N E:Nat} {st:aK} {tt:dS}
def Alike.bC{K:Ctx}{M:Mem}{β:Nat→Option Nat}{g1 g2:dt}{tmps:Array Value}{w:World}(ha:Alike g1 g2)(h:bR P K M β {env:=g1.env,H:=g1.H,a1:=g1.a1} tmps w):bR P K M β {env:=g2.env,H:=g2.H,a1:=g2.a1} tmps w:=by
 have fr:∀l,({env:=g2.env,H:=g2.H,a1:=g2.a1}:aK).at l=({env:=g1.env,H:=g1.H,a1:=g1.a1}:aK).at l:=by
  intro l;cases l with
  |slot s=>exact(ha.slot s).1.symm
  |cell r i=>simp only [aK.at];rw [←ha.box r]
 have hb:∀r,look g2.H r=look g1.H r:=λr=>(ha.box r).symm
 constructor
 ·intro l e ae;rw [fr]at ae;exact h.fb l e ae
 ·intro l e T ae;rw [fr]at ae;exact h.own l e T ae
 ·intro l cR e a7 T T' b ae aT cZ;rw [fr]at ae cZ;exact h.uniq l cR e a7 T T' b ae aT cZ
 ·intro l e T b r cs ae aT nr ah;rw [fr]at ae;exact h.unbox l e T b r cs ae aT nr (by rw [←hb r];exact ah)
 ·intro r cs ah;exact h.box r cs (by rw [←hb r];exact ah)
 ·intro r cT b cs cs' ah fj;exact h.inj r cT b cs cs' (by rw [←hb r];exact ah) (by rw [←hb cT];exact fj)
 ·intro r b ah;exact(by have:=h.lt r b ah;simpa [ha.a1]using this)
 ·exact h.mem
 ·exact h.m0
 ·exact h.frame
 ·exact h.iH
 ·exact h.jq
 ·exact h.h1
def bR.drew{K:Ctx}{M:Mem}{β:Nat→Option Nat}{tmps:Array Value}{w:World}(h:bR P K M β st tmps w)(k:Nat):bR P K M β st tmps {w with drawn:=k}:=
 ⟨h.fb,h.own,h.uniq,h.unbox,h.box,h.inj,h.lt,h.mem,h.m0,h.frame,h.iH,h.jq,h.h1⟩
end
def ba.scope{P:Program}{N E:Nat}{c:Code}{Q:cr→aK→Prop}{st:aK}(h:ba P N E c Q st):ba P N E (.scope c) Q st:=by
 intro K et a w hs;refine wp_scope_straight (wp_mono (h K et a w hs) ?_)
 rintro e dO w' ⟨fI,b',Z,ad⟩
 cases fI with
 |normal=>obtain⟨rfl,am⟩:=Z;exact⟨.normal,b',⟨rfl,am⟩,ad⟩
 |exit i=>obtain⟨rfl,am⟩:=Z;exact⟨.exit i,b',⟨rfl,am⟩,ad⟩
 |ret=>obtain⟨rfl,am⟩:=Z;exact⟨.ret,b',⟨rfl,am⟩,ad⟩
 |bj x=>obtain⟨v,rfl,am⟩:=Z;exact⟨.bj x,b',⟨v,rfl,am⟩,ad⟩
def iB.on{α β ec:Type}(x:α ⊕ β)(f:α→ec)(g:β→ec):ec:=
 match x with
 |.inl a=>f a
 |.inr b=>g b
def HL.on{α β ec:Type}(x:α×β)(f:α→β→ec):ec:=f x.1 x.2
def HM(P:Program)(w:World):Prop:=(∀g,g∈Nt P→∃fU,w.cell? ⟨g,0,none⟩=some fU∧(fU = .nilIface∨∃cA sn,fU = .iface cA sn))∧
 ∀ g, P.globalNamed "internal/strconv.uint64pow10" = some g → ∃ t lf, w.heap[g]? = some (.cells Nu t lf)
section
variable {P:Program}
def bR.aix{K:Ctx}{M:Mem}{β:Nat→Option Nat}{st:aK}{tmps:Array Value}{w:World}(h:bR P K M β st tmps w):HM P w:=⟨λg hg=>by
 obtain⟨cs,t,lf,fU,Z,ad,am⟩:=h.jq.1 g hg;refine⟨fU,?_,am⟩
 have:=(h.frame g _ Z).1
 unfold World.cell?;rw [this];exact ad,λg hg=>by
 obtain⟨t,lf,Z⟩:=h.jq.2 g hg;exact⟨t,lf,(h.frame g _ Z).1⟩⟩
def Yv {f : FuncId} {args : List D} {vsOf : World → List Value → Prop} {d : D} {fd : Func} (kz : P.funcs[f]? = some fd) (hb : fd.body.isSome = true) (hn : decide (fd.name = "runtime.NumGoroutine") = false)
 (fc:∀(w:World) (M:Mem) (β:Nat→Option Nat) (vs:List Value),(∀b o v,M b o=some v→w.cell? ⟨b,o,none⟩=some v)→vs.length=args.length→(∀(i:Nat) v a,vs[i]? = some v→args[i]? = some a→cE M β v a)→vsOf w vs)
 (wa:∀(vs:List Value) (w:World),vsOf w vs→HM P w→Calls P f ⟨vs⟩ w λe w'=>∃v,e = .returned v∧(∀M β,cE M β v d)∧(∀(b:Nat) (bc:Obj),w.heap[b]? = some bc→w'.heap[b]? = some bc)∧(w'.os,w'.output)=(w.os,w.output)):
 gj P f args [] [] (.ret d none) []:=by
 refine⟨⟨fd,kz,hb,by simpa using hn⟩,λK w vs M β hlen hs hL=>?_⟩
 have ao:vsOf w vs:=fc w M β vs hs.mem hlen λi v a hi ha=>by
  have Z:=hs.fb (.slot i) ⟨a,none⟩ (by
   simp only [aK.at,h5,nv,Cp,ha,Option.map_some,look])
  have ad:cn (⟨vs⟩:Array Value) w β (.slot i)=v:=by
   simp [cn,hi]
  rw [ad]at Z;exact Z
 refine(wa vs w ao hs.aix).mono ?_
 rintro e w' ⟨v,rfl,f9,q8,o7⟩
 refine⟨.ret d none,[],v,M,β,⟨rfl,rfl⟩,rfl,?_⟩
 have iA:∀b o v,w.cell? ⟨b,o,none⟩=some v→w'.cell? ⟨b,o,none⟩=some v:=by
  intro b o v h;unfold World.cell? at h ⊢;cases hb:w.heap[b]? with
  |none=>simp [hb]at h
  |some bc=>rw [q8 b bc hb];rw [hb]at h;exact h
 constructor
 ·intro l e ae;cases l with
  |slot s=>
   simp only [aK.at,ij,dN]at ae;split at ae
   ·rename_i h0;subst h0;cases ae;exact f9 M β
   ·simp [look]at ae
  |cell r i=>simp [aK.at,da,look]at ae
 ·intro l e T ae aT;cases l with
  |slot s=>
   simp only [aK.at,ij,dN]at ae;split at ae
   ·cases ae;cases aT
   ·simp [look]at ae
  |cell r i=>simp [aK.at,da,look]at ae
 ·intro l cR e a7 T T' b ae aT;cases l with
  |slot s=>
   simp only [aK.at,ij,dN]at ae;split at ae
   ·cases ae;cases aT
   ·simp [look]at ae
  |cell r i=>simp [aK.at,da,look]at ae
 ·intro l e T b r cs ae aT hb ah;simp [da,look]at ah
 ·intro r cs ah;simp [da,look]at ah
 ·intro r cT b cs cs' ah;simp [da,look]at ah
 ·exact hs.lt
 ·exact λb o v h=>iA b o v (hs.mem b o v h)
 ·exact hs.m0
 ·exact λb bc h=>⟨q8 b bc (hs.frame b bc h).1,(hs.frame b bc h).2⟩
 ·exact hs.iH
 ·exact hs.jq
 ·exact o7.trans hs.h1
def wq {f : FuncId} {args : List D} {vsOf : List Value → Prop} {d : D} {fd : Func} (kz : P.funcs[f]? = some fd) (hb : fd.body.isSome = true) (hn : decide (fd.name = "runtime.NumGoroutine") = false)
 (fc:∀(M:Mem) (β:Nat→Option Nat) (vs:List Value),vs.length=args.length→(∀(i:Nat) v a,vs[i]? = some v→args[i]? = some a→cE M β v a)→vsOf vs)
 (wa:∀(vs:List Value) (w:World),vsOf vs→HM P w→Calls P f ⟨vs⟩ w λe w'=>∃v,e = .returned v∧(∀M β,cE M β v d)∧(∀(b:Nat) (bc:Obj),w.heap[b]? = some bc→w'.heap[b]? = some bc)∧(w'.os,w'.output)=(w.os,w.output)):
 gj P f args [] [] (.ret d none) []:=
 Yv (vsOf:=λ_ vs=>vsOf vs) kz hb hn (λ_ M β vs _=>fc M β vs) wa
end
def wu(cx:gJ)(tt:dS)(N:Nat)(ops:List Oper)(rs:List fw)(st:aK):Option Fin:=
 match tM cx tt N ops ops {env:=st.env,ca:=[],H:=st.H,a1:=st.a1,rs,bc:=[]} with
 |some (.go g)=>match g.rs with
  |[]=>some (.go {env:=g.env,H:=g.H,a1:=g.a1} g.bc)
  |_=>none
 |some (.bj x st bc)=>some (.bj x st bc)
 |none=>none
def wv:List Oper→Nat→List (Nat×Nat)
 |[],_=>[]
 |o::l,n=>match ro o,o.dst with
  |true,some t=>(t,n)::wv l (n+1)
  |_,_=>wv l n
def HN(ops:List Oper)(st:aK):dt:=
 {env:=st.env,ca:=[],H:=st.H,a1:=st.a1+(wv ops st.a1).length,rs:=[],bc:=[],ids:=wv ops st.a1}
def HO(cx:gJ)(tt:dS)(N:Nat)(ops:List Oper)(ke:List (List fw))(st:aK):Option Fin:=
 match wm cx tt ops ops ke (HN ops st) with
 |some (cU,g,bc)=>bif HJ N ops cU then some (.go {env:=g.env,H:=g.H,a1:=g.a1} bc)else none
 |none=>none
def hv:Option Fin→aK
 |some (.go st _)=>st
 |some (.bj _ st _)=>st
 |none=>{env:=[],H:=[],a1:=0}
def jf:Option Fin→Option (List Prop)
 |some (.go _ bc)=>some bc
 |_=>none
def O8:Option Fin→Option (V×List Prop)
 |some (.bj x _ bc)=>some (x,bc)
 |_=>none
def spread:Nat→Nat→List (Nat×List fw)→List (List fw)
 | 0,_,_=>[]
 |n+1,i,l=>(look l i).getD []::spread n (i+1) l
def HP:∀(l:List Oper) (n:Nat) (x:Nat×Nat),x∈wv l n→n≤x.2∧True
 |[],n,x,h=>by simp [wv]at h
 |o::l,n,x,h=>by
  unfold wv at h;split at h
  ·rcases List.mem_cons.1 h with h|h
   ·subst h;exact⟨Nat.le_refl _,trivial⟩
   ·have:=(HP l (n+1) x h).1;exact⟨by omega,trivial⟩
  ·exact HP l n x h
def bR.up{P:Program}{K:Ctx}{M:Mem}{β:Nat→Option Nat}{st:aK}{tmps:Array Value}{w:World}(h:bR P K M β st tmps w)(k:Nat):bR P K M β {env:=st.env,H:=st.H,a1:=st.a1+k} tmps w:=
 ⟨h.fb,h.own,h.uniq,h.unbox,h.box,h.inj,(λr b hb=>Nat.lt_of_lt_of_le (h.lt r b hb) (Nat.le_add_right _ _)),h.mem,h.m0,h.frame,h.iH,h.jq,h.h1⟩
section
variable {P:Program} {N E:Nat} {st:aK} {tt:dS}
def ba.rg{id:Nat}{opsA:Array Oper}{Q:cr→aK→Prop}(co:fl P tt=true)(rs:List fw){cS:List Prop}(ah:jf (wu (hT P) tt N opsA.toList rs st)=some cS)(cH:lp cS)
 (dT:Q .normal (hv (wu (hT P) tt N opsA.toList rs st))):ba P N E (.region id opsA false) Q st:=by
 rintro K et a w ⟨_,hd,eC,M,β,c'⟩
 obtain⟨tmps,ds⟩:=a;simp only at hd eC
 subst hd;have qm:fO P K N M β {env:=st.env,ca:=[],H:=st.H,a1:=st.a1,rs:=rs,bc:=[]} tmps w:=⟨c',eC,(λ_ _ h=>by simp [look]at h),λ_ _ _ h=>by simp [look]at h⟩
 refine wp_region ?_;unfold wu at ah dT;have hlen:List.range opsA.size=List.range' 0 opsA.toList.length:=by rw [List.range_eq_range'];simp
 rw [hlen];split at ah
 ·rename_i g eX;split at ah
  case h_2=>cases ah
  rename_i eV;simp only [jf,Option.some.injEq]at ah;subst ah;rw [eX]at dT;simp only [eV,hv]at dT;refine OQ co rfl (fin:=.go g) cH.mem ?_ opsA.toList 0 _ tmps w M β (λj=>by simp) qm eX
  intro eB w' M' β' cO;exact⟨.normal,_,⟨rfl,rfl,cO.size,M',β',cO.bC⟩,dT⟩
 ·cases ah
 ·cases ah
def ba.O9{id:Nat}{opsA:Array Oper}{Q:cr→aK→Prop}(co:fl P tt=true)(rs:List fw){x:V}{cS:List Prop}(ah:O8 (wu (hT P) tt N opsA.toList rs st)=some (x,cS))(cH:lp cS)
 (dT:Q (.bj x) (hv (wu (hT P) tt N opsA.toList rs st))):ba P N E (.region id opsA false) Q st:=by
 rintro K et a w ⟨_,hd,eC,M,β,c'⟩
 obtain⟨tmps,ds⟩:=a;simp only at hd eC
 subst hd;have qm:fO P K N M β {env:=st.env,ca:=[],H:=st.H,a1:=st.a1,rs:=rs,bc:=[]} tmps w:=⟨c',eC,(λ_ _ h=>by simp [look]at h),λ_ _ _ h=>by simp [look]at h⟩
 refine wp_region ?_;unfold wu at ah dT;have hlen:List.range opsA.size=List.range' 0 opsA.toList.length:=by rw [List.range_eq_range'];simp
 rw [hlen];split at ah
 ·split at ah<;>cases ah
 ·rename_i y b' bc eX;simp only [O8,Option.some.injEq,Prod.mk.injEq]at ah;obtain⟨rfl,rfl⟩:=ah;rw [eX]at dT;refine OQ co rfl (fin:=.bj y b' bc) cH.mem ?_ opsA.toList 0 _ tmps w M β (λj=>by simp) qm eX
  intro e dO w' cO;exact⟨.bj y,_,cO,dT⟩
 ·cases ah
def ba.HQ{id:Nat}{opsA:Array Oper}{Q:cr→aK→Prop}(co:fl P tt=true)(hm:P.follows .mixedOrders=true)(ke:List (Nat×List fw)){cS:List Prop}(ah:jf (HO (hT P) tt N opsA.toList (spread opsA.toList.length 0 ke) st)=some cS)(cH:lp cS)
 (dT:Q .normal (hv (HO (hT P) tt N opsA.toList (spread opsA.toList.length 0 ke) st))):ba P N E (.region id opsA true) Q st:=by
 rintro K et a w ⟨_,hd,eC,M,β,c'⟩
 obtain⟨tmps,ds⟩:=a;simp only at hd eC
 subst hd;refine wp_region_any hm ?_;unfold HO at ah dT;split at ah
 case h_2=>cases ah
 rename_i cU g ub eX;rw [eX]at dT
 dsimp only at dT
 rw [Bool.cond_eq_ite]at ah dT;split at ah
 case isFalse=>cases ah
 rename_i hc;rw [if_pos hc]at dT;simp only [jf,Option.some.injEq]at ah;subst ah;simp only [hv]at dT;obtain⟨hlen,kB,O'⟩:=Yu (Fi:=λg1=>Alike g g1) eX cH.mem Alike.refl
 simp only [HJ,Bool.and_eq_true]at hc;obtain⟨⟨⟨c1,c2⟩,c3⟩,c4⟩:=hc
 have ew:∀(i:Nat) o E,opsA[i]? = some o→cU[i]? = some E→iK opsA.toList o E=true:=by
  intro i o E aq ch;obtain⟨ll,z2⟩:=wo hlen i;have lh:opsA.toList[i]? = some o:=by simpa using aq
  rw [lh]at ll;rw [ch]at z2;cases dG:(lS opsA.toList cU)[i]? with
  |none=>rw [dG]at ll;simp at ll
  |some x=>
   rw [dG]at ll z2;simp at ll z2
   subst ll;subst z2;exact List.all_eq_true.1 c1 x (List.mem_of_getElem? dG)
 have aQ:∀(i:Nat) E,cU[i]? = some E→rq N E=true:=λi E ch=>List.all_eq_true.1 c2 E (List.mem_of_getElem? ch)
 have CP:ov opsA (Array.replicate opsA.size false):=λj o aq hj=>by have b2:j<opsA.size:=(Array.getElem?_eq_some_iff.1 aq).1;simp [Array.getD_eq_getD_getElem?,b2]at hj
 have CQ:=jL.text ew (λg1 g2 gx Z=>Alike.trans Z gx) (lS opsA.toList cU) 0 (Array.replicate opsA.size false) _ (λj=>by have:=(wo hlen j).1;simpa using this) (λj=>by have:=(wo hlen j).2;simpa using this)
  ⟨by simp,λj hj=>by simp [hj]⟩ CP c4 O'
 have vM:(lS opsA.toList cU).length=opsA.size:=by rw [O7 hlen];simp
 rw [vM]at CQ;refine jL.sound (K:=K) co (λi E ch=>kB E (List.mem_of_getElem? ch)) ew aQ c3 ?_ _ _ _ tmps _ M β CQ (by simp) CP (λx hx=>by cases hx) ⟨(c'.drew _).up _,eC,(λs id h _ b hb=>by have Z:=c'.lt _ _ hb;have ad:=(HP _ _ _ (sr h)).1;simp only at ad;omega),λ_ _ _ h=>by simp [HN,look]at h⟩
 intro g1 eB w' M' β' aiy cO;exact⟨.normal,_,⟨rfl,rfl,cO.size,M',β',Alike.bC aiy.symm cO.bC⟩,dT⟩
def ba.O_{α:Type}{b:Bool}{x y:Option α}{r:Option α}(h:(bif b then x else y)=r){c:Nat}{ww wx:Code}{Q:cr→aK→Prop}(hc:(look st.env c).map (·.d)=some (.v (.bool b)))
 (ax:x=r→ba P N E ww Q st) (cc:y=r→ba P N E wx Q st):ba P N E (.cond (.tmp c) ww wx) Q st:=by
 simp only [Option.map_eq_some_iff]at hc;obtain⟨⟨d,own⟩,he,rfl⟩:=hc;exact ba.cond b own he (λhb=>ax (by subst hb;exact h)) (λhb=>cc (by subst hb;exact h))
def ba.Yw{c:Nat}{ww wx:Code}{Q:cr→aK→Prop}(hc:(look st.env c).map (·.d)=some (.v (.bool true)))(ax:ba P N E ww Q st):ba P N E (.cond (.tmp c) ww wx) Q st:=by
 simp only [Option.map_eq_some_iff]at hc;obtain⟨⟨d,own⟩,he,rfl⟩:=hc;exact ba.cond true own he (λ_=>ax) (λhb=>by cases hb)
def ba.Pa{c:Nat}{ww wx:Code}{Q:cr→aK→Prop}(hc:(look st.env c).map (·.d)=some (.v (.bool false)))(cc:ba P N E wx Q st):ba P N E (.cond (.tmp c) ww wx) Q st:=by
 simp only [Option.map_eq_some_iff]at hc;obtain⟨⟨d,own⟩,he,rfl⟩:=hc;exact ba.cond false own he (λhb=>by cases hb) (λ_=>cc)
end
def bY{P:Program}{f:FuncId}{args:List D}{eb:List (Nat×TypeId)}{H cm:List (List aZ)}{out:Out}(_:gj P f args eb H out cm)(os:List Nat):fw:=.call out (some cm) os
def bl{P:Program}{f:FuncId}{args:List D}{eb:List (Nat×TypeId)}{H cm:List (List aZ)}{out:Out}(_:gj P f args eb H out cm)(os:List Nat):fw:=.call out none os
def dW{c:Prop}{P:Program}{f:FuncId}{args:List D}{eb:List (Nat×TypeId)}{H cm:List (List aZ)}{out:Out}(_:c→gj P f args eb H out cm):fw:=.call out none []
def y1{c c2:Prop}{P:Program}{f:FuncId}{args:List D}{eb:List (Nat×TypeId)}{H cm:List (List aZ)}{out:Out}(_:c→c2→gj P f args eb H out cm):fw:=.call out none []
def hG{raw x:V}(_:hK raw x):fw:=.val x
def de{α:Type}[Inhabited α]{k:Nat}{e:α→V}(l:List α):hK (.bT k l.length λi=>(l.map e).getD i .gW) (ag k e l):=aia rfl _ rfl
def nz(l:List Int):Bool:=l.all λx=>decide (0≤x)&&decide (x<256)
def kf(l:List Int):auJ:=l.map λx=>UInt8.ofNat x.toNat
def CR{l:List Int}(h:nz l=true):(kf l).length=l.length∧∀i,i<l.length→V.int .u8 (l.getD i default) = .int .u8 (((kf l).getD i 0).toNat:Int):=by
 refine⟨by simp [kf],λi hi=>?_⟩
 unfold nz at h;rw [List.all_eq_true]at h;have:=h l[i] (List.getElem_mem hi)
 simp only [Bool.and_eq_true,decide_eq_true_eq]at this;simp only [kf,List.getD,List.getElem?_map,List.getElem?_eq_getElem hi,Option.getD_some,Option.map_some,UInt8.toNat_ofNat'];rw [Nat.mod_eq_of_lt (by omega)]
 congr 1
 omega
def CS(T:TypeId):V→Option (Int×Int)
 |.iface t (.agg [.int .i64 a,.int .i64 b])=>bif Nat.beq t T then some (a,b)else none
 |_=>none
def Yx{T:TypeId}{x:V}{r:Int×Int}(h:CS T x=some r):x = .iface T (.agg [.int .i64 r.1,.int .i64 r.2]):=by
 unfold CS at h;split at h
 ·rw [Bool.cond_eq_ite]at h;split at h
  ·rename_i hb;cases h;rw [Nat.beq_eq]at hb;subst hb;rfl
  ·cases h
 ·cases h
def wy(M:Mem):Option V→FrameMode→Prop
 |none,m=>m = .returning
 |some x,m=>∃v,m = .panicking [{v,recovered:=false}]∧dw M v x
def uj(P:Program)(fd:FuncId)(args:List D)(H:List (List aZ))(x:Option V)(R:List (List aZ)→Prop):Prop:=
 ∀(K:Ctx) (w:World) (vs:List Value) (M:Mem) (β:Nat→Option Nat) (mode:FrameMode),vs.length=args.length→
  bR P K M β {env:=h5 args [],H:=da 0 H,a1:=H.length} ⟨vs⟩ w→(∀r b,β r=some b→K.j' r=some b)→wy M x mode→
  CallsD P fd ⟨vs⟩ mode w λe nA w'=>∃v H' M' β',e = .returned v∧settle nA = .returning∧R H'∧bR P K M' β' {env:=ij (.ret (.bU []) none),H:=da 0 H',a1:=H.length} #[v] w'
section
variable {P:Program} {K:Ctx} {M:Mem} {β:Nat→Option Nat} {st:aK} {tmps:Array Value} {w:World} {tt:dS}
def wy.aiz{x:Option V}{m:FrameMode}(h:wy M x m):m ≠ .run:=by
 cases x with
 |none=>intro hm;rw [hm]at h;cases h
 |some x=>obtain⟨v,Z,_⟩:=h;intro hm;rw [hm]at Z;cases Z
def wy.mono{M':Mem}(db:M.le M'){x:Option V}{m:FrameMode}(h:wy M x m):wy M' x m:=by
 cases x with
 |none=>exact h
 |some x=>obtain⟨v,Z,ad⟩:=h;exact⟨v,Z,ad.mono db⟩
def rr(P:Program)(tt:dS)(E:Nat)(rs:List ResultVar)(fd:FuncId)(ds:List D)(R:Out→List (List aZ)→Prop)(x:Option V)(st:aK):Prop:=
 ∃(ρ:List Nat) (bs H1:List (List aZ)) (jZ:List D) (Pb:List (List aZ)→Prop),nn ρ=true∧boxes st.H ρ=some bs∧kt (idx ρ) bs=some H1∧lH (idx ρ) ds=some jZ∧uj P fd jZ H1 x Pb∧
  ∀cm,Pb cm→∃i' o H',cm.length=ρ.length∧kt (λj=>ρ[j]?) cm=some i'∧Ab.leave tt E rs {env:=st.env,H:=lI ρ i'++st.H,a1:=st.a1}=some (o,H')∧R o (oo H')
def Pc{fn:Func}{E:Nat}(co:fl P tt=true)(et:∀r b,K.j' r=some b→r<E)(hs:bR P K M β st tmps w){fd:FuncId}{ds:List D}{vs:List Value}(hlen:vs.length=ds.length)(ao:∀(i:Nat) v d,vs[i]? = some v→ds[i]? = some d→cE M β v d)
 {x : Option V} {mode : FrameMode} (hm : wy M x mode) {f : Func} (cc : P.funcs[fd]? = some f) (hb : f.body.isSome = true) (kc : decide (f.name = "runtime.NumGoroutine") = false) {R : Out → List (List aZ) → Prop} (ln : rr P tt E fn.results.toList fd ds R x st) :
 Leaves P fn tmps (λe w'=>∃o H' v M' β',R o H'∧e=re o v∧bR P K M' β' {env:=ij o,H:=da 0 H',a1:=E} #[v] w') [{target:=.fn (.func fd) ⟨vs⟩,args := #[]}] mode w:=by
 obtain⟨ρ,bs,H1,jZ,Pb,hn,lj,mB,fc,hd,yW⟩:=ln;have rl:f.body≠none:=by intro bB;rw [bB]at hb;cases hb
 have CT : f.name ≠ "runtime.NumGoroutine" := by simpa using kc
 refine leaves_cons (f:=fd) (args:=⟨vs⟩) hm.aiz (by simp [invoke,callFunc,cc,rl,CT]) ?_
 have hc:=Xf (hd:=[]) hs hn lj mB hlen ao fc ⟨by simp,by simp,by simp⟩
 have e7:H1.length=ρ.length:=by rw [(yJ mB).1,(vN lj).1]
 refine(hd (kW M β st tmps w ρ []) w vs M _ mode (by rw [hlen,XH fc]) hc (λr b h=>h) hm).mono ?_
 rintro e nA w' ⟨v,H',M',β',rfl,hu,aiA,c'⟩
 obtain⟨i',o,Yy,Z,ad,am,aR⟩:=yW H' aiA;rw [e7]at c';obtain⟨db,Pd,_,_⟩:=Oj hs hn lj ad Z c'
 dsimp only
 rw [hu];obtain⟨v2,bv,jH,M2,sI,cz,eG⟩:=Hr co et Pd am;exact⟨v2,bv,o,oo Yy,jH,M2,sI,aR,cz,eG.era⟩
def qn(P:Program)(_tt:dS)(fn:Func)(E:Nat)(c:Code)(R:Out→List (List aZ)→Prop)(st:aK):Prop:=
 ∀(K:Ctx),K.ds=[]→(∀r b,K.j' r=some b→r<E)→∀(a:Act) (w:World),rm P K fn.ntmps .normal st .normal a w→
  c.wp P (bodyPostD P fn λe w'=>∃o H' v M' β',R o H'∧e=re o v∧bR P K M' β' {env:=ij o,H:=da 0 H',a1:=E} #[v] w') a w
def Pe(P:Program)(tt:dS)(fn:Func)(E:Nat)(y:Code)(R:Out→List (List aZ)→Prop):cr→aK→Prop
 |.normal,st=>qn P tt fn E y R st
 |.ret,st=>∃o H',Ab.leave tt E fn.results.toList st=some (o,H')∧R o (oo H')
 |_,_=>False
def qn.seq{fn:Func}{E:Nat}{x y:Code}{R:Out→List (List aZ)→Prop}(co:fl P tt=true)(h:ba P fn.ntmps E x (Pe P tt fn E y R) st):qn P tt fn E (.seq x y) R st:=by
 intro K ik et a w hs;refine wp_seq (wp_mono (h K et a w hs) ?_)
 rintro e dO w' ⟨fI,b',Z,ad⟩
 cases fI with
 |normal=>obtain⟨rfl,am⟩:=Z;exact ad K ik et dO w' ⟨rfl,am⟩
 |ret=>
  obtain⟨rfl,hd,_,M',β',c'⟩:=Z;obtain⟨o,H',am,aR⟩:=ad;obtain⟨v,bv,jH,M2,sI,cz,eG⟩:=Hr co et c' am;show Leaves P fn dO.tmps _ dO.defers .returning w'
  rw [hd,ik];exact⟨v,bv,o,oo H',jH,M2,sI,aR,cz,eG.era⟩
 |exit i=>exact ad.elim
 |bj x=>exact ad.elim
def Pf(P:Program)(tt:dS)(E:Nat)(rs:List ResultVar)(fd:FuncId)(ds:List D)(R:Out→List (List aZ)→Prop):cr→aK→Prop
 |.normal,st |.ret,st=>rr P tt E rs fd ds R none st
 |.bj x,st=>rr P tt E rs fd ds R (some x) st
 |.exit _,_=>False
def qn.defer{fn:Func}{E:Nat}{id:Nat}{opsA:Array Oper}{c8 h6:Oper}{y:Code}{R:Out→List (List aZ)→Prop}(co:fl P tt=true)(nw:opsA = #[c8,h6]){t:Nat}{fd:FuncId}{fq:Array Operand}{c:Call}
 (Z:c8.op = .makeFunc (.func fd) #[] fq) (ad:c8.dst=some t) (am:c8.guard=none) (aR:h6.op = .defer c) (bv:h6.dst=none) (cz:h6.guard=none) (eG:c.callee = .value (.tmp t)) (eD:c.args = #[]) (ax:Nat.blt t fn.ntmps=true)
 {ds : List D} (aiB : mapM' (rd st.env [] [] tt 0) fq.toList = some ds) (_hE : Nat.ble E st.a1 = true) {f : Func} (cc : P.funcs[fd]? = some f) (hb : f.body.isSome = true) (kc : decide (f.name = "runtime.NumGoroutine") = false)
 (ik:vp st.a1 ds=true)
 (h:ba P fn.ntmps st.a1 y (Pf P tt E fn.results.toList fd ds R) {env:=del st.env t,H:=st.H,a1:=st.a1}):qn P tt fn E (.seq (.region id opsA false) y) R st:=by
 rintro K aiC et a w ⟨_,hd,eC,M,β,c'⟩
 obtain⟨tmps,defers⟩:=a;simp only at hd eC
 rw [aiC]at hd;subst hd;have b2:t<tmps.size:=by rw [eC];simpa using ax
 -- lN captured values
 obtain⟨e7,eQ⟩:=tR aiB;have qm:fO P K fn.ntmps M β {env:=st.env,ca:=[],H:=st.H,a1:=st.a1,rs:=[],bc:=[]} tmps w:=⟨c',eC,(λ_ _ h=>by simp [look]at h),λ_ _ _ h=>by simp [look]at h⟩
 have nu:∀(i:Nat) v d,(fq.toList.map (⟨tmps,[]⟩:Act).eval)[i]? = some v→ds[i]? = some d→cE M β v d:=by
  intro i v d ao hd;rw [List.getElem?_map,Option.map_eq_some_iff]at ao;obtain⟨x,hx,rfl⟩:=ao;exact er (ds:=[]) (p:=[]) qm (λx hx=>by cases hx) (eQ i x d hx hd)
 have hlen:(fq.toList.map (⟨tmps,[]⟩:Act).eval).length=ds.length:=by simp at e7 ⊢;omega
 -- lN frame behind lN region
 have qo:bR P K M β {env:=del st.env t,H:=st.H,a1:=st.a1} (tmps.setIfInBounds t (.func (.func fd) #[] ⟨fq.toList.map (⟨tmps,[]⟩:Act).eval⟩)) w:=c'.drop
 let ru:Ctx:={vr:=M,F:=K.F,j':=λr=>if r<st.a1 then β r else none,h1:=K.h1,ds:=[{target:=.fn (.func fd) ⟨fq.toList.map (⟨tmps,[]⟩:Act).eval⟩,args := #[]}]}
 have Pd:bR P ru M β {env:=del st.env t,H:=st.H,a1:=st.a1} (tmps.setIfInBounds t (.func (.func fd) #[] ⟨fq.toList.map (⟨tmps,[]⟩:Act).eval⟩)) w:=
  ⟨qo.fb,qo.own,qo.uniq,qo.unbox,qo.box,qo.inj,qo.lt,qo.mem,Mem.le_refl _,(λb bc dV=>⟨(qo.frame b bc dV).1,λ_=>rfl⟩),(λr b hb=>by
   simp only [ru]at hb;split at hb
   ·exact hb
   ·cases hb),qo.jq,qo.h1⟩
 have Pg:∀{M':Mem} {β':Nat→Option Nat} {b':aK} {eB:Array Value} {w':World},bR P ru M' β' b' eB w'→bR P K M' β' b' eB w':=by
  intro M' β' b' eB w' cO
  exact⟨cO.fb,cO.own,cO.uniq,cO.unbox,cO.box,cO.inj,cO.lt,cO.mem,Mem.le_trans c'.m0 cO.m0,(λb bc dV=>⟨(cO.frame b bc dV).1,λo=>((cO.frame b bc dV).2 o).trans ((c'.frame b bc dV).2 o)⟩),(λr b hb=>cO.iH r b (by
   have iI:=c'.iH r b hb;have lr:=c'.lt r b iI;simp only [ru];rw [if_pos lr];exact iI)),cO.jq,cO.h1⟩
 have hL:∀{M':Mem} {β':Nat→Option Nat} {b':aK} {eB:Array Value} {w':World},bR P ru M' β' b' eB w'→∀r,r<st.a1→∀b,β r=some b→β' r=some b:=λcO r ah b hb=>cO.iH r b (by simp only [ru];rw [if_pos ah];exact hb)
 refine wp_seq (wp_region ?_);subst nw
 have e1:(execOp (Act.eval ⟨tmps,[]⟩) c8).run P w = .ok (.value (.func (.func fd) #[] ⟨fq.toList.map (⟨tmps,[]⟩:Act).eval⟩)) w:=by
  simp only [execOp,Z,Instr.makeFunc];refine js _ ?_;simp
  congr 1
  apply Array.ext';simp
 have e2:(execOp (Act.eval ⟨tmps.setIfInBounds t (.func (.func fd) #[] ⟨fq.toList.map (⟨tmps,[]⟩:Act).eval⟩),[]⟩) h6).run P w = .ok (.defer {target:=.fn (.func fd) ⟨fq.toList.map (⟨tmps,[]⟩:Act).eval⟩,args := #[]}) w:=by
  simp [execOp,aR,resolve,eG,eD,Deferred.ofValue,Act.eval,b2]
 show wpOps P #[c8,h6] _ (List.range 2) ⟨tmps,[]⟩ w
 simp only [List.range,List.range.loop,wpOps];have HR:∀kZ,Region.wanted c8 (yielded #[c8,h6] kZ)=true:=λkZ=>by simp [Region.wanted,am]
 have HS:∀kZ,Region.wanted h6 (yielded #[c8,h6] kZ)=true:=λkZ=>by simp [Region.wanted,cz]
 simp only [show(#[c8,h6]:Array Oper)[0]? = some c8 from rfl,show(#[c8,h6]:Array Oper)[1]? = some h6 from rfl,HR,HS,if_true]
 refine .inl ?_;unfold Oper.wp;rw [e1,Oper.upon_value,ad];refine .inl ?_;have aiD:(execOp ((⟨tmps,[]⟩:Act).put (some t) (.func (.func fd) #[] ⟨fq.toList.map (⟨tmps,[]⟩:Act).eval⟩)).eval h6).run P w = .ok (.defer {target:=.fn (.func fd) ⟨fq.toList.map (⟨tmps,[]⟩:Act).eval⟩,args := #[]}) w:=e2;rw [aiD,Oper.upon_defer,bv];show y.wp P _ ⟨tmps.setIfInBounds t _,[_]⟩ w
 have sH:∀r b,ru.j' r=some b→r<st.a1:=by
  intro r b hb;simp only [ru]at hb;split at hb
  ·assumption
  ·cases hb
 refine wp_mono (h ru sH _ w ⟨rfl,rfl,by simpa using eC,M,β,Pd⟩) ?_
 rintro e dO w' ⟨fI,b',g1,g2⟩
 have pd:∀{M':Mem} {β':Nat→Option Nat} {b':aK} {eB:Array Value} {w':World},bR P ru M' β' b' eB w'→∀(i:Nat) v d,(fq.toList.map (⟨tmps,[]⟩:Act).eval)[i]? = some v→ds[i]? = some d→cE M' β' v d:=by
  intro M' β' b' eB w' cO i v d ao hd;have db:M.le M':=cO.m0;exact((nu i v d ao hd).mono db).afL (λr ah b hb=>hL cO r ah b hb) (tN ik hd)
 cases fI with
 |normal=>
  obtain⟨rfl,hd,_,M',β',hs⟩:=g1;show Leaves P fn dO.tmps _ dO.defers .returning w'
  rw [hd];exact Pc co et (Pg hs) hlen (pd hs) (x:=none) rfl cc hb kc g2
 |ret=>
  obtain⟨rfl,hd,_,M',β',hs⟩:=g1;show Leaves P fn dO.tmps _ dO.defers .returning w'
  rw [hd];exact Pc co et (Pg hs) hlen (pd hs) (x:=none) rfl cc hb kc g2
 |exit i=>exact g2.elim
 |bj x=>
  obtain⟨v,rfl,hd,M',β',f9,hs⟩:=g1;show Leaves P fn dO.tmps _ dO.defers (.panicking _) w'
  rw [hd];exact Pc co et (Pg hs) hlen (pd hs) (x:=some x) ⟨v,rfl,f9⟩ cc hb kc g2
def rf.aiE {f : FuncId} {fn : Func} {c : Code} {args : List D} {eb : List (Nat × TypeId)} {H : List (List aZ)} {R : Out → List (List aZ) → Prop} (cc : P.funcs[f]? = some fn) (hb : fn.body = some c) (kc : decide (fn.name = "runtime.NumGoroutine") = false)
 (fc:Nat.ble args.length fn.ntmps=true) (h:qn P tt fn H.length c R {env:=h5 args eb,H:=da 0 H,a1:=H.length}):rf P f args eb H R:=by
 refine⟨⟨fn,cc,by rw [hb];rfl,by simpa using kc⟩,?_⟩
 intro cQ w vs M β hlen OS OT
 suffices key:∀K:Ctx,K.ds=[]→bR P K M β {env:=h5 args eb,H:=da 0 H,a1:=H.length} ⟨vs⟩ w→(∀r b,β r=some b→K.j' r=some b)→
  Calls P f ⟨vs⟩ w λe w'=>∃o H' v M' β',R o H'∧e=re o v∧bR P K M' β' {env:=ij o,H:=da 0 H',a1:=H.length} #[v] w' from
  (key {cQ with ds:=[]} rfl (OS.wd []) OT).mono λe w' ⟨o,H',v,M',β',Z,ad,am⟩=>⟨o,H',v,M',β',Z,ad,am.wd cQ.ds⟩
 intro K ik c' hL;have et:∀r b,K.j' r=some b→r<H.length:=λr b hb=>c'.lt r b (c'.iH r b hb)
 simp only [Nat.ble_eq]at fc;exact calls_of_wp_defers cc hb (h K ik et {tmps:=(⟨vs⟩:Array Value)++Array.replicate (fn.ntmps-(⟨vs⟩:Array Value).size) undef,defers:=[]} w ⟨rfl,ik.symm,by simp;omega,M,β,OR hlen c'⟩)
def uj.Yz{fd:FuncId}{fn:Func}{i0:Nat}{opsA:Array Oper}{c8 h6:Oper}{rest:Code}{r t2:Nat}{c:Call}(co:fl P tt=true)(cc:P.funcs[fd]? = some fn)(hb:fn.body=some (.seq (.region i0 opsA false) rest))(nw:opsA = #[c8,h6])
 (Z:c8.op = .call c) (ad:c8.dst=some r) (am:c8.guard=none) (aR:c.callee = .builtin .recover) (bv:c.args = #[]) (cz:h6.op = .assign (.tmp r)) (eG:h6.dst=some t2) (eD:h6.guard=none)
 {args:List D} {H:List (List aZ)} {x:Option V} {R:List (List aZ)→Prop} (ah:Nat.blt r fn.ntmps=true) (gl:Nat.blt t2 fn.ntmps=true) (fc:Nat.ble args.length fn.ntmps=true)
 (h:ba P fn.ntmps H.length rest (sG tt H.length fn.results.toList λo H'=>o = .ret (.bU []) none∧R H') {env:=(t2,{d:=.v (x.getD .jE)})::del (h5 args []) r,H:=da 0 H,a1:=H.length}):uj P fd args H x R:=by
 intro K w vs M β mode hlen c' hL hm;have et:∀r b,K.j' r=some b→r<H.length:=λr b hb=>c'.lt r b (c'.iH r b hb)
 simp only [Nat.ble_eq]at fc;simp only [Nat.blt_eq]at ah gl;refine callsD_of_wpS cc hb λuk cs hu=>?_
 apply wpS_seq;apply wpS_region;subst nw;have HR:∀kZ,Region.wanted c8 (yielded #[c8,h6] kZ)=true:=λkZ=>by simp [Region.wanted,am]
 have HS:∀kZ,Region.wanted h6 (yielded #[c8,h6] kZ)=true:=λkZ=>by simp [Region.wanted,eD]
 have e1:∀a:Act,(execOp a.eval c8).run P w = .ok .recover w:=λa=>by
  simp [execOp,Z,resolve,aR,bv,invoke,builtin]
 have dC:=OR (n:=fn.ntmps-(⟨vs⟩:Array Value).size) hlen c'
 -- G2 'recover' ahG
 have key:∃(v:Value) (nA:FrameMode),dw M v (x.getD .jE)∧settle nA = .returning∧(recoverD (uk::cs)=some (v,{uk with mode:=nA}::cs)∨(recoverD (uk::cs)=none∧v = .nilIface∧({uk with mode:=nA}:Frame)=uk)):=by
  cases x with
  |none=>
   have kD:mode = .returning:=hm;subst kD;exact⟨.nilIface,.returning,.jE,rfl,.inr ⟨by simp [recoverD,hu],rfl,by rw [←hu]⟩⟩
  |some y=>
   obtain⟨v,kD,ao⟩:=hm;subst kD;exact⟨v,.panicking [{v,recovered:=true}],ao,by simp [settle],.inl (by simp [recoverD,hu])⟩
 obtain⟨v,nA,ao,lL,CU⟩:=key;show wpOpsS P #[c8,h6] _ (List.range 2) _ (uk::cs) w
 simp only [List.range,List.range.loop,wpOpsS,show(#[c8,h6]:Array Oper)[0]? = some c8 from rfl,show(#[c8,h6]:Array Oper)[1]? = some h6 from rfl,HR,HS,if_true,e1]
 have e2:∀kZ:Array Value,r<kZ.size→(execOp (Act.eval ⟨kZ.setIfInBounds r v,[]⟩) h6).run P w = .ok (.value v) w:=λkZ ax=>by
  simp [execOp,cz,Act.eval,ax]
 have eC:((⟨vs⟩:Array Value)++Array.replicate (fn.ntmps-(⟨vs⟩:Array Value).size) undef).size=fn.ntmps:=by simp;omega
 generalize atd:(⟨vs⟩:Array Value)++Array.replicate (fn.ntmps-(⟨vs⟩:Array Value).size) undef=kZ at dC eC
 have ln:∀cs',cs'={uk with mode:=nA}::cs→rest.wpS P (bodyPostS P fn uk cs λe nA w'=>∃v H' M' β',e = .returned v∧settle nA = .returning∧R H'∧bR P K M' β' {env:=ij (.ret (.bU []) none),H:=da 0 H',a1:=H.length} #[v] w')
  ⟨(kZ.setIfInBounds r v).setIfInBounds t2 v,[]⟩ cs' w:=by
  intro cs' ev
  have CV:bR P {K with ds:=[]} M β {env:=(t2,{d:=.v (x.getD .jE)})::del (h5 args []) r,H:=da 0 H,a1:=H.length} ((kZ.setIfInBounds r v).setIfInBounds t2 v) w:=
   ((dC.drop (t:=r) (v:=v)).put (t:=t2) (v:=v) (e:={d:=.v (x.getD .jE)}) (by rw [Array.size_setIfInBounds,eC];exact gl) (.v _ _ ao) (λT aT=>by cases aT)).wd []
  refine wpS_of_wp (wp_mono (h {K with ds:=[]} et _ w ⟨rfl,rfl,by simpa using eC,M,β,CV⟩) ?_)
  rintro e dO w' ⟨fI,b',g1,g2⟩
  cases fI with
  |normal=>
   obtain⟨rfl,hd,_,M',β',hs⟩:=g1;obtain⟨o,H',g3,rfl,g4⟩:=g2;obtain⟨v2,g5,jH,M2,sI,g6,g7⟩:=X8 co (K:={K with ds:=[]}) et hs g3;cases g6;exact⟨hd,nA,ev,v2,g5,v2,H',M2,sI,rfl,lL,g4,g7.wd K.ds⟩
  |ret=>
   obtain⟨rfl,hd,_,M',β',hs⟩:=g1;obtain⟨o,H',g3,rfl,g4⟩:=g2;obtain⟨v2,g5,jH,M2,sI,g6,g7⟩:=X8 co (K:={K with ds:=[]}) et hs g3;cases g6;exact⟨hd,nA,ev,v2,g5,v2,H',M2,sI,rfl,lL,g4,g7.wd K.ds⟩
  |exit i=>exact g2.elim
  |bj y=>
   obtain⟨H',_,g4,_⟩:=g2;cases g4
 have e3:(execOp ((({tmps:=kZ,defers:=[]}:Act).put c8.dst v).eval) h6).run P w = .ok (.value v) w:=by
  rw [ad];exact e2 kZ (by omega)
 rcases CU with CU|⟨CU,rfl,hc0⟩
 ·simp only [CU,e3];rw [Oper.upon_value,ad,eG];exact ln _ rfl
 ·simp only [CU,e3];rw [Oper.upon_value,ad,eG];exact ln _ (by rw [hc0])
end
def qp(H:List (Nat×List aZ)):Nat→List (Nat×List aZ)
 | 0=>[]
 |n+1=>match look H n with
  |some cs=>(n,cs)::qp H n
  |none=>qp H n
def Ph{H:List (Nat×List aZ)}:∀{n q:Nat} {cs:List aZ},look (qp H n) q=some cs→q<n∧look H q=some cs
 | 0,q,cs,h=>by simp [qp,look]at h
 |n+1,q,cs,h=>by
  unfold qp at h;split at h
  ·rename_i c hc;rw [dN]at h;split at h
   ·rename_i av;subst av;cases h;exact⟨by omega,hc⟩
   ·obtain⟨Z,ad⟩:=Ph h;exact⟨by omega,ad⟩
  ·obtain⟨Z,ad⟩:=Ph h;exact⟨by omega,ad⟩
def YA(mk:Nat)(ops:List Oper)(o:Oper)(x:V)(hs:List (Nat×List aZ))(bc:List Prop)(kE:List Nat)(rs:List fw)(ue:List (Nat×List aZ)):eM:=
 {dst:=o.dst,p:=[],f:={e:=none,rs:=[],hs:=[(mk,[])],bc},kE,ny:=qi ops o,qg:=ro o,rs,fy:=1,we:=x,qh:=hs,ue}
def YB(ops:List Oper)(o:Oper):eM:=
 {dst:=o.dst,p:=[],f:={e:=none,rs:=[]},kE:=[],ny:=qi ops o,qg:=ro o,rs:=[],fy:=2}
def sJ(cx:gJ)(tt:dS)(ops:List Oper)(gy mk:Nat):Nat→List Oper→List (List fw)→dt→Option (List eM×dt×List Prop×List (V×List (Nat×List aZ)))
 |_,[],[],g=>some ([],g,[],[])
 |i,o::l,rs::ke,g=>bif Nat.beq i gy then match p9 ops g o with
  |some []=>match step1 cx tt ops {g with rs:=rs} [] o with
   |some (.bj x hs bc)=>match sJ cx tt ops gy mk (i+1) l ke (eR (YA mk ops o x hs bc (je tt g [] o++List.range mk) rs g.H) g) with
    |some (cU,fa,ub,xs)=>some (YA mk ops o x hs bc (je tt g [] o++List.range mk) rs g.H::cU,fa,ub++bc,(x,hs++qp g.H mk)::xs)
    |none=>none
   |_=>none
  |_=>none
  else bif waits ops gy 3 i then match sJ cx tt ops gy mk (i+1) l ke (eR (YB ops o) g) with
   |some (cU,fa,ub,xs)=>some (YB ops o::cU,fa,ub,xs)
   |none=>none
  else match findD cx tt ops g o rs with
   |some E=>bif E.f.hs.all (λy=>!Nat.beq y.1 mk)then match sJ cx tt ops gy mk (i+1) l ke (eR E g) with
    |some (cU,fa,ub,xs)=>some (E::cU,fa,ub++E.f.bc.map (under g E.p),xs)
    |none=>none
    else none
   |none=>none
 |_,_,_,_=>none
def CW(cx:gJ)(tt:dS)(N:Nat)(ops:List Oper)(gy mk:Nat)(ke:List (List fw))(st:aK):Option (V×List (Nat×List aZ)×List Prop):=
 match sJ cx tt ops gy mk 0 ops ke (HN ops st) with
 |some (cU,g,bc,[(x,hs)])=>bif HJ N ops cU&&(look g.H mk).isSome&&(look st.H mk).isNone then some (x,hs,bc)else none
 |_=>none
def Pi:Option (V×List (Nat×List aZ)×List Prop)→Option (V×List Prop)
 |some (x,_,cS)=>some (x,cS)
 |none=>none
def Pj:Option (V×List (Nat×List aZ)×List Prop)→List (Nat×List aZ)
 |some (_,H,_)=>H
 |none=>[]
section
variable {P:Program} {K:Ctx} {N E:Nat} {st:aK} {tt:dS} {opsA:Array Oper} {cx:gJ}
structure YC(opsA:Array Oper)(cU:List eM)(gy mk:Nat)(x:V)(hs:List (Nat×List aZ)):Prop where
 dead:∀(i:Nat) E,cU[i]? = some E→E.fy=2→waits opsA.toList gy 3 i=true
 bj:∀(i:Nat) E,cU[i]? = some E→E.fy=1→E.p=[]∧E.we=x∧E.qh++qp E.ue mk=hs∧∀q,q<mk→q∈E.kE
 go:∀(i:Nat) E,cU[i]? = some E→E.fy=0→i≠gy∧(E.f.hs.all (λy=>!Nat.beq y.1 mk))=true
 fy:∀(i:Nat) E,cU[i]? = some E→E.fy=0∨E.fy=1∨E.fy=2
def aiF{listed:Array Bool}(gP:ov opsA listed){i gy:Nat}(hi:i∈Region.ready .any opsA listed){n:Nat}(hw:waits opsA.toList gy n i=true):listed.getD gy false=true:=by
 cases n with
 |zero=>simp [waits]at hw
 |succ n=>
  obtain⟨_,o,aq,pb⟩:=mem_ready.1 hi;rw [waits]at hw;have ae:opsA.toList[i]? = some o:=by simpa using aq
  simp only [ae]at hw;obtain⟨e,he,hb⟩:=List.any_eq_true.1 hw;simp only [Bool.and_eq_true,Bool.or_eq_true,Nat.beq_eq]at hb;have Z:=pb e (by simpa using he) hb.1
  rcases hb.2 with rfl|ad
  ·exact Z
  ·exact HA gP ad Z
def Pk{mk:Nat}:∀{l H:List (Nat×List aZ)},(l.all λy=>!Nat.beq y.1 mk)=true→look H mk=none→look (l++H) mk=none
 |[],_,_,h=>h
 |(a,b)::l,H,ae,h=>by
  simp only [List.all_cons,Bool.and_eq_true,Bool.not_eq_true']at ae;rw [List.cons_append,dN];have:a≠mk:=by intro e;subst e;simp at ae
  rw [if_neg this];exact Pk ae.2 h
def aiG{E:eM}{g:dt}{mk:Nat}(h:(E.f.hs.all λy=>!Nat.beq y.1 mk)=true)(hg:look g.H mk=none):look (eR E g).H mk=none:=by
 unfold eR;cases E.dst with
 |none=>exact Pk h hg
 |some t=>
  cases E.p with
  |nil=>exact Pk h hg
  |cons x p=>dsimp only;cases E.f.e<;>exact hg
def jL.YD(co:fl P tt=true){cU:List eM}{gy mk:Nat}{x:V}{hs:List (Nat×List aZ)}(lR:YC opsA cU gy mk x hs)(ew:∀(i:Nat) o E,opsA[i]? = some o→cU[i]? = some E→iK opsA.toList o E=true)(aQ:∀(i:Nat) E,cU[i]? = some E→rq N E=true)(kV:CO opsA.toList cU=true){Q:Exit→Act→World→Prop}
 (dT:∀n e dO w',rm P K N (.bj x) {env:=[],H:=hs,a1:=n} e dO w'→Q e dO w'):
 ∀(n:Nat) (listed:Array Bool) (g:dt) (tmps:Array Value) (w:World) (M:Mem) (β:Nat→Option Nat),jL (hT P) tt opsA cU (λg=>(look g.H mk).isSome=true) n listed g→listed.size=opsA.size→ov opsA listed→ui cU listed g→listed.getD gy false=false→look g.H mk=none→fO P K N M β g tmps w→wpAny P .any opsA Q n listed ⟨tmps,K.ds⟩ w
 | 0,_,g,tmps,w,M,β,h,_,_,_,_,eW,_=>by have:(look g.H mk).isSome=true:=h.2;rw [eW]at this;cases this
 |n+1,listed,g,tmps,w,M,β,h,eC,gP,jr,YE,eW,gk=>by
  refine⟨(λah=>by have:(look g.H mk).isSome=true:=h.1 ah;rw [eW]at this;cases this),λi hi=>?_⟩
  obtain⟨o,E,aq,ch,HI,hn⟩:=h.2 i hi;have b2:i<listed.size:=by rw [eC];exact(Array.getElem?_eq_some_iff.1 aq).1
  have ow:listed.getD i false=false:=by have:=(mem_ready.1 hi).1;simpa [Array.getD_eq_getD_getElem?,b2]using this
  have qf:fO P K N M β {g with rs:=E.rs,bc:=[]} tmps w:=⟨gk.bC,gk.size,gk.fresh,gk.cond⟩;unfold wpOp;simp only [aq];rcases lR.fy i E ch with hk|hk|hk
  ·have kd:=HI.resolve_left (by rw [hk];simp)
   obtain⟨rv,v_⟩:=lR.go i E ch hk;have O5:=Yt (N:=N) hk kd ch (ew i o E aq ch) (aQ i E ch) kV gP ow jr;refine CH qf co (opsA:=opsA) rfl O5 (λq av=>?_) (λeB w' M' β' cO=>?_)
   ·obtain⟨q',qc,rfl⟩:=List.mem_map.1 av;exact kd.bc q' qc
   ·exact jL.YD co lR ew aQ kV dT n _ (eR E g) eB w' M' β' hn (by simpa using eC) (gP.set hi) (jr.ap ch b2) (by rw [getD_set_ne false rv];exact YE) (aiG v_ eW) ⟨cO.bC,cO.size,cO.fresh,cO.cond⟩
  ·have kd:=HI.resolve_left (by rw [hk];simp)
   obtain⟨hp,hx,aiH,ph⟩:=lR.bj i E ch hk
   have dC:step1 (hT P) tt opsA.toList {g with rs:=E.rs,bc:=[]} [] o=some (.bj x E.qh E.f.bc):=by
    have Z:=kd.st;rw [hk,hp,hx]at Z;refine Eq.trans ?_ Z;exact OY (g1:={g with rs:=E.rs,bc:=[]}) (g2:={g with rs:=E.rs}) (λ_ _ _ _=>⟨rfl,rfl⟩) rfl rfl (λ_=>rfl) (λ_ _=>rfl)
   have Pl:p9 opsA.toList {g with rs:=E.rs,bc:=[]} o=some []:=by rw [←hp];exact kd.Hw
   have aiI:kv (hT P) tt N opsA.toList {g with rs:=E.rs,bc:=[]} o=some (.bj x {env:=p8 g.env,H:=E.qh++g.H,a1:=g.a1} (E.f.bc++[])):=by
    unfold kv;rw [Pl]
    dsimp only
    rw [dC];rfl
   refine XW qf co (opsA:=opsA) rfl aiI (λq av=>?_) (λe dO w' sH=>?_)
   ·rw [List.append_nil]at av;have:=kd.bc q av
    rw [hp]at this;exact this
   ·obtain⟨v,Z,ad,vE,sy,am,aR⟩:=sH;have ln:=kd.fin hk
    have md:∀q cs,look hs q=some cs→look (E.qh++g.H) q=some cs:=by
     intro q cs av;rw [←aiH,yY]at av;rw [yY];cases ae:look E.qh q with
     |some c=>rw [ae]at av;exact av
     |none=>
      rw [ae]at av;obtain⟨bv,cz⟩:=Ph av;rw [←cz];exact ln q (ph q bv)
    refine dT g.a1 e dO w' ⟨v,Z,ad,vE,sy,am,(aR.CF _).sub rfl (λl a7 ae=>?_) (λq cs av=>⟨cs,md q cs av,rfl⟩)⟩
    cases l with
    |slot s=>simp [aK.at,look]at ae
    |cell q i=>
     simp only [aK.at]at ae ⊢;cases av:look hs q with
     |none=>rw [av]at ae;simp at ae
     |some cs=>
      rw [av]at ae;rw [md q cs av];exact⟨a7,ae,rfl,λ_ h=>h⟩
  ·have:=aiF gP hi (lR.dead i E ch hk)
   rw [YE]at this;cases this
def HT{ops:List Oper}{gy mk:Nat}{Fi:dt→Prop}:∀{l:List Oper} {i:Nat} {ke:List (List fw)} {g:dt} {cU:List eM} {fa:dt} {bc:List Prop} {xs:List (V×List (Nat×List aZ))},sJ cx tt ops gy mk i l ke g=some (cU,fa,bc,xs)→(∀q,q∈bc→q)→Fi fa→
 cU.length=l.length∧HF cx tt ops Fi (lS l cU) g∧
 (∀(j:Nat) E,cU[j]? = some E→(E.fy=0∧i+j≠gy∧(E.f.hs.all (λy=>!Nat.beq y.1 mk))=true)∨(E.fy=1∧E.p=[]∧(E.we,E.qh++qp E.ue mk)∈xs∧∀q,q<mk→q∈E.kE)∨(E.fy=2∧waits ops gy 3 (i+j)=true))
 |[],i,[],g,cU,fa,bc,xs,h,_,dV=>by
  simp only [sJ,Option.some.injEq,Prod.mk.injEq]at h;obtain⟨rfl,rfl,rfl,rfl⟩:=h;exact⟨rfl,dV,by simp⟩
 |[],_,_::_,_,_,_,_,_,h,_,_=>by simp [sJ]at h
 |_::_,_,[],_,_,_,_,_,h,_,_=>by simp [sJ]at h
 |o::l,i,rs::ke,g,cU,fa,bc,xs,h,cH,dV=>by
  have next:∀{E:eM} {wn:List eM} {y2:List (V×List (Nat×List aZ))},(∀(j:Nat) E,wn[j]? = some E→(E.fy=0∧i+1+j≠gy∧(E.f.hs.all (λy=>!Nat.beq y.1 mk))=true)∨(E.fy=1∧E.p=[]∧(E.we,E.qh++qp E.ue mk)∈y2∧∀q,q<mk→q∈E.kE)∨(E.fy=2∧waits ops gy 3 (i+1+j)=true))→(∀z,z∈y2→z∈xs)→
   ((E.fy=0∧i≠gy∧(E.f.hs.all (λy=>!Nat.beq y.1 mk))=true)∨(E.fy=1∧E.p=[]∧(E.we,E.qh++qp E.ue mk)∈xs∧∀q,q<mk→q∈E.kE)∨(E.fy=2∧waits ops gy 3 i=true))→
   ∀(j:Nat) dx,(E::wn)[j]? = some dx→(dx.fy=0∧i+j≠gy∧(dx.f.hs.all (λy=>!Nat.beq y.1 mk))=true)∨(dx.fy=1∧dx.p=[]∧(dx.we,dx.qh++qp dx.ue mk)∈xs∧∀q,q<mk→q∈dx.kE)∨(dx.fy=2∧waits ops gy 3 (i+j)=true):=by
   intro E wn y2 Z hx ad j dx hj;cases j with
   |zero=>simp at hj;subst hj;exact ad
   |succ j=>
    have:=Z j dx (by simpa using hj)
    rw [show i+1+j=i+(j+1)by omega]at this
    rcases this with am|⟨am,aR,bv,cz⟩|am
    ·exact .inl am
    ·exact .inr (.inl ⟨am,aR,hx _ bv,cz⟩)
    ·exact .inr (.inr am)
  simp only [sJ]at h;rw [Bool.cond_eq_ite]at h;split at h
  ·rename_i rv;split at h
   case h_2=>cases h
   rename_i Pl;split at h
   case h_2=>cases h
   rename_i x hs HK dC;split at h
   case h_2=>cases h
   rename_i wn g1 YF y2 Z;simp only [Option.some.injEq,Prod.mk.injEq]at h;obtain⟨rfl,rfl,rfl,rfl⟩:=h;obtain⟨ad,am,aR⟩:=HT Z (λq av=>cH q (List.mem_append_left _ av)) dV
   refine⟨by simp [ad],⟨.inr ⟨Pl,dC,(λq av=>cH q (List.mem_append_right _ av)),(λq av=>List.mem_append_left _ av),λ_ q _=>rfl⟩,am⟩,next aR (λz dG=>List.mem_cons_of_mem _ dG) (.inr (.inl ⟨rfl,rfl,List.mem_cons_self ..,λq av=>List.mem_append_right _ (List.mem_range.2 av)⟩))⟩
  ·rename_i rv;rw [Bool.cond_eq_ite]at h;split at h
   ·rename_i hw;split at h
    case h_2=>cases h
    rename_i wn g1 YF y2 Z;simp only [Option.some.injEq,Prod.mk.injEq]at h;obtain⟨rfl,rfl,rfl,rfl⟩:=h;obtain⟨ad,am,aR⟩:=HT Z cH dV;exact⟨by simp [ad],⟨.inl rfl,am⟩,next aR (λz dG=>dG) (.inr (.inr ⟨rfl,hw⟩))⟩
   ·split at h
    case h_2=>cases h
    rename_i E ch;rw [Bool.cond_eq_ite]at h;split at h
    case isFalse=>cases h
    rename_i p';split at h
    case h_2=>cases h
    rename_i wn g1 YF y2 Z;simp only [Option.some.injEq,Prod.mk.injEq]at h;obtain⟨rfl,rfl,rfl,rfl⟩:=h;obtain⟨ad,am,aR⟩:=HT Z (λq av=>cH q (List.mem_append_left _ av)) dV
    have O6:∀q,q∈E.f.bc→under g E.p q:=λq av=>cH _ (List.mem_append_right _ (List.mem_map.2 ⟨q,av,rfl⟩))
    have v_:=p';unfold findD at ch;split at ch
    ·cases ch
    rename_i p hp;split at ch
    ·rename_i f cc;cases ch;exact⟨by simp [ad],⟨.inr ⟨hp,cc,O6,λ_ h=>h,λh=>by cases h⟩,am⟩,next aR (λz dG=>dG) (.inl ⟨rfl,(by simpa using rv),v_⟩)⟩
    ·cases ch
def ba.aiJ{id:Nat}{Q:cr→aK→Prop}(co:fl P tt=true)(hm:P.follows .mixedOrders=true)(gy:Nat)(ke:List (Nat×List fw)){x:V}{cS:List Prop}(ah:Pi (CW (hT P) tt N opsA.toList gy (st.a1+opsA.toList.length) (spread opsA.toList.length 0 ke) st)=some (x,cS))(cH:lp cS)
 (dT:∀n,Q (.bj x) {env:=[],H:=Pj (CW (hT P) tt N opsA.toList gy (st.a1+opsA.toList.length) (spread opsA.toList.length 0 ke) st),a1:=n}):ba P N E (.region id opsA true) Q st:=by
 rintro K et a w ⟨_,hd,eC,M,β,c'⟩
 obtain⟨tmps,ds⟩:=a;simp only at hd eC
 subst hd;refine wp_region_any hm ?_;cases me:CW (hT P) tt N opsA.toList gy (st.a1+opsA.toList.length) (spread opsA.toList.length 0 ke) st with
 |none=>rw [me]at ah;cases ah
 |some res=>
 obtain⟨sw,ate,Pm⟩:=res;rw [me]at ah dT;simp only [Pi,Option.some.injEq,Prod.mk.injEq]at ah;obtain⟨rfl,rfl⟩:=ah;simp only [Pj]at dT;unfold CW at me;split at me
 case h_2=>cases me
 rename_i cU g ub Cw gk eX;rw [Bool.cond_eq_ite]at me;split at me
 case isFalse=>cases me
 rename_i hc;simp only [Option.some.injEq,Prod.mk.injEq]at me;obtain⟨rfl,rfl,rfl⟩:=me;simp only [Bool.and_eq_true,Option.isNone_iff_eq_none]at hc;obtain⟨⟨hc,ra⟩,YG⟩:=hc;generalize atf:st.a1+opsA.toList.length=mk at eX ra YG
 obtain⟨hlen,O',HU⟩:=HT (Fi:=λg=>(look g.H mk).isSome=true) eX cH.mem ra
 simp only [HJ,Bool.and_eq_true]at hc;obtain⟨⟨⟨c1,c2⟩,c3⟩,c4⟩:=hc
 have ew:∀(i:Nat) o E,opsA[i]? = some o→cU[i]? = some E→iK opsA.toList o E=true:=by
  intro i o E aq ch;obtain⟨ll,z2⟩:=wo hlen i;have lh:opsA.toList[i]? = some o:=by simpa using aq
  rw [lh]at ll;rw [ch]at z2;cases dG:(lS opsA.toList cU)[i]? with
  |none=>rw [dG]at ll;simp at ll
  |some x=>
   rw [dG]at ll z2;simp at ll z2
   subst ll;subst z2;exact List.all_eq_true.1 c1 x (List.mem_of_getElem? dG)
 have aQ:∀(i:Nat) E,cU[i]? = some E→rq N E=true:=λi E ch=>List.all_eq_true.1 c2 E (List.mem_of_getElem? ch)
 have CP:ov opsA (Array.replicate opsA.size false):=λj o aq hj=>by have b2:j<opsA.size:=(Array.getElem?_eq_some_iff.1 aq).1;simp [Array.getD_eq_getD_getElem?,b2]at hj
 have CQ:=jL.text ew (λg1 g2 gx Z=>by rw [←gx.box mk];exact Z) (lS opsA.toList cU) 0 (Array.replicate opsA.size false) _ (λj=>by have:=(wo hlen j).1;simpa using this) (λj=>by have:=(wo hlen j).2;simpa using this)
  ⟨by simp,λj hj=>by simp [hj]⟩ CP c4 O'
 have vM:(lS opsA.toList cU).length=opsA.size:=by rw [O7 hlen];simp
 rw [vM]at CQ
 have lR:YC opsA cU gy mk Cw gk:=by
  constructor
  ·intro i E ch hk;rcases HU i E ch with⟨Z,_⟩|⟨Z,_⟩|⟨_,Z⟩
   ·omega
   ·omega
   ·simpa using Z
  ·intro i E ch hk;rcases HU i E ch with⟨Z,_⟩|⟨_,Z,ad,am⟩|⟨Z,_⟩
   ·omega
   ·simp only [List.mem_singleton,Prod.mk.injEq]at ad;exact⟨Z,ad.1,ad.2,am⟩
   ·omega
  ·intro i E ch hk;rcases HU i E ch with⟨_,Z,ad⟩|⟨Z,_⟩|⟨Z,_⟩
   ·exact⟨by simpa using Z,ad⟩
   ·omega
   ·omega
  ·intro i E ch;rcases HU i E ch with⟨Z,_⟩|⟨Z,_⟩|⟨Z,_⟩
   ·exact .inl Z
   ·exact .inr (.inl Z)
   ·exact .inr (.inr Z)
 refine jL.YD (K:=K) (mk:=mk) co lR ew aQ c3 (λn e dO w' cO=>⟨_,_,cO,dT n⟩) _ _ _ tmps _ M β CQ (by simp) CP (λx hx=>by cases hx) ?_ YG ⟨(c'.drew _).up _,eC,(λs id h _ b hb=>by have Z:=c'.lt _ _ hb;have ad:=(HP _ _ _ (sr h)).1;simp only at ad;omega),λ_ _ _ h=>by simp [HN,look]at h⟩
 rw [Array.getD_eq_getD_getElem?];by_cases ul:gy<opsA.size
 ·simp [ul]
 ·simp [ul]
end
section
variable {P:Program} {tt:dS} {fn:Func} {E:Nat} {st:aK}
def Pn{y:Code}{R:Out→List (List aZ)→Prop}(h:qn P tt fn E y R st):Pe P tt fn E y R .normal st:=h
def aiK{y:Code}{out:Out}{CX:List (List aZ)}(h:(Ab.leave tt E fn.results.toList st).map (λx=>(x.1,oo x.2))=some (out,CX)):Pe P tt fn E y (λo H'=>o=out∧H'=CX) .ret st:=by
 rw [Option.map_eq_some_iff]at h;obtain⟨⟨o,H'⟩,Z,ad⟩:=h;cases ad;exact⟨o,H',Z,rfl,rfl⟩
def YH(tt:dS)(E:Nat)(rs:List ResultVar)(ds:List D)(ρ:List Nat)(cm:List (List aZ))(st:aK):Option (List (List aZ)×List D×Out×List (List aZ)):=
 bif !nn ρ then none else match boxes st.H ρ,lH (idx ρ) ds,kt (λj=>ρ[j]?) cm with
  |some bs,some jZ,some i'=>bif Nat.beq cm.length ρ.length then match kt (idx ρ) bs,Ab.leave tt E rs {env:=st.env,H:=lI ρ i'++st.H,a1:=st.a1} with
   |some H1,some (o,H')=>some (H1,jZ,o,oo H')
   |_,_=>none
   else none
  |_,_,_=>none
def rr.of{rs:List ResultVar}{fd:FuncId}{ds jZ:List D}{x:Option V}(ρ:List Nat){H1 cm CX:List (List aZ)}{o:Out}(d:uj P fd jZ H1 x λH'=>H'=cm)(hc:YH tt E rs ds ρ cm st=some (H1,jZ,o,CX)):
 rr P tt E rs fd ds (λo' H'=>o'=o∧H'=CX) x st:=by
 unfold YH at hc;rw [Bool.cond_eq_ite]at hc;split at hc
 ·cases hc
 rename_i hn;split at hc
 case h_2=>cases hc
 rename_i bs a i' lj ha vT;rw [Bool.cond_eq_ite]at hc;split at hc
 case isFalse=>cases hc
 rename_i ae;split at hc
 case h_2=>cases hc
 rename_i aiL o' H' mB jJ;simp only [Option.some.injEq,Prod.mk.injEq]at hc;obtain⟨rfl,rfl,rfl,rfl⟩:=hc;refine⟨ρ,bs,aiL,a,_,(by simpa using hn),lj,mB,ha,d,λYy am=>?_⟩
 subst am;exact⟨i',o',H',(by simpa using ae),vT,jJ,rfl,rfl⟩
def aiM{rs:List ResultVar}{fd:FuncId}{ds:List D}{R:Out→List (List aZ)→Prop}(h:rr P tt E rs fd ds R none st):Pf P tt E rs fd ds R .ret st:=h
def YI{rs:List ResultVar}{fd:FuncId}{ds:List D}{R:Out→List (List aZ)→Prop}{x:V}(h:rr P tt E rs fd ds R (some x) st):Pf P tt E rs fd ds R (.bj x) st:=h
end
section
variable {P:Program}
def aiN{w:World}{b off:Nat}{vs:List Value}{T:TypeId}{o6:Nat×Nat}(h:w.heap[b]? = some (.cells ⟨vs⟩ T o6))(u:Value):
 (w.setCell ⟨b,off,none⟩ u).heap[b]? = some (.cells ⟨vs.set off u⟩ T o6):=by
 have b2:=lt_of_heap h;have cO:w.heap[b] = .cells ⟨vs⟩ T o6:=by simpa [Array.getElem?_eq_getElem b2]using h
 show(w.heap.modify b _)[b]? = _
 rw [Array.getElem?_eq_getElem (by simpa using b2),Array.getElem_modify_self,cO]
 simp
def aiO{w:World}{b off:Nat}{u:Value}(k:Nat)(h:k≠b):(w.setCell ⟨b,off,none⟩ u).heap[k]? = w.heap[k]? := Go.RowKit.Below.heap_setCell w ⟨b,off,none⟩ u k h
def YJ {f : FuncId} {fd : Func} {off : Nat} {u : TypeId} (kz : P.funcs[f]? = some fd) (pm : fd.body.isSome = true) (hn : decide (fd.name = "runtime.NumGoroutine") = false)
 (aiP:∀(b:Nat) (w:World),w.cell? ⟨b,off,none⟩=some (.pointer (some ⟨b,off,none⟩))→Calls P f #[.pointer (some ⟨b,off,none⟩)] w λe w'=>e = .returned (.tuple #[])∧w'=w)
 (aiQ:∀(b:Nat) (w:World) (T:TypeId) (k:Nat),w.cell? ⟨b,off,none⟩=some (.pointer none)→w.shape? b=some (T,k)→off<k→liesAt P P.depth T (k / P.cellsOf T) off u 1=true→w.frozen? ⟨b,off,none⟩=false→
  Calls P f #[.pointer (some ⟨b,off,none⟩)] w λe w'=>e = .returned (.tuple #[])∧w'=w.setCell ⟨b,off,none⟩ (.pointer (some ⟨b,off,none⟩)))
 {cs:List aZ} (ev:cs[off]? = some ⟨.cK 0 off u,none⟩):gj P f [.ptr 0 off] [] [cs] (.ret (.bU []) none) [cs]:=by
 refine⟨⟨fd,kz,pm,by simpa using hn⟩,λK w vs M β hlen hs hL=>?_⟩
 obtain⟨v,rfl⟩:∃v,vs=[v]:=by
  match vs,hlen with
  |[v],_=>exact⟨v,rfl⟩
 have vK:=hs.fb (.slot 0) ⟨.ptr 0 off,none⟩ (by simp [aK.at,h5,sA,da,look])
 have vY:cn (⟨[v]⟩:Array Value) w β (.slot 0)=v:=by simp [cn]
 rw [vY]at vK;obtain⟨b,hb,rfl⟩:∃b,β 0=some b∧v = .pointer (some ⟨b,off,none⟩):=by cases vK with|ptr r o b h=>exact⟨b,h,rfl⟩
 have hl0:look (da 0 [cs]) 0=some cs:=by simp [da,look]
 obtain⟨bM,ws,T,b0,bB,YK,aiR,aiS,gL,hlies⟩:=hs.box 0 cs hl0;rw [hb]at b0;cases b0;have tZ:off<cs.length:=(List.getElem?_eq_some_iff.1 ev).1;have CY:ws[off]? = some ws[off]:=List.getElem?_eq_getElem (by omega)
 have iA:w.cell? ⟨b,off,none⟩=some ws[off]:=by rw [cell_of_heap bB,CY]
 have f9:=hs.fb (.cell 0 off) ⟨.cK 0 off u,none⟩ (by simp [aK.at,hl0,ev])
 have cB:cn (⟨[.pointer (some ⟨b,off,none⟩)]⟩:Array Value) w β (.cell 0 off)=ws[off]:=by simp [cn,hb,iA]
 rw [cB]at f9
 have fin:∀w',bR P K M β {env:=[],H:=da 0 [cs],a1:=[cs].length} #[.tuple #[]] w'→bR P K M β {env:=ij (.ret (.bU []) none),H:=da 0 [cs],a1:=[cs].length} #[.tuple #[]] w':=λw' h=>by
  have:=h.put (t:=0) (v:=.tuple #[]) (e:=⟨.bU [],none⟩) (by simp) (.bU [] [] rfl λi v c ao=>by simp at ao) (λT aT=>by cases aT)
  exact this
 generalize hx:ws[off]=x at iA f9 CY
 cases f9 with
 |l9 r o nA=>
  have hsh:w.shape? b=some (T,ws.length):=by simp [World.shape?,bB]
  have hfz:w.frozen? ⟨b,off,none⟩=false:=by simp [World.frozen?,bB]
  have lg:=hlies _ (List.mem_of_getElem? ev) 0 off u rfl;refine(aiQ b w T ws.length iA hsh (by omega) lg hfz).mono ?_
  rintro e w' ⟨rfl,rfl⟩
  refine⟨_,_,.tuple #[],M,β,⟨rfl,rfl⟩,rfl,fin _ ?_⟩
  have Z:=(hs.CF #[.tuple #[]]).GP (r:=0) (b:=b) (cs:=cs) (w':=w.setCell ⟨b,off,none⟩ (.pointer (some ⟨b,off,none⟩))) hl0 hb bB (vs':=ws.set off (.pointer (some ⟨b,off,none⟩))) (cs':=cs) (by simpa using YK)
   (λy ci=>by
    rcases List.mem_or_eq_of_mem_set ci with h|rfl
    ·exact gL y h
    ·rfl) (λh=>by rw [List.length_set];exact h) rfl (aiN bB _) (λk hk=>aiO k hk) cs.length (λi y e ci he=>by
    by_cases hi:off=i
    ·subst hi;rw [List.getElem?_set_self (by omega)]at ci
     cases ci;rw [ev]at he;cases he;exact⟨.cK 0 off b u hb,λT aT=>by cases aT⟩
    ·rw [List.getElem?_set_ne hi]at ci;have NN:=(List.getElem?_eq_some_iff.1 he).1;refine⟨?_,λT aT=>.inl ⟨by omega,⟨e,he,aT⟩,ci⟩⟩
     have:=hs.fb (.cell 0 i) e (by simp [aK.at,hl0,he])
     simpa [cn,hb,cell_of_heap bB,ci]using this)
  refine Z.sub rfl (λl e ae=>⟨e,?_,rfl,λ_ h=>h⟩) (λr c ah=>⟨c,?_,rfl⟩)
  ·cases l with
   |slot s=>exact ae
   |cell r i=>
    simp only [aK.at,dN]at ae ⊢;by_cases ah:r=0
    ·subst ah;rw [hl0]at ae;simpa using ae
    ·simp [da,dN,Ne.symm ah,look]at ae
  ·simp only [dN]at ah ⊢;by_cases mx:r=0
   ·subst mx;rw [hl0]at ah;simpa using ah
   ·simp [da,dN,Ne.symm mx,look]at ah
 |cK r o jI nA fk=>
  rw [hb]at fk;cases fk;refine(aiP b w iA).mono ?_
  rintro e w' ⟨rfl,rfl⟩
  exact⟨_,_,.tuple #[],M,β,⟨rfl,rfl⟩,rfl,fin _ (hs.CF _)⟩
end
section
variable {P:Program}
def YL {f : FuncId} {fd : Func} {T5 : TypeId} (kz : P.funcs[f]? = some fd) (pm : fd.body.isSome = true) (hn : decide (fd.name = "runtime.NumGoroutine") = false) (aiT : P.cellsOf T5 = 1)
 (p':∀(b:Nat) (w:World),w.cell? ⟨b,1,none⟩=some (.slice none 0 0)→Calls P f #[.pointer (some ⟨b,0,none⟩)] w λe w'=>e = .returned (.string ⟨#[]⟩)∧w'=w.drew)
 (fP:∀(b g cap:Nat) (w:World),cap≠0→w.cell? ⟨b,1,none⟩=some (.slice (some ⟨g,0,none⟩) 0 cap)→Calls P f #[.pointer (some ⟨b,0,none⟩)] w λe w'=>e = .returned (.string ⟨#[]⟩)∧w'=w.drew)
 (aiU:∀(b g:Nat) (w:World) (vs:List Value),w.cell? ⟨b,1,none⟩=some (.slice (some ⟨g,0,none⟩) 0 0)→b<w.heap.size→w.heap[g]? = some (.cells ⟨vs⟩ T5 (0,0))→
  Calls P f #[.pointer (some ⟨b,0,none⟩)] w λe w'=>e = .returned (.string ⟨#[]⟩)∧w'=(w.drew.alloc (.view ⟨g,0,none⟩ T5)))
 (vS:∀(b g cap:Nat) (w:World) (vs:List Value) (l:auJ),l≠[]→w.cell? ⟨b,1,none⟩=some (.slice (some ⟨g,0,none⟩) l.length cap)→w.heap[g]? = some (.cells ⟨vs⟩ T5 (0,0))→
  l.length≤cap→cap≤vs.length→l.length≤9223372036854775807→(∀(j:Nat) (x:UInt8),l[j]? = some x→vs[j]? = some (Value.int .u8 x.toNat))→
  Calls P f #[.pointer (some ⟨b,0,none⟩)] w λe w'=>e = .returned (.string ⟨l.toArray⟩)∧w'=w.drew.freeze ⟨g,0,none⟩ l.length)
 {d0:aZ} {cs:List aZ} {l:auJ} {n:Nat} {get:Nat→V} (jc:n=l.length∧∀i,i<l.length→get i = .int .u8 ((l.getD i 0).toNat:Int)) (h63:l.length≤9223372036854775807):
 gj P f [.ptr 0 0] [] [d0::⟨.v (.bT 1 n get),some T5⟩::cs] (.ret (.v (.str l)) none) [d0::⟨.v (.bT 1 n get),none⟩::cs]:=by
 obtain⟨rfl,jc⟩:=jc;refine⟨⟨fd,kz,pm,by simpa using hn⟩,λK w vs M β hlen hs hL=>?_⟩
 obtain⟨v,rfl⟩:∃v,vs=[v]:=by
  match vs,hlen with
  |[v],_=>exact⟨v,rfl⟩
 have vK:=hs.fb (.slot 0) ⟨.ptr 0 0,none⟩ (by simp [aK.at,h5,sA,da,look])
 have vY:cn (⟨[v]⟩:Array Value) w β (.slot 0)=v:=by simp [cn]
 rw [vY]at vK;obtain⟨b,hb,rfl⟩:∃b,β 0=some b∧v = .pointer (some ⟨b,0,none⟩):=by cases vK with|ptr r o b h=>exact⟨b,h,rfl⟩
 generalize l_:d0::(⟨.v (.bT 1 l.length get),some T5⟩:aZ)::cs=nB at hs
 have jG:nB[1]? = some ⟨.v (.bT 1 l.length get),some T5⟩:=by rw [←l_];rfl
 have hl0:look (da 0 [nB]) 0=some nB:=by simp [da,look]
 obtain⟨bM,ws,T,b0,bB,YK,aiR,aiS,gL⟩:=hs.box 0 nB hl0;rw [hb]at b0;cases b0;have tZ:1<nB.length:=(List.getElem?_eq_some_iff.1 jG).1;have CY:ws[1]? = some ws[1]:=List.getElem?_eq_getElem (by omega)
 have iA:w.cell? ⟨b,1,none⟩=some ws[1]:=by rw [cell_of_heap bB,CY]
 have YM:({env:=h5 [.ptr 0 0] [],H:=da 0 [nB],a1:=[nB].length}:aK).at (.cell 0 1)=some ⟨.v (.bT 1 l.length get),some T5⟩:=by simp [aK.at,hl0,jG]
 have f9:=hs.fb _ _ YM;have f8:=hs.own _ _ T5 YM rfl;have cB:cn (⟨[.pointer (some ⟨b,0,none⟩)]⟩:Array Value) w β (.cell 0 1)=ws[1]:=by simp [cn,hb,iA]
 rw [cB]at f9 f8
 -- lN state behind it
 have vR:∀(j:Nat) a7,(d0::(⟨.v (.bT 1 l.length get),none⟩:aZ)::cs)[j]? = some a7→∃bO,nB[j]? = some bO∧bO.d=a7.d∧(∀T,a7.own=some T→bO.own=some T∧j≠1):=by
  intro j a7 hj;rw [←l_]
  match j with
  | 0=>simp only [List.getElem?_cons_zero,Option.some.injEq]at hj ⊢;subst hj;exact⟨_,rfl,rfl,λT aT=>⟨aT,by omega⟩⟩
  | 1=>simp only [List.getElem?_cons_succ,List.getElem?_cons_zero,Option.some.injEq]at hj ⊢;subst hj;exact⟨_,rfl,rfl,λT aT=>by cases aT⟩
  |j+2=>simp only [List.getElem?_cons_succ]at hj ⊢;exact⟨a7,hj,rfl,λT aT=>⟨aT,by omega⟩⟩
 obtain⟨qf,pg⟩:=hs.WB (r:=0) (i:=1) (cs':=d0::⟨.v (.bT 1 l.length get),none⟩::cs) hl0 jG rfl (by rw [←l_];rfl) vR (.slot 0)
 rw [cB]at pg
 have fin:∀w' M',bR P K M' β {env:=h5 [.ptr 0 0] [],H:=(0,d0::⟨.v (.bT 1 l.length get),none⟩::cs)::da 0 [nB],a1:=[nB].length} ⟨[.pointer (some ⟨b,0,none⟩)]⟩ w'→
  bR P K M' β {env:=ij (.ret (.v (.str l)) none),H:=da 0 [d0::⟨.v (.bT 1 l.length get),none⟩::cs],a1:=[nB].length} #[.string ⟨⟨l⟩⟩] w':=λw' M' h=>by
  have Z:=(h.CF #[.string ⟨⟨l⟩⟩]).put (t:=0) (v:=.string ⟨⟨l⟩⟩) (e:=⟨.v (.str l),none⟩) (by simp) (.v _ _ (.str l)) (λT aT=>by cases aT)
  refine Z.sub rfl (λq e av=>⟨e,?_,rfl,λ_ h=>h⟩) (λr c ah=>⟨c,?_,rfl⟩)
  ·cases q with
   |slot s=>exact av
   |cell r i=>
    simp only [aK.at,dN]at av ⊢;by_cases ah:r=0
    ·subst ah;simpa [da,look]using av
    ·simp [da,dN,Ne.symm ah,look]at av
  ·simp only [dN]at ah ⊢;by_cases mx:r=0
   ·subst mx;simpa [da,look]using ah
   ·simp [da,dN,Ne.symm mx,look]at ah
 have aiV:b<w.heap.size:=lt_of_heap bB;have HV:bR P K M β {env:=h5 [.ptr 0 0] [],H:=(0,d0::⟨.v (.bT 1 l.length get),none⟩::cs)::da 0 [nB],a1:=[nB].length} ⟨[.pointer (some ⟨b,0,none⟩)]⟩ w.drew:=qf.drew _;have YN:[nB].length=1:=rfl;generalize hx:ws[1]=x at iA f9 f8 pg CY
 rcases kx.bT f8 (f9)with h0|⟨g,n,cap,us,T',Z,ad,am,aR,bv,cz,eG⟩
 ·subst h0;obtain⟨_,ae⟩|⟨_,_,_,_,h,_⟩:=tQ f9
  ·obtain rfl:=List.eq_nil_of_length_eq_zero ae;refine(p' b w iA).mono ?_
   rintro e w' ⟨rfl,rfl⟩
   exact⟨_,_,_,M,β,⟨rfl,rfl⟩,rfl,fin _ M HV⟩
  ·cases h
 ·subst eG
  have aiW:∃(b off cap:Nat) (val:Nat→Nat→Value),x = .slice (some ⟨b,off,none⟩) l.length cap∧l.length≤cap∧(∀i,i<l.length→(get i).cells.length=1)∧(∀i j,i<l.length→j<1→M b (off+i*1+j)=some (val i j))∧
   (∀i j,i<l.length→j<1→(val i j).oneCell'=true)∧(∀(i j:Nat) c,i<l.length→(get i).cells[j]? = some c→dw M (val i j) c):=by
   rcases tQ f9 with⟨h|⟨a,h⟩,dG⟩|hx
   ·rw [Z]at h;cases h
   ·rw [Z]at h;simp only [Value.slice.injEq,Option.some.injEq]at h;obtain⟨rfl,rfl,rfl⟩:=h;exact⟨g,0,0,λ_ _=>undef,Z.trans (by rw [dG]),by omega,λi hi=>by omega,λi j hi=>by omega,λi j hi=>by omega,λi j c hi=>by omega⟩
   ·exact hx
  obtain⟨g2,off,atg,val,ao,hc,hk,db,ath,ii⟩:=aiW
  focus
  ·rw [Z]at ao;simp only [Value.slice.injEq,Option.some.injEq,Addr.mk.injEq,and_true]at ao;obtain⟨⟨rfl,rfl⟩,rfl,rfl⟩:=ao;rw [aiT,Nat.mul_one]at aR;subst Z;by_cases ae:l=[]
   ·subst ae;by_cases hcap:cap=0
    ·subst hcap;refine(aiU b g w us iA aiV am).mono ?_
     rintro e w' ⟨rfl,rfl⟩
     refine⟨_,_,_,M,β,⟨rfl,rfl⟩,rfl,fin _ M (HV.grow (λk hk=>?_))⟩
     exact Go.Lib.alloc_old _ _ k hk
    ·refine(fP b g cap w hcap iA).mono ?_
     rintro e w' ⟨rfl,rfl⟩
     exact⟨_,_,_,M,β,⟨rfl,rfl⟩,rfl,fin _ M HV⟩
   ·have Ck:∀(j:Nat) (x:UInt8),l[j]? = some x→us[j]? = some (Value.int .u8 x.toNat):=by
     intro j x hx;have hj:j<l.length:=(List.getElem?_eq_some_iff.1 hx).1;have e1:=hs.mem _ _ _ (db j 0 hj (by omega))
     have e2:=jc j hj;have e3:=ii j 0 (.int .u8 ((l.getD j 0).toNat:Int)) hj (by rw [e2];rfl)
     rw [cell_of_heap am,show 0+j*1+0=j by omega]at e1
     rw [e1];generalize val j 0=y at e3 ⊢
     cases e3;simp [List.getD,hx]
    refine(vS b g cap w us l ae iA am hc aR h63 Ck).mono ?_
    rintro e w' ⟨rfl,rfl⟩
    refine⟨_,_,.string ⟨⟨l⟩⟩,M,β,⟨rfl,rfl⟩,rfl,fin _ M ?_⟩
    have hfz:(w.drew.freeze ⟨g,0,none⟩ l.length).os=w.drew.os∧(w.drew.freeze ⟨g,0,none⟩ l.length).output=w.drew.output∧(∀k,k≠g→(w.drew.freeze ⟨g,0,none⟩ l.length).heap[k]? = w.drew.heap[k]?)∧∃o6,(w.drew.freeze ⟨g,0,none⟩ l.length).heap[g]? = some (.cells ⟨us⟩ T' o6):=by
     have hg':w.drew.heap[g]? = some (.cells ⟨us⟩ T' (0,0)):=am;have b2:=lt_of_heap hg';have cO:w.drew.heap[g] = .cells ⟨us⟩ T' (0,0):=by simpa [Array.getElem?_eq_getElem b2]using hg'
     unfold World.freeze;split
     ·exact⟨rfl,rfl,λ_ _=>rfl,_,hg'⟩
     ·refine⟨rfl,rfl,λk hk=>?_,?_⟩
      ·simp only [Array.getElem?_modify];rw [if_neg (by simpa using(Ne.symm hk))]
      ·simp only [Array.getElem?_modify];rw [if_pos trivial,hg'];exact⟨_,rfl⟩
    obtain⟨f1,f2,f3,o6,f4⟩:=hfz;refine HV.free g cz (λr c ah mD=>pg.unbox g r c rfl ah mD) (λq e hr av tU aiX=>?_) (λk hk _=>f3 k hk) (Mem.le_refl _) (λ_ _ _=>rfl) (λo v ao=>?_) (by rw [f1,f2])
    ·refine pg.apart q e hr g av tU ?_ rfl aiX
     rintro rfl
     simp only [aK.at,h5,sA,da,look]at av;simp at av;subst av;cases tU
    ·have:=hs.mem _ _ _ ao
     rw [cell_of_heap am]at this;rw [cell_of_heap f4,this]
end
def wz(w:World):Mem:=λb o=>w.cell? ⟨b,o,none⟩
def rx(w:World)(vs:List Value)(cs:List V):Prop:=
 vs.length=cs.length∧(∀v,v∈vs→v.oneCell'=true)∧∀(i:Nat) v c,vs[i]? = some v→cs[i]? = some c→dw (wz w) v c
def rx.nil{w:World}:rx w [] []:=⟨rfl,(λv h=>by cases h),λi v c h=>by simp at h⟩
def rx.one{w:World}{v:Value}{c:V}(Z:v.oneCell'=true)(h:dw (wz w) v c):rx w [v] [c]:=
 ⟨rfl,(λu hu=>by obtain rfl:=List.mem_singleton.1 hu;exact Z),λi u d hu hd=>by
  match i with
  | 0=>cases hu;cases hd;exact h
  |i+1=>simp at hu⟩
def rx.app{w:World}{vs us:List Value}{cs ds:List V}(h:rx w vs cs)(cO:rx w us ds):rx w (vs++us) (cs++ds):=by
 refine⟨by simp [h.1,cO.1],λv ao=>?_,λi v c ao hc=>?_⟩
 ·rcases List.mem_append.1 ao with ao|ao
  ·exact h.2.1 v ao
  ·exact cO.2.1 v ao
 ·by_cases hi:i<vs.length
  ·rw [List.getElem?_append_left hi]at ao;rw [List.getElem?_append_left (by rw [←h.1];exact hi)]at hc
   exact h.2.2 i v c ao hc
  ·rw [List.getElem?_append_right (by omega)]at ao
   rw [List.getElem?_append_right (by rw [←h.1];omega),←h.1]at hc
   exact cO.2.2 _ v c ao hc
def rx.agg{w:World}{vs:List Value}{cs:List V}(h:rx w vs cs):dw (wz w) (.agg ⟨vs⟩) (.agg cs):=.agg vs cs h.1 h.2.1 h.2.2
section
variable {H:Type} {enc:TypeId×Value→H} {P:Program} {w:World}
end
section
variable {P:Program} {K:Ctx} {N E:Nat} {M:Mem} {β:Nat→Option Nat} {st b':aK} {tmps:Array Value} {w:World}
mutual
def ry(r:Nat)(x:V):D→D
 |.v y=>.v y
 |.ptr q off=>bif Nat.beq q r&&Nat.beq off 0 then .fg x else .ptr q off
 |.cK q off u=>.cK q off u
 |.fg y=>.fg y
 |.full k n g=>.full k n g
 |.fn f cs=>.fn f (rz r x cs)
 |.agg cs=>.agg (rz r x cs)
 |.bU cs=>.bU (rz r x cs)
def rz(r:Nat)(x:V):List D→List D
 |[]=>[]
 |d::l=>ry r x d::rz r x l
end
def HW(r:Nat)(x:V):∀(l:List D) (i:Nat),(rz r x l)[i]? = (l[i]?).map (ry r x)
 |[],i=>by simp [rz]
 |d::l,0=>by simp [rz]
 |d::l,i+1=>by simp only [rz,List.getElem?_cons_succ];exact HW r x l i
def HX(r:Nat)(x:V):∀l:List D,(rz r x l).length=l.length
 |[]=>rfl
 |d::l=>by simp only [rz,List.length_cons,HX r x l]
def cE.o6{M':Mem}(db:M.le M'){r b:Nat}{x:V}{u:Value}(hb:β r=some b)(hx:x.isAgg=false)(hu:M' b 0=some u)(Z:u.oneCell'=true)(ah:dw M' u x){v:Value}{d:D}(h:cE M β v d):cE M' β v (ry r x d):=by
 induction h with
 |v u x h=>exact .v u x (h.mono db)
 |ptr q off bM h=>
  simp only [ry];cases hc:Nat.beq q r&&Nat.beq off 0 with
  |false=>exact .ptr q off bM h
  |true=>
   simp only [Bool.and_eq_true,Nat.beq_eq]at hc;obtain⟨rfl,rfl⟩:=hc;rw [hb]at h;cases h;have yQ:=yC hx;refine .fg b 0 x (λ_=>u) (λj hj=>?_) (λj hj=>Z) (λj c hc=>?_)
   ·rw [yQ]at hj;simp at hj
    subst hj;exact hu
   ·rw [yQ]at hc;cases j with
    |zero=>simp at hc;subst hc;exact ah
    |succ j=>simp at hc
 |l9 q off t=>exact .l9 q off t
 |cK q off bM t h=>exact .cK q off bM t h
 |fg b off x val hm Z h=>exact .fg b off x val (λj hj=>db _ _ _ (hm j hj)) Z (λj c hc=>(h j c hc).mono db)
 |full base k n get h=>exact .full base k n get (h.mono db)
 |fn f vs cs hn _ aW=>
  simp only [ry];refine .fn f vs _ (by rw [HX];exact hn) λi v c ao hc=>?_
  rw [HW]at hc;simp only [Option.map_eq_some_iff]at hc;obtain⟨c0,h0,rfl⟩:=hc;exact aW i v c0 ao h0
 |agg vs cs hn Z _ aW=>
  simp only [ry];refine .agg vs _ (by rw [HX];exact hn) Z λi v c ao hc=>?_
  rw [HW]at hc;simp only [Option.map_eq_some_iff]at hc;obtain⟨c0,h0,rfl⟩:=hc;exact aW i v c0 ao h0
 |bU vs cs hn _ aW=>
  simp only [ry];refine .bU vs _ (by rw [HX];exact hn) λi v c ao hc=>?_
  rw [HW]at hc;simp only [Option.map_eq_some_iff]at hc;obtain⟨c0,h0,rfl⟩:=hc;exact aW i v c0 ao h0
def y3(r:Nat)(x:V)(e:aZ):aZ:={d:=ry r x e.d,own:=e.own}
def HY(r:Nat)(x:V):List (Nat×aZ)→List (Nat×aZ)
 |[]=>[]
 |(t,e)::l=>(t,y3 r x e)::HY r x l
def HZ(r:Nat)(x:V):List (Nat×List aZ)→List (Nat×List aZ)
 |[]=>[]
 |(t,cs)::l=>(t,cs.map (y3 r x))::HZ r x l
def YO(r:Nat)(x:V):∀(l:List (Nat×aZ)) (s:Nat),look (HY r x l) s=(look l s).map (y3 r x)
 |[],s=>rfl
 |(t,e)::l,s=>by
  simp only [HY,dN];by_cases h:t=s
  ·simp [h]
  ·simp only [h,if_false];exact YO r x l s
def Po(r:Nat)(x:V):∀(l:List (Nat×List aZ)) (s:Nat),look (HZ r x l) s=(look l s).map λcs=>cs.map (y3 r x)
 |[],s=>rfl
 |(t,cs)::l,s=>by
  simp only [HZ,dN];by_cases h:t=s
  ·simp [h]
  ·simp only [h,if_false];exact Po r x l s
def um(r:Nat)(x:V)(st:aK):aK:={env:=HY r x st.env,H:=HZ r x (del st.H r),a1:=st.a1}
def CZ{r:Nat}{x:V}{l:Loc}{a7:aZ}(h:(um r x st).at l=some a7):∃e,aK.at {env:=st.env,H:=del st.H r,a1:=st.a1} l=some e∧a7=y3 r x e:=by
 cases l with
 |slot s=>
  simp only [aK.at,um,YO,Option.map_eq_some_iff]at h ⊢;obtain⟨e,Z,ad⟩:=h;exact⟨e,Z,ad.symm⟩
 |cell q i=>
  simp only [aK.at,um,Po,Option.bind_eq_some_iff,Option.map_eq_some_iff]at h ⊢;obtain⟨cs,⟨lP,Z,rfl⟩,ad⟩:=h;rw [List.getElem?_map,Option.map_eq_some_iff]at ad;obtain⟨e,am,aR⟩:=ad;exact⟨e,⟨lP,Z,am⟩,aR.symm⟩
def aiY{r:Nat}{x:V}{d:D}{q off:Nat}{u:TypeId}(h:ry r x d = .cK q off u):d = .cK q off u:=by
 cases d<;>simp only [ry]at h
 case ptr q' o'=>cases hc:Nat.beq q' r&&Nat.beq o' 0<;>rw [hc]at h<;>cases h
 all_goals first|exact h|cases h
def bR.freeze(h:bR P K M β st tmps w){r:Nat}{x:V}{own:Option TypeId}(ah:look st.H r=some [⟨.v x,own⟩])(hx:x.isAgg=false):∃M',bR P K M' β (um r x st) tmps w:=by
 obtain⟨b,vs,T,hb,bB,hlen,YP,dV,gL,hlies⟩:=h.box r _ ah
 obtain⟨u,rfl⟩:∃u,vs=[u]:=by
  match vs,hlen with
  |[u],_=>exact⟨u,rfl⟩
 have H0:∀q cs,look (del st.H r) q=some cs→q≠r∧look st.H q=some cs:=by
  intro q cs av;rw [q3]at av;split at av
  ·cases av
  ·rename_i dY;exact⟨λe=>dY e.symm,av⟩
 have Z:bR P K M β {env:=st.env,H:=del st.H r,a1:=st.a1} tmps w:=h.sub rfl (λl e ae=>by
  cases l with
  |slot s=>exact⟨e,ae,rfl,λ_ h=>h⟩
  |cell q i=>
   simp only [aK.at,Option.bind_eq_some_iff]at ae ⊢;obtain⟨cs,ad,am⟩:=ae;exact⟨e,⟨cs,(H0 _ _ ad).2,am⟩,rfl,λ_ h=>h⟩) (λq cs av=>⟨cs,(H0 _ _ av).2,rfl⟩)
 have hle:M.le (jt M b 0 [u]):=NU λo _=>YP o
 have iA:jt M b 0 [u] b 0=some u:=by simp [jt]
 have ad:bR P K (jt M b 0 [u]) β {env:=st.env,H:=del st.H r,a1:=st.a1} tmps w:=by
  refine Z.free b dV (λq cs av aiZ=>?_) (λl e T' ae aT nr=>?_) (λ_ _ _=>rfl) hle (λbM o dY=>by simp [jt,dY]) (λo v ao=>?_)
  ·obtain⟨am,aR⟩:=H0 _ _ av;exact am (h.inj q r b _ _ aR ah aiZ hb)
  ·have hl0:∃bO,st.at l=some bO∧bO.own=some T':=by
    cases l with
    |slot s=>exact⟨e,ae,aT⟩
    |cell q i=>
     simp only [aK.at,Option.bind_eq_some_iff]at ae ⊢;obtain⟨cs,am,aR⟩:=ae;exact⟨e,⟨cs,(H0 _ _ am).2,aR⟩,aT⟩
   obtain⟨bO,am,aR⟩:=hl0;exact h.unbox l bO T' b r _ am aR nr ah hb
  ·rw [cell_of_heap bB];unfold jt at ao;split at ao
   ·rename_i hc;simpa using ao
   ·rw [YP o]at ao;cases ao
 have f9:dw (jt M b 0 [u]) u x:=by
  have am:=h.fb (.cell r 0) ⟨.v x,own⟩ (by rw [aK.Nv ah];rfl)
  have aR:cn tmps w β (.cell r 0)=u:=by simp only [cn,hb,cell_of_heap bB];simp
  rw [aR]at am;cases am with
  |v _ _ bv=>exact bv.mono hle
 refine⟨jt M b 0 [u],?_⟩
 have vt:∀q cs',look (um r x st).H q=some cs'→∃cs,look (del st.H r) q=some cs∧cs'=cs.map (y3 r x):=by
  intro q cs' av;simp only [um,Po,Option.map_eq_some_iff]at av;obtain⟨cs,am,aR⟩:=av;exact⟨cs,am,aR.symm⟩
 constructor
 ·intro l a7 ae;obtain⟨e,am,rfl⟩:=CZ ae;exact(ad.fb l e am).o6 (Mem.le_refl _) hb hx iA (gL u (by simp)) f9
 ·intro l a7 T' ae aT;obtain⟨e,am,rfl⟩:=CZ ae;exact ad.own l e T' am aT
 ·intro l cR e a7 T' ai0 bM ae aT cZ ep;obtain⟨e1,am,rfl⟩:=CZ ae;obtain⟨e2,aR,rfl⟩:=CZ cZ;exact ad.uniq l cR e1 e2 T' ai0 bM am aT aR ep
 ·intro l e T' bM q cs ae aT nr av;obtain⟨e1,am,rfl⟩:=CZ ae;obtain⟨lP,aR,_⟩:=vt q cs av;exact ad.unbox l e1 T' bM q lP am aT nr aR
 ·intro q cs av;obtain⟨lP,aR,rfl⟩:=vt q cs av;obtain⟨bM,vs',T',g1,g2,g3,g4,g5,g6,g7⟩:=ad.box q lP aR;refine⟨bM,vs',T',g1,g2,by simpa using g3,g4,g5,g6,λe he q' off t hd=>?_⟩
  obtain⟨bO,Nz,rfl⟩:=List.mem_map.1 he;exact g7 bO Nz q' off t (aiY hd)
 ·intro q q' bM cs cs' av qc cP fk;obtain⟨c1,am,_⟩:=vt q cs av;obtain⟨c2,aR,_⟩:=vt q' cs' qc;exact ad.inj q q' bM c1 c2 am aR cP fk
 ·exact ad.lt
 ·exact ad.mem
 ·exact ad.m0
 ·exact ad.frame
 ·exact ad.iH
 ·exact ad.jq
 ·exact ad.h1
def C0(H:List (Nat×List aZ))(r:Nat):Option V:=
 match look H r with
 |some [⟨.v x,_⟩]=>bif x.isAgg then none else some x
 |_=>none
def ba.freeze{c:Code}{Q:cr→aK→Prop}(r:Nat)(x:V)(ah:C0 st.H r=some x)(h:ba P N E c Q (um r x st)):ba P N E c Q st:=by
 rintro K et a w ⟨he,hd,eC,M,β,c'⟩
 unfold C0 at ah;split at ah
 ·rename_i y own ae;rw [Bool.cond_eq_ite]at ah;split at ah
  ·cases ah
  ·rename_i hx;cases ah;obtain⟨M',hs⟩:=c'.freeze ae (by simpa using hx)
   exact h K et a w ⟨he,hd,eC,M',β,hs⟩
 ·cases ah
def C1(r:Nat)(st:aK):aK:=match C0 st.H r with
 |some x=>um r x st
 |none=>st
def Pp(r:Nat)(Q:cr→aK→Prop):cr→aK→Prop
 |.normal,st=>Q .normal (C1 r st)
 |.ret,st=>Q .ret (C1 r st)
 |e,st=>Q e st
def YQ{K:Ctx}{M:Mem}{β:Nat→Option Nat}{tmps:Array Value}{w:World}(r:Nat)(h:bR P K M β st tmps w):∃M',bR P K M' β (C1 r st) tmps w:=by
 unfold C1;cases hx:C0 st.H r with
 |none=>exact⟨M,h⟩
 |some x=>
  unfold C0 at hx;split at hx
  ·rename_i y own ae;rw [Bool.cond_eq_ite]at hx;split at hx
   ·cases hx
   ·rename_i ai1;cases hx;exact h.freeze ae (by simpa using ai1)
  ·cases hx
def ba.o6{x:Code}{Q:cr→aK→Prop}(r:Nat)(h:ba P N E x (Pp r Q) st):ba P N E x Q st:=by
 intro K et a w hs;refine wp_mono (h K et a w hs) ?_
 rintro e dO w' ⟨fI,b',Z,ad⟩
 cases fI with
 |normal=>
  obtain⟨g1,g2,g3,M,β,g4⟩:=Z;obtain⟨M',g5⟩:=YQ r g4;exact⟨.normal,_,⟨g1,g2,g3,M',β,g5⟩,ad⟩
 |ret=>
  obtain⟨g1,g2,g3,M,β,g4⟩:=Z;obtain⟨M',g5⟩:=YQ r g4;exact⟨.ret,_,⟨g1,g2,g3,M',β,g5⟩,ad⟩
 |exit i=>exact⟨.exit i,b',Z,ad⟩
 |bj x=>exact⟨.bj x,b',Z,ad⟩
def C2(s e:aZ):aZ:=match s.own with|none=>{d:=e.d} |some _=>e
def y4:List (Nat×aZ)→List (Nat×aZ)→List (Nat×aZ)
 |(_,s)::l,(t,e)::m=>(t,C2 s e)::y4 l m
 |_,m=>m
def ox:List aZ→List aZ→List aZ
 |s::l,e::m=>C2 s e::ox l m
 |_,m=>m
def y5:List (Nat×List aZ)→List (Nat×List aZ)→List (Nat×List aZ)
 |(_,s)::l,(t,cs)::m=>(t,ox s cs)::y5 l m
 |_,m=>m
def fit(s st:aK):aK:={env:=y4 s.env st.env,H:=y5 s.H st.H,a1:=st.a1}
def H2(s e:aZ):(C2 s e).d=e.d∧∀T,(C2 s e).own=some T→e.own=some T:=by
 unfold C2;split
 ·exact⟨rfl,λT h=>by cases h⟩
 ·exact⟨rfl,λT h=>h⟩
def YR:∀(l m:List (Nat×aZ)) (t:Nat) (a7:aZ),look (y4 l m) t=some a7→∃e,look m t=some e∧e.d=a7.d∧∀T,a7.own=some T→e.own=some T
 |[],m,t,a7,h=>⟨a7,by simpa [y4]using h,rfl,λ_ h=>h⟩
 |(a,s)::l,[],t,a7,h=>by simp [y4,look]at h
 |(a,s)::l,(q,e)::m,t,a7,h=>by
  simp only [y4,dN]at h ⊢;split at h
  ·rename_i av;rw [if_pos av];cases h;exact⟨e,rfl,(H2 s e).1.symm,(H2 s e).2⟩
  ·rename_i av;rw [if_neg av];exact YR l m t a7 h
def YS:∀(l m:List aZ) (i:Nat) (a7:aZ),(ox l m)[i]? = some a7→∃e,m[i]? = some e∧e.d=a7.d∧∀T,a7.own=some T→e.own=some T
 |[],m,i,a7,h=>⟨a7,by simpa [ox]using h,rfl,λ_ h=>h⟩
 |s::l,[],i,a7,h=>by simp [ox]at h
 |s::l,e::m,0,a7,h=>by
  simp only [ox,List.getElem?_cons_zero,Option.some.injEq]at h;subst h;exact⟨e,rfl,(H2 s e).1.symm,(H2 s e).2⟩
 |s::l,e::m,i+1,a7,h=>by
  simp only [ox,List.getElem?_cons_succ]at h ⊢;exact YS l m i a7 h
def YT:∀l m:List aZ,(ox l m).length=m.length
 |[],m=>by simp [ox]
 |s::l,[]=>by simp [ox]
 |s::l,e::m=>by simp only [ox,List.length_cons,YT l m]
def Pq:∀(l m:List (Nat×List aZ)) (t:Nat) (cs':List aZ),look (y5 l m) t=some cs'→∃cs s,look m t=some cs∧cs'=ox s cs
 |[],m,t,cs',h=>⟨cs',[],by simpa [y5]using h,by simp [ox]⟩
 |(a,s)::l,[],t,cs',h=>by simp [y5,look]at h
 |(a,s)::l,(q,cs)::m,t,cs',h=>by
  simp only [y5,dN]at h ⊢;split at h
  ·rename_i av;rw [if_pos av];cases h;exact⟨cs,s,rfl,rfl⟩
  ·rename_i av;rw [if_neg av];exact Pq l m t cs' h
def bR.fit(h:bR P K M β st tmps w)(s:aK):bR P K M β (fit s st) tmps w:=
 h.sub rfl (λl a7 ae=>by
  cases l with
  |slot t=>exact YR _ _ _ _ ae
  |cell q i=>
   simp only [aK.at,Ab.fit,Option.bind_eq_some_iff]at ae;obtain⟨cs',Z,ad⟩:=ae;obtain⟨cs,z,am,rfl⟩:=Pq _ _ _ _ Z;obtain⟨e,aR,bv⟩:=YS _ _ _ _ ad;exact⟨e,by simp only [aK.at,am,Option.bind_some];exact aR,bv⟩) (λq cs' av=>by
   obtain⟨cs,z,am,rfl⟩:=Pq _ _ _ _ av;exact⟨cs,am,(YT _ _).symm⟩)
def ba.fit{c:Code}{Q:cr→aK→Prop}(s:aK)(h:ba P N E c Q (Ab.fit s st)):ba P N E c Q st:=by
 rintro K et a w ⟨he,hd,eC,M,β,c'⟩
 exact h K et a w ⟨he,hd,eC,M,β,c'.fit s⟩
def ba.Pr{c:Code}{Q:cr→aK→Prop}(s:aK)(live yx:List Nat)(n:Nat)(ah:(vq live yx n st.env st.H st.a1).map (Ab.fit s)=some b')(ch:Nat.ble E n=true)(h:ba P N E c Q b'):ba P N E c Q st:=by
 simp only [Option.map_eq_some_iff]at ah;obtain⟨ati,Z,rfl⟩:=ah;exact ba.drop live yx n Z ch (h.fit s)
def forget(pn:List Nat):List (Nat×aZ)→List (Nat×aZ)
 |[]=>[]
 |(t,e)::l=>(t,bif pn.any (Nat.beq t)then {d:=e.d}else e)::forget pn l
def YU(pn:List Nat):∀(m:List (Nat×aZ)) (t:Nat) (a7:aZ),look (forget pn m) t=some a7→∃e,look m t=some e∧e.d=a7.d∧∀T,a7.own=some T→e.own=some T
 |[],t,a7,h=>by simp [forget,look]at h
 |(q,e)::m,t,a7,h=>by
  simp only [forget,dN]at h ⊢;split at h
  ·rename_i av;rw [if_pos av];cases h;refine⟨e,rfl,?_⟩
   cases pn.any (Nat.beq q)
   ·exact⟨rfl,λ_ h=>h⟩
   ·exact⟨rfl,λT h=>by cases h⟩
  ·rename_i av;rw [if_neg av];exact YU pn m t a7 h
def ba.forget{c:Code}{Q:cr→aK→Prop}(pn:List Nat)(h:ba P N E c Q {env:=Ab.forget pn st.env,H:=st.H,a1:=st.a1}):ba P N E c Q st:=by
 rintro K et a w ⟨he,hd,eC,M,β,c'⟩
 refine h K et a w ⟨he,hd,eC,M,β,c'.sub rfl (λl a7 ae=>?_) (λq cs av=>⟨cs,av,rfl⟩)⟩
 cases l with
 |slot t=>exact YU _ _ _ _ ae
 |cell q i=>exact⟨a7,ae,rfl,λ_ h=>h⟩
end
def un(st:aK):dt:={env:=st.env,ca:=[],H:=st.H,a1:=st.a1,rs:=[],bc:=[]}
def uo:Option tL→dt
 |some (.go g)=>g
 |_=>{env:=[],ca:=[],H:=[],a1:=0,rs:=[],bc:=[]}
def Ps:Option tL→Option (List Prop)
 |some (.go g)=>some g.bc
 |_=>none
def YV(g:dt):aK:={env:=g.env,H:=g.H,a1:=g.a1}
def rA(o:Oper)(b:Bool):Oper:={o with op:=.move (.const (.bool b))}
def YW{x:Option tL}{cS:List Prop}(h:Ps x=some cS):x=some (.go (uo x))∧(uo x).bc=cS:=by
 cases x with
 |none=>cases h
 |some f=>
  cases f with
  |go g=>exact⟨rfl,by injection h⟩
  |bj _ _ _=>cases h
section
variable {P:Program} {N E:Nat} {st:aK} {tt:dS}
def ba.YX{id:Nat}{k0 c8:Oper}{t1:Nat}{ty OK e:TypeId}{k n:Nat}{get:Nat→V}{own:Option TypeId}{Q:cr→aK→Prop}
 (co:fl P tt=true) (Z:c8.op = .binOp .eql ty (.tmp t1) (.const (.slice none 0 0)) OK) (hg:c8.guard=none) (pf:P.underlying ty=some (.slice e))
 (bk:Ps (kv (hT P) tt N [k0,c8] (un st) k0)=some [])
 (ao:look (uo (kv (hT P) tt N [k0,c8] (un st) k0)).env t1=some ⟨.v (.bT k n get),own⟩)
 (s1:∀b,Ps (kv (hT P) tt N [k0,rA c8 b] (uo (kv (hT P) tt N [k0,c8] (un st) k0)) (rA c8 b))=some [])
 (dT:∀b:Bool,(b=true→n=0)→Q .normal (YV (uo (kv (hT P) tt N [k0,rA c8 b] (uo (kv (hT P) tt N [k0,c8] (un st) k0)) (rA c8 b))))):
 ba P N E (.region id #[k0,c8] false) Q st:=by
 rintro K et a w ⟨_,hd,eC,M,β,c'⟩
 obtain⟨tmps,ds⟩:=a;simp only at hd eC
 subst hd;have qm:fO P K N M β (un st) tmps w:=⟨c',eC,(λ_ _ h=>by simp [un,look]at h),λ_ _ _ h=>by simp [un,look]at h⟩
 refine wp_region ?_;obtain⟨bO,Pm⟩:=YW bk;generalize uo (kv (hT P) tt N [k0,c8] (un st) k0)=g1 at bO Pm ao s1 dT
 show wpOps P #[k0,c8] _ [0,1] ⟨tmps,K.ds⟩ w
 rw [wpOps];refine CH (ops:=[k0,c8]) qm co (opsA := #[k0,c8]) rfl bO (λq av=>by rw [Pm]at av;cases av) ?_
 intro eB w' M' β' cO;rw [wpOps];show if Region.wanted c8 (yielded #[k0,c8] eB)=true then _ else _
 rw [if_pos (by unfold Region.wanted;rw [hg])]
 have ah:=cO.bC.fb (.slot t1) _ ao
 obtain⟨base,len,cap,cB,hb⟩:∃(base:Option Addr) (len cap:Nat),eB.getD t1 undef = .slice base len cap∧(base=none→n=0):=by
  have fj:cE M' β' (eB.getD t1 undef) (.v (.bT k n get)):=ah;generalize eB.getD t1 undef=v at fj
  cases fj with
  |v _ _ hx=>
   cases hx with
   |mv=>exact⟨none,0,0,rfl,λ_=>rfl⟩
   |p4 a=>exact⟨some a,0,0,rfl,λh=>by cases h⟩
   |bT b off _ _ cap=>exact⟨some ⟨b,off,none⟩,_,cap,rfl,λh=>by cases h⟩
 obtain⟨e1,HK⟩:=YW (s1 base.isNone);have ln:=dT base.isNone (λh=>hb (by cases base with|none=>rfl|some _=>cases h))
 generalize uo (kv (hT P) tt N [k0,rA c8 base.isNone] g1 (rA c8 base.isNone))=g2 at e1 HK ln
 have uq:=CH (ops:=[k0,rA c8 base.isNone]) cO co (opsA := #[k0,rA c8 base.isNone]) rfl e1 (λq av=>by rw [HK]at av;cases av)
  (Q:=λe dO w'=>∃fI b',rm P K N fI b' e dO w'∧Q fI b') (next:=λdO w'=>∃fI b',rm P K N fI b' .normal dO w'∧Q fI b')
  (λatj atk M2 sI ad=>⟨.normal,YV g2,⟨rfl,rfl,ad.size,M2,sI,ad.bC⟩,ln⟩)
 rw [if_pos (by unfold Region.wanted rA;rw [hg])]at uq
 have hx:(execOp (Act.eval ⟨eB,K.ds⟩) c8).run P w' = .ok (.value (.bool base.isNone)) w':=by
  rw [yS];refine rk (a:=.slice base len cap) (b:=.slice none 0 0) Z cB rfl (vW (by simp) (by simp)) ?_
  exact Lib.run_eql_slice_nil w' ty e base len cap 0 0 pf
 refine .inl (show Oper.upon P c8 ⟨eB,K.ds⟩ _ _ ((execOp (Act.eval ⟨eB,K.ds⟩) c8).run P w') from(?_))
 rw [hx,Oper.upon_value,wpOps];rcases uq with uq|⟨uq,_⟩
 ·unfold Oper.wp at uq;rw [show(execOp (Act.eval ⟨eB,K.ds⟩) (rA c8 base.isNone)).run P w' = .ok (.value (.bool base.isNone)) w' from rfl,Oper.upon_value]at uq
  exact uq
 ·exact absurd uq.1 (by intro bB;have:noRoomEvent∈(#[]:Array Event):=bB;cases this with|mk h=>cases h)
end
end Go.Ab

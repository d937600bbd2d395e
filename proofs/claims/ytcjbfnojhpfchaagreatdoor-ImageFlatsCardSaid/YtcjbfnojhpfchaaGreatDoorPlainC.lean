/- The plain law: what the functions compute answers as the statement says. -/
import Derived.Test.YtcjbfnojhpfchaaGreatDoorPlainB
set_option linter.all false
namespace Go.Ab.Y
open Go Go.Ab Go.Proofs
def aof(n:Nat)(t:Int):R3 n t=some (nS t):=abT n t
def acb(x:atW):∀l:List atW,Lib.joinTail [44,32] (l++[x])=Lib.joinTail [44,32] l++([44,32]++x)
 |[]=>by simp [Lib.joinTail]
 |y::l=>by rw [List.cons_append,FB,FB,acb x l];simp
def aog(x:atW)(l:List atW):Lib.join (l++[x]) [44,32]=(if l.length=0 then Lib.join l [44,32]else Lib.join l [44,32]++[44,32])++x:=by
 cases l with
 |nil=>simp [Lib.join,Lib.joinTail]
 |cons y l=>rw [List.cons_append,Lib.join_cons,Lib.join_cons,acb,if_neg (by simp)];simp
def aoh{n:Nat}(p:bc)(hi:qv p)(aw:mB p=0)(hn:3000000≤n)(aW:h2 p.Params≤300000)(cL:du p.Body≤300000):Aa n p=some (kP p):=by
 have hp:=LV hi aw;obtain⟨Z,aa,aj⟩:=hp;obtain⟨aC,aT⟩:=FA aa;have cK:=pp Z;have di:=oF p.Body 1 aj;unfold Aa;rw [aa8 p (by omega) (by omega) (by omega) (by omega) (by omega) (by omega) (by omega),aw]
 simp only [al,atF,atJ,atI];rw [gC (by simp only [atL,atM];omega),gC (by simp only [atP,atL,atM];omega)]
 simp only [aL]
 have gN:∀m i,p.Params.length<i+m→i≤p.Params.length→Eh n p m ((([112,114,111,99,32]++p.Name)++[40])++ne (p.Params.take i)) (i:Int)=some (kP p):=by
  intro m;induction m with
  |zero=>intro i g1 g2;omega
  |succ m aH=>
   intro i g1 g2;have acd:(ne (p.Params.take i)).length≤24*(p.Params.take i).length:=T6 λx hx=>aT x (List.mem_of_mem_take hx)
   have aoi:(p.Params.take i).length≤6:=by simp;omega
   simp only [Eh,R6,Kj,R5,atO,atN];by_cases hi:i<p.Params.length
   ·have hx:=aT (p.Params.getD i default) (by rw [List.getD_eq_getElem?_getD,List.getElem?_eq_getElem hi];exact List.getElem_mem hi)
    have hnx:=pp hx.1;have ab0:=T4 (p.Params.getD i default).fs;have gn:=aH (i+1) (by omega) (by omega)
    unfold ne at gn acd ⊢;rw [xh p.Params i hi,List.map_append]at gn;simp only [List.map_cons,List.map_nil]at gn;rw [aog]at gn;generalize mV:p.Params.getD i default=x at gn hnx ab0
    simp only [hi,atF,atH,bI hi,aL,aof,al,bv (show i≤4611686018427387904 by omega),eL]
    by_cases h0:i=0
    ·subst h0;simp (disch:=first|omega|(simp only [atP,atL,atM];omega)) only [Nat.lt_irrefl,decide_false,cond_false,gC,aL]
     rw [←gn];simp [mJ]
    ·simp (disch:=first|omega|(simp only [atP,atL,atM];omega)) only [show 0<i by omega,decide_true,cond_true,gC,aL]
     rw [←gn,if_neg (by rw [List.length_map,List.length_take];omega)];simp [mJ]
   ·simp only [hi,atG,atI];obtain rfl:i=p.Params.length:=by omega
    unfold R4;rw [List.take_length]at acd aoi ⊢;rw [show(1:Int)=((1:Nat):Int)from rfl,aoc n p.Body 1 aj cL (by omega)]
    simp (disch:=first|omega|(simp only [atP,atL,atM];omega)) only [al,gC,aL]
    simp [kP,dp,cat,ind]
 have:=gN n 0 (by omega) (by omega)
 rw [show ne (p.Params.take 0)=[]from rfl,List.append_nil]at this
 exact this
def aoj{β:Type}{L:Nat→Int→Option β}{len:Nat}{chk:Nat→Bool}{no yes:β}
 (step:∀m i,i<len→L (m+1) (i:Int)=if chk i then L m ((i+1:Nat):Int)else some no) (stop:∀m,L (m+1) (len:Int)=some yes):
 ∀m i,len<i+m→i≤len→L m (i:Int)=some (if(List.range' i (len-i)).all chk then yes else no):=by
 intro m;induction m with
 |zero=>intro i h aa;omega
 |succ m aH=>
  intro i h aa;by_cases hi:i<len
  ·rw [step m i hi,aH (i+1) (by omega) (by omega),show len-i=(len-(i+1))+1 by omega,List.range'_succ,List.all_cons]
   cases chk i
   ·rfl
   ·rw [if_pos rfl,Bool.true_and]
  ·obtain rfl:i=len:=by omega
   rw [stop m];simp
def Ue{β:Type}{L:Nat→Int→Option β}{len:Nat}{chk:Nat→Bool}{no yes:β}{m:Nat}(hm:len<m)
 (step:∀m i,i<len→L (m+1) (i:Int)=if chk i then L m ((i+1:Nat):Int)else some no) (stop:∀m,L (m+1) (len:Int)=some yes):
 L m 0=some (if(List.range len).all chk then yes else no):=by
 have:=aoj step stop m 0 (by omega) (by omega)
 rwa [Nat.sub_zero,←List.range_eq_range']at this
def qz(c:UInt8):Bool:=decide (97≤c.toNat∧c.toNat≤122)||decide (48≤c.toNat∧c.toNat≤57)||decide (c.toNat=47)||decide (c.toNat=46)||decide (c.toNat=95)||decide (c.toNat=45)
def ju(k:atW):Bool:=decide (1≤k.length)&&decide (k.length≤24)&&(List.range k.length).all λi=>qz (k.getD i 0)
def aok{n:Nat}{s:atW}(h:24<n):Ht n s=some (decide (s.length≤24)&&(List.range s.length).all λi=>qz (s.getD i 0)):=by
 unfold Ht;by_cases ab:s.length≤24
 ·simp only [eL,show¬ 24<s.length by omega,atG,atI,ab,atF,Bool.true_and]
  rw [Ue (L:=yw n s) (len:=s.length) (chk:=λi=>qz (s.getD i 0)) (no:=false) (yes:=true) (by omega)]
  ·cases (List.range s.length).all λi=>qz (s.getD i 0)<;>rfl
  ·intro m i hi;simp only [yw,Hs,OQ,atO,hi,atF,atH,bI hi,aL,al,atN,bv (show i≤4611686018427387904 by omega),sZ,jD,fq,dt,ef]
   have:(((((decide (97≤(s.getD i 0).toNat)&&decide ((s.getD i 0).toNat≤122)||(decide (48≤(s.getD i 0).toNat)&&decide ((s.getD i 0).toNat≤57)))||decide ((s.getD i 0).toNat=47))||decide ((s.getD i 0).toNat=46))||decide ((s.getD i 0).toNat=95))||decide ((s.getD i 0).toNat=45))=qz (s.getD i 0):=by
    simp [qz,Bool.decide_and]
   rw [this];cases qz (s.getD i 0)<;>rfl
  ·intro m;simp only [yw,Hs,OR,atS,atG,atI]
 ·simp only [eL,show 24<s.length by omega,atF,atH,ab,atG,Bool.false_and]
def L5{n:Nat}{k:atW}(h:24<n):vY n k=some (ju k):=by
 unfold vY ju;rw [aok h];cases k with
 |nil=>rfl
 |cons c l=>simp [al]
def aol(c:Nat):(((((decide (c<97)||decide (122<c))&&(decide (c<48)||decide (57<c))) && !decide (c=47)) && !decide (c=46)) && !decide (c=95) && !decide (c=45)) = !(decide (97≤c∧c≤122)||decide (48≤c∧c≤57)||decide (c=47)||decide (c=46)||decide (c=95)||decide (c=45)):=by
 rw [Bool.eq_iff_iff];simp only [Bool.and_eq_true,Bool.or_eq_true,decide_eq_true_eq,Bool.not_eq_true',Bool.or_eq_false_iff,decide_eq_false_iff_not];omega
def L6{n:Nat}{k:atW}(h:k.length<n)(hk:k.length≤4611686018427387904):wP n k=some (ju k):=by
 unfold wP;rw [Ue (L:=zO n k) (len:=k.length) (chk:=λi=>qz (k.getD i 0)) (no:=false) (yes:=decide (1≤k.length)&&decide (k.length≤24)) h]
 ·unfold ju;cases (List.range k.length).all λi=>qz (k.getD i 0)<;>simp
 ·intro m i hi;simp only [zO,JG,atO,hi,atF,atH,bI hi,aL,atN,bv (show i≤4611686018427387904 by omega),pg,eL,fq,dt,ef]
  have:=aol (k.getD i 0).toNat
  rw [show(decide (97≤(k.getD i 0).toNat∧(k.getD i 0).toNat≤122)||decide (48≤(k.getD i 0).toNat∧(k.getD i 0).toNat≤57)||decide ((k.getD i 0).toNat=47)||decide ((k.getD i 0).toNat=46)||decide ((k.getD i 0).toNat=95)||decide ((k.getD i 0).toNat=45))=qz (k.getD i 0)from rfl]at this
  rw [this];cases qz (k.getD i 0)<;>rfl
 ·intro m;simp only [zO,JG,Ra,atS,atG,atI,sZ,jD,ef]
def ace(n:Nat)(s:atW):∀m,CK n s m=yL n s m
 | 0=>rfl
 |m+1=>by
  show OU n s (CK n s m)=_
  rw [ace n s m];rfl
def acf{n:Nat}{s:atW}(h:s.length<n)(hs:s.length≤4611686018427387904):CL n s=some (js s):=by
 unfold CL;rw [ace];exact aao h hs
def acg(n:Nat)(s:atW):∀m,DZ n s m=z7 n s m
 | 0=>rfl
 |m+1=>by
  show Rb n s (DZ n s m)=_
  rw [acg n s m];rfl
def aom{n:Nat}{s:atW}(h:s.length<n)(hs:s.length≤4611686018427387904):JH n s=some (js s):=by
 unfold JH js;by_cases ab:s.length≤64
 ·simp only [eL,show¬ 64<s.length by omega,atG,atI,ab,atF,Bool.and_true]
  rw [acg];exact ab_ s h hs
 ·simp only [eL,show 64<s.length by omega,atF,atH,ab,atG,Bool.and_false]
def jb(v:bp):Bool:=if v.Kind=0 then decide (v.N=0)&&decide (v.S=[])else if v.Kind=1 then decide (v.S=[])else decide (v.Kind=2)&&decide (v.N=0)&&js v.S
def L7{n:Nat}{v:bp}(h:v.S.length<n)(hs:v.S.length≤4611686018427387904):sB n v=some (jb v):=by
 unfold sB jb;by_cases h0:v.Kind=0
 ·simp [h0]
 ·by_cases Z:v.Kind=1
  ·simp [Z]
  ·by_cases aa:v.Kind=2
   ·by_cases aj:v.N=0
    ·simp [aa,aj,acf h hs]
    ·simp [aa,aj]
   ·simp [h0,Z,aa]
def L8{n:Nat}{v:bp}(h:v.S.length<n)(hs:v.S.length≤4611686018427387904):uj n v=some (jb v):=by
 unfold uj jb;by_cases h0:v.Kind=0
 ·by_cases aj:v.N=0<;>simp [h0,aj]
 ·by_cases Z:v.Kind=1
  ·simp [Z]
  ·by_cases aa:v.Kind=2
   ·by_cases aj:v.N=0
    ·simp [aa,aj,aom h hs]
    ·simp [aa,aj]
   ·simp [h0,Z,aa]
def bU(v:bp):atW:=if v.Kind=1 then e' 1++mK v.N else if v.Kind=2 then e' 2++gb v.S else e' 0
def Uf{n:Nat}{v:bp}(hn:10≤n)(aR:e5 v.N)(hs:v.S.length≤4611686018427387904):vZ n v=some (bU v):=by
 have Z:=rH aR;have aa:=L3 hs;have hK:=nf (u:=1) (by omega)
 have ke:=nf (u:=2) (by omega)
 have b3:hY n 0=some (e' 0):=uK (u:=0) hn (by omega)
 have e1:hY n 1=some (e' 1):=uK (u:=1) hn (by omega)
 have e2:hY n 2=some (e' 2):=uK (u:=2) hn (by omega)
 unfold vZ bU;by_cases c_:v.Kind=1
 ·simp (disch:=omega) only [c_,decide_true,cond_true,e1,al,xp hn aR,gC,aL,if_true]
 ·by_cases ak:v.Kind=2
  ·simp (disch:=omega) only [ak,show¬ (2:Int)=1 by omega,decide_true,decide_false,cond_true,cond_false,e2,al,uL hn hs,gC,aL,if_true,if_false]
  ·simp only [c_,ak,atG,atI,b3,al,atV]
def ach{v:bp}(aR:e5 v.N)(hs:v.S.length≤4611686018427387904):(bU v).length≤v.S.length+20:=by
 have Z:=rH aR;have aa:=L3 hs;have l0:=nf (u:=0) (by omega)
 have hK:=nf (u:=1) (by omega)
 have ke:=nf (u:=2) (by omega)
 unfold bU;split
 ·simp;omega
 ·split
  ·simp;omega
  ·omega
def lf:List Token→Nat
 |[]=>0
 |t::l=>(spell t).length+lf l
def aci:∀l m:List Token,lf (l++m)=lf l+lf m
 |[],m=>by simp [lf]
 |t::l,m=>by simp only [List.cons_append,lf,aci l m];omega
def b6(l:List Token)(i:Nat):Nat:=lf (l.take i)
def iS{α β:Type}(Q:α→β→Prop)(p:Option (aD α β)):Prop:=∀a z,p=some (.ret a z)→Q a z
def iS.ret{α β:Type}{Q:α→β→Prop}{a:α}{z:β}(h:Q a z):iS Q (some (.ret a z)):=λd' FD e=>by cases e;exact h
def iS.bf{α β:Type}{Q:α→β→Prop}{x:V}{z:β}:iS Q (some (.bf x z)):=λd' FD e=>by cases e
def iS.none{α β:Type}{Q:α→β→Prop}:iS Q none:=λd' FD e=>by cases e
def iS.bind{α β dH hF:Type}{Q:α→β→Prop}{R:dH→hF→Prop}{p:Option (aD α β)}{f:α→β→Option (aD dH hF)}{h:V→β→Option (aD dH hF)}(hp:iS Q p)(aW:∀a z,Q a z→iS R (f a z))(bm:∀x z,iS R (h x z)):
 iS R (Option.bind p λr=>aD.on r f h):=by
 match p,hp with
 |.none,_=>exact .none
 |some (.ret a z),hp=>exact aW a z (hp a z rfl)
 |some (.bf x z),_=>exact bm x z
def iS.bif{dH hF:Type}{R:dH→hF→Prop}{c:Bool}{p q:Option (aD dH hF)}(Z:c=true→iS R p)(aa:c=false→iS R q):iS R (bif c then p else q):=by cases c;exact aa rfl;exact Z rfl
def iS.ax{dH hF:Type}{R:dH→hF→Prop}{c:Bool}{p:Option (aD dH hF)}(Z:iS R p):iS R (Go.Ab.ax c p):=by cases c;exact .none;exact Z
section
variable {l:List Token}
theorem acj(e:Expr)(k:Nat):lf (eW e k)=lf (fL e)+if b_ e.Op<k then 2 else 0:=by
 unfold eW fy;split
 ·have Z:(spell (bb [40])).length=1:=rfl;have aa:(spell (bb [41])).length=1:=rfl;have aj:lf (fL e)=lf (da (bR e)):=rfl;simp only [da,s6,lf,aci,Z,aa,aj];omega
 ·rfl
theorem aon(e:Expr){j k:Nat}(h:j≤k):lf (eW e j)≤lf (eW e k):=by
 rw [acj,acj];split<;>split<;>omega
def Ug(l:List Token)(i lv:Nat)(e:Expr)(z:Int):Prop:=∃k:Nat,z=(k:Int)∧i≤k∧k≤l.length∧mH e∧b6 l i+lf (eW e lv)≤b6 l k
theorem Ug.mono{i j lv ack:Nat}{e:Expr}{z:Int}(h:Ug l j lv e z)(hi:i≤j)(hp:b6 l i≤b6 l j)(fY:ack≤lv):Ug l i ack e z:=by
 obtain⟨k,Z,aa,aj,aC,aT⟩:=h;have:=aon e fY
 exact⟨k,Z,by omega,aj,aC,by omega⟩
end
section
variable {l:List Token}
end
section
variable {l:List Token}
end
section
variable {l:List Token}
end
section
variable {l:List Token}
end
abbrev ez(α:Type):=atW→Except Int (α×atW)
structure ek{α:Type}(D:ez α)(E:α→atW)(ok:α→Prop):Prop where
 rt:∀v t,ok v→D (E v++t) = .ok (v,t)
 gx:∀x v t,D x = .ok (v,t)→x=E v++t∧ok v
 c8:∀x e,D x = .error e→e≠0
def ek.lP{α:Type}{D:ez α}{E:α→atW}{ok:α→Prop}(h:ek D E ok){x:atW}{v:α}{t:atW}(hx:D x = .ok (v,t)):t <:+ x:=⟨E v,(h.gx x v t hx).1.symm⟩
def dM{α β:Type}(D:ez α)(k:α→ez β):ez (α×β):=λx=>match D x with
 |.ok (v,t)=>match k v t with
  |.ok (w,u)=>.ok ((v,w),u)
  |.error e=>.error e
 |.error e=>.error e
def ek.dep{α β:Type}{D:ez α}{E:α→atW}{ok:α→Prop}{k:α→ez β}{ey:α→β→atW}{acl:α→β→Prop}(h:ek D E ok)(aa:∀a,ok a→ek (k a) (ey a) (acl a)):
 ek (dM D k) (λp=>E p.1++ey p.1 p.2) (λp=>ok p.1∧acl p.1 p.2) where
 rt:=fun⟨v,w⟩ t ⟨aj,aC⟩=>by simp only [dM,List.append_assoc,h.rt v _ aj,(aa v aj).rt w t aC]
 gx:=
  λx ⟨v,w⟩ t hx=>by
  unfold dM at hx;split at hx
  ·rename_i v0 t0 hd;obtain⟨aj,aC⟩:=h.gx _ _ _ hd;split at hx
   ·rename_i FE ob hk;obtain⟨aT,bQ⟩:=(aa v0 aC).gx _ _ _ hk;cases hx;exact⟨by rw [aj,aT,List.append_assoc],aC,bQ⟩
   ·cases hx
  ·cases hx
 c8:=
  λx e hx=>by
  unfold dM at hx;split at hx
  ·rename_i v0 t0 hd;split at hx
   ·cases hx
   ·rename_i b3 hk;cases hx;exact(aa v0 (h.gx _ _ _ hd).2).c8 _ _ hk
  ·rename_i b3 hd;cases hx;exact h.c8 _ _ hd
def fU{α β:Type}(f:α→β)(D:ez α):ez β:=λx=>match D x with
 |.ok (v,t)=>.ok (f v,t)
 |.error e=>.error e
def ek.map{α β:Type}{D:ez α}{E:α→atW}{ok:α→Prop}(h:ek D E ok)(f:α→β)(g:β→α)(A6:β→Prop)(df:β→atW)(Z:∀b,A6 b→f (g b)=b∧ok (g b)∧df b=E (g b))(aa:∀a,ok a→g (f a)=a∧A6 (f a)):
 ek (fU f D) df A6 where
 rt:=λv t aw=>by
  obtain⟨aj,aC,aT⟩:=Z v aw;simp only [fU,aT,h.rt _ t aC,aj]
 gx:=λx v t hx=>by
  unfold fU at hx;split at hx
  ·rename_i v0 t0 hd;cases hx;obtain⟨aj,aC⟩:=h.gx _ _ _ hd;obtain⟨aT,bQ⟩:=aa _ aC;obtain⟨_,_,cK⟩:=Z _ bQ;exact⟨by rw [cK,aT,aj],bQ⟩
  ·cases hx
 c8:=λx e hx=>by
  unfold fU at hx;split at hx
  ·cases hx
  ·rename_i b3 hd;cases hx;exact h.c8 _ _ hd
def mL{α:Type}(p:α→Bool)(e:Int)(D:ez α):ez α:=λx=>match D x with
 |.ok (v,t)=>if p v then .ok (v,t)else .error e
 |.error f=>.error f
def ek.chk{α:Type}{D:ez α}{E:α→atW}{ok:α→Prop}(h:ek D E ok)(p:α→Bool)(e:Int)(he:e≠0):ek (mL p e D) E (λv=>ok v∧p v=true) where
 rt:=λv t ⟨Z,aa⟩=>by simp only [mL,h.rt v t Z,aa,atU]
 gx:=
  λx v t hx=>by
  unfold mL at hx;split at hx
  ·rename_i v0 t0 hd;split at hx
   ·rename_i hp;cases hx;exact⟨(h.gx _ _ _ hd).1,(h.gx _ _ _ hd).2,hp⟩
   ·cases hx
  ·cases hx
 c8:=λx f hx=>by
  unfold mL at hx;split at hx
  ·split at hx
   ·cases hx
   ·cases hx;exact he
  ·rename_i b3 hd;cases hx;exact h.c8 _ _ hd
def iL{α:Type}(E:α→atW)(l:List α):atW:=(l.map E).flatten
def A7{α:Type}(E:α→atW)(v:α)(l:List α):iL E (v::l)=E v++iL E l:=rfl
def aoo{α:Type}(E:α→atW):iL E []=[]:=rfl
def hy{α:Type}(D:ez α):Nat→ez (List α)
 | 0,x=>.ok ([],x)
 |n+1,x=>match D x with
  |.ok (v,t)=>match hy D n t with
   |.ok (l,u)=>.ok (v::l,u)
   |.error e=>.error e
  |.error e=>.error e
def ek.rep{α:Type}{D:ez α}{E:α→atW}{ok:α→Prop}(h:ek D E ok):∀n,ek (hy D n) (iL E) (λl=>l.length=n∧∀v∈l,ok v)
 | 0=>{
  rt:=λv t ⟨Z,_⟩=>by
   obtain rfl:=List.eq_nil_of_length_eq_zero Z;rfl
  gx:=λx v t hx=>by cases hx;exact⟨rfl,rfl,λv aw=>by cases aw⟩
  c8:=λx e hx=>by cases hx}
 |n+1=>{
  rt:=λv t ⟨Z,aa⟩=>by
   cases v with
   |nil=>simp at Z
   |cons a l=>
    have aj:=h.rt a (iL E l++t) (aa a (by simp))
    have aC:=(ek.rep h n).rt l t ⟨by simpa using Z,λv aw=>aa v (by simp [aw])⟩
    simp only [hy,A7,List.append_assoc,aj,aC]
  gx:=
   λx v t hx=>by
   unfold hy at hx;split at hx
   ·rename_i v0 t0 hd;split at hx
    ·rename_i l0 ob hk;cases hx;obtain⟨aj,aC⟩:=h.gx _ _ _ hd;obtain⟨aT,bQ,cK⟩:=(ek.rep h n).gx _ _ _ hk;refine⟨by rw [aj,aT,A7,List.append_assoc],by simp [bQ],λv aw=>?_⟩
     rcases List.mem_cons.1 aw with rfl|aw
     ·exact aC
     ·exact cK v aw
    ·cases hx
   ·cases hx
  c8:=λx e hx=>by
   unfold hy at hx;split at hx
   ·split at hx
    ·cases hx
    ·rename_i b3 hk;cases hx;exact(ek.rep h n).c8 _ _ hk
   ·rename_i b3 hd;cases hx;exact h.c8 _ _ hd}
def mM:Nat→ez Nat
 | 0,_=>.error 5
 |_+1,[]=>.error 6
 |k+1,c::t=>if k=0∧1<c.toNat∨c.toNat=0∧k<9 then .error 5 else if c.toNat<128 then .ok (c.toNat,t)else match mM k t with
  |.ok (u,t)=>.ok (c.toNat % 128+128*u,t)
  |.error e=>.error e
def rI:ez Nat:=mM 10
def acm:∀(k u:Nat) (t:atW),u<2 ^ (7*k+1)→(k<9→0<u)→mM (k+1) (e' u++t) = .ok (u,t)
 |k,u,t,h,h0=>by
  rw [e'];by_cases hu:u<128
  ·rw [if_pos hu];have e:(UInt8.ofNat u).toNat=u:=by simp only [UInt8.toNat_ofNat'];omega
   simp only [List.singleton_append,mM,e];rw [if_neg,if_pos hu];intro bm;rcases bm with⟨rfl,aa⟩|⟨Z,aa⟩
   ·simp at h;omega
   ·have:=h0 aa;omega
  ·rw [if_neg hu];have e:(UInt8.ofNat (u % 128+128)).toNat=u % 128+128:=by simp only [UInt8.toNat_ofNat'];omega
   cases k with
   |zero=>simp at h;omega
   |succ k=>
    have:=acm k (u / 128) t (by rw [show 7*(k+1)+1=7*k+1+7 by omega,Nat.pow_add]at h;omega) (λ_=>by omega)
    simp only [List.cons_append,mM,e]at this ⊢;rw [if_neg (by omega),if_neg (by omega),this]
    simp only
    rw [show(u % 128+128) % 128+128*(u / 128)=u by omega]
def Uh:∀(k:Nat) (x:atW) (u:Nat) (t:atW),k≤9→mM (k+1) x = .ok (u,t)→x=e' u++t∧u<2 ^ (7*k+1)∧(k<9→0<u)
 |k,[],u,t,_,h=>by simp [mM]at h
 |k,c::x,u,t,atb,h=>by
  have hc:=c.toNat_lt;unfold mM at h;split at h
  ·cases h
  ·rename_i Z;split at h
   ·rename_i aa;cases h;rw [e',if_pos aa];refine⟨by simp,?_,λel=>by omega⟩
    cases k with
    |zero=>simp;omega
    |succ k=>
     rw [show 7*(k+1)+1=7*k+1+7 by omega,Nat.pow_add]
     have:=Nat.two_pow_pos (7*k+1)
     omega
   ·rename_i aa;split at h
    ·rename_i ob t0 hu;cases h;cases k with
     |zero=>simp [mM]at hu
     |succ k=>
      obtain⟨aj,aC,aT⟩:=Uh k _ _ _ (by omega) hu
      refine⟨?_,?_,λ_=>?_⟩
      ·have Gy:0<ob:=by
        by_cases el:k<9
        ·exact aT el
        ·omega
       rw [e',if_neg (by omega),aj]
       rw [show(c.toNat % 128+128*ob) / 128=ob by omega,show(c.toNat % 128+128*ob) % 128+128=c.toNat by omega]
       simp
      ·rw [show 7*(k+1)+1=7*k+1+7 by omega,Nat.pow_add]
       generalize 2 ^ (7*k+1)=P at aC ⊢
       omega
      ·by_cases el:k<9
       ·have:=aT el;omega
       ·omega
    ·cases h
def acn:∀(k:Nat) (x:atW) (e:Int),mM k x = .error e→e=5∨e=6
 | 0,x,e,h=>by cases h;simp
 |k+1,[],e,h=>by cases h;simp
 |k+1,c::x,e,h=>by
  unfold mM at h;split at h
  ·cases h;simp
  ·split at h
   ·cases h
   ·split at h
    ·cases h
    ·rename_i b3 hu;cases h;exact acn k _ _ hu
def rJ:ek rI e' (λu=>u<18446744073709551616) where
 rt:=λu t h=>acm 9 u t h (by omega)
 gx:=λx u t h=>⟨(Uh 9 x u t (by omega) h).1,(Uh 9 x u t (by omega) h).2.1⟩
 c8:=λx e h=>by have:=acn 10 x e h;omega
def ie:ez Int:=fU (λu:Nat=>(u:Int)) rI
def hS(z:Int):Prop:=0≤z∧z<18446744073709551616
def jv(z:Int):atW:=e' z.toNat
def mN:ek ie jv hS:=
 rJ.map _ Int.toNat hS jv (λb h=>by unfold hS at h;exact⟨by omega,by omega,rfl⟩) (λa h=>⟨by omega,by unfold hS;omega⟩)
def A8(u:Nat):Int:=if u % 2=1 then -((u / 2:Nat):Int)-1 else((u / 2:Nat):Int)
def iM:ez Int:=fU A8 rI
def kQ:ek iM mK e5:=
 rJ.map _ fold e5 mK (λb h=>⟨by unfold e5 at h;unfold fold A8;split<;>(split<;>omega),Uc h,rfl⟩)
  (λa h=>⟨by unfold fold A8;split<;>(split<;>omega),by unfold e5 A8;split<;>omega⟩)
def jc(bJ:Nat):ez Nat:=λx=>match rI x with
 |.ok (u,t)=>if bJ<u then .error 2 else if t.length<u then .error 6 else .ok (u,t)
 |.error e=>.error e
def pr{bJ:Nat}{x t:atW}{u:Nat}(h:jc bJ x = .ok (u,t)):x=e' u++t∧u≤bJ∧u≤t.length:=by
 unfold jc at h;split at h
 ·rename_i ob t0 hd;split at h
  ·cases h
  ·split at h
   ·cases h
   ·cases h;exact⟨(rJ.gx _ _ _ hd).1,by omega,by omega⟩
 ·cases h
def oG{bJ:Nat}{x:atW}{e:Int}(h:jc bJ x = .error e):e≠0:=by
 unfold jc at h;split at h
 ·split at h
  ·cases h;omega
  ·split at h
   ·cases h;omega
   ·cases h
 ·rename_i b3 hd;cases h;exact rJ.c8 _ _ hd
def aco{bJ u:Nat}{t:atW}(h:u≤bJ)(Z:bJ<18446744073709551616)(aa:u≤t.length):jc bJ (e' u++t) = .ok (u,t):=by
 unfold jc;rw [rJ.rt u t (by omega)]
 simp only
 rw [if_neg (by omega),if_neg (by omega)]
def jw{α:Type}(bJ:Nat)(D:ez α):ez (List α):=λx=>match jc bJ x with
 |.ok (u,t)=>hy D u t
 |.error e=>.error e
def d9{α:Type}(E:α→atW)(l:List α):atW:=e' l.length++iL E l
def L9{α:Type}{E:α→atW}:∀{l:List α},(∀v∈l,E v≠[])→l.length≤(iL E l).length
 |[],_=>by simp
 |v::l,h=>by
  have Z:(E v).length≠0:=by simpa using h v (by simp)
  have aa:=L9 (E:=E) (l:=l) λw hw=>h w (by simp [hw])
  simp only [A7,atP,atL];omega
def ek.uM{α:Type}{D:ez α}{E:α→atW}{ok:α→Prop}(h:ek D E ok)(bJ:Nat)(hm:bJ<18446744073709551616)(dh:∀v,ok v→E v≠[]):ek (jw bJ D) (d9 E) (λl=>l.length≤bJ∧∀v∈l,ok v) where
 rt:=λl t ⟨Z,aa⟩=>by
  have aj:=L9 (E:=E) (l:=l) λv aw=>dh v (aa v aw)
  unfold jw d9;rw [List.append_assoc,aco Z hm (by simp;omega)]
  exact(h.rep l.length).rt l t ⟨rfl,aa⟩
 gx:=λx l t hx=>by
  unfold jw at hx;split at hx
  ·rename_i ob t0 hd;obtain⟨Z,aa,aj⟩:=pr hd;obtain⟨aC,aT,bQ⟩:=(h.rep ob).gx _ _ _ hx;subst aT;exact⟨by rw [Z,aC,d9,List.append_assoc],aa,bQ⟩
  ·cases hx
 c8:=λx e hx=>by
  unfold jw at hx;split at hx
  ·exact(h.rep _).c8 _ _ hx
  ·rename_i b3 hd;cases hx;exact oG hd
def f7(bJ:Nat):ez atW:=λx=>match jc bJ x with
 |.ok (u,t)=>.ok (t.take u,t.drop u)
 |.error e=>.error e
def A9(bJ:Nat)(hm:bJ<18446744073709551616):ek (f7 bJ) gb (λs=>s.length≤bJ) where
 rt:=λs t h=>by
  unfold f7 gb;rw [List.append_assoc,aco h hm (by simp)]
  simp
 gx:=λx s t hx=>by
  unfold f7 at hx;split at hx
  ·rename_i ob t0 hd;obtain⟨Z,aa,aj⟩:=pr hd;cases hx;have:(t0.take ob).length=ob:=by simp;omega
   unfold gb;rw [this];exact⟨by rw [List.append_assoc,List.take_append_drop,Z],by omega⟩
  ·cases hx
 c8:=λx e hx=>by
  unfold f7 at hx;split at hx
  ·cases hx
  ·rename_i b3 hd;cases hx;exact oG hd
def rK:ez Bool
 |[]=>.error 6
 |c::t=>if 1<c.toNat then .error 5 else .ok (decide (c.toNat=1),t)
def xq(b:Bool):atW:=if b then[1] else[0]
def Ui:ek rK xq (λ_=>True) where
 rt:=λb t _=>by cases b<;>rfl
 gx:=
  λx b t hx=>by
  cases x with
  |nil=>cases hx
  |cons c x=>
   simp only [rK]at hx;by_cases Z:1<c.toNat
   ·rw [if_pos Z]at hx;cases hx
   ·rw [if_neg Z]at hx;cases hx;refine⟨?_,trivial⟩
    unfold xq;by_cases aa:c.toNat=1
    ·rw [decide_eq_true aa];have:c=1:=UInt8.toNat_inj.1 (by simpa using aa)
     rw [this];rfl
    ·rw [decide_eq_false aa];have:c=0:=UInt8.toNat_inj.1 (by simp;omega)
     rw [this];rfl
 c8:=λx e hx=>by
  cases x with
  |nil=>cases hx;omega
  |cons c x=>
   simp only [rK]at hx;by_cases Z:1<c.toNat
   ·rw [if_pos Z]at hx;cases hx;omega
   ·rw [if_neg Z]at hx;cases hx
def qA(u:Nat):e' u≠[]:=by rw [e'];split<;>simp
def Uj{α:Type}(v:α):ez α:=λx=>.ok (v,x)
def acp{α:Type}(v:α):ek (Uj v) (λ_=>[]) (λw=>w=v) where
 rt:=λw t h=>by subst h;rfl
 gx:=λx w t h=>by cases h;exact⟨rfl,rfl⟩
 c8:=λx e h=>by cases h
def ek.as{α:Type}{D:ez α}{E:α→atW}{ok:α→Prop}(h:ek D E ok)(df:α→atW)(A6:α→Prop)(Z:∀v,A6 v↔ok v)(aa:∀v,ok v→df v=E v):ek D df A6 where
 rt:=λv t aw=>by rw [aa v ((Z v).1 aw)];exact h.rt v t ((Z v).1 aw)
 gx:=λx v t hx=>by
  obtain⟨aj,aC⟩:=h.gx x v t hx;exact⟨by rw [aa v aC];exact aj,(Z v).2 aC⟩
 c8:=h.c8
def nT(lo hi:Int):ez Int:=mL (λz=>decide (lo≤z)&&decide (z≤hi)) 5 ie
def Uk{lo hi:Int}(h0:0≤lo)(Z:hi<18446744073709551616):ek (nT lo hi) jv (λz=>lo≤z∧z≤hi):=
 (mN.chk _ 5 (by omega)).as _ _ (λv=>by simp only [Bool.and_eq_true,decide_eq_true_eq,hS];omega) (λ_ _=>rfl)
def A'(k:Int):ez bp:=if k=0 then Uj ⟨0,0,[]⟩else if k=1 then fU (λn=>⟨1,n,[]⟩) iM else if k=2 then mL (λv=>js v.S) 5 (fU (λs=>⟨2,0,s⟩) (f7 64))else λ_=>.error 5
def mO:ez bp:=fU Prod.snd (dM ie A')
def qB(v:bp):Prop:=jb v=true∧e5 v.N
def acq{s:atW}(h:js s=true):s.length≤64:=by
 unfold js at h;simp only [Bool.and_eq_true,decide_eq_true_eq]at h;exact h.2
def xr{v:bp}(h:jb v=true):v=⟨0,0,[]⟩∨(v.Kind=1∧v.S=[])∨(v.Kind=2∧v.N=0∧js v.S=true):=by
 obtain⟨k,n,s⟩:=v;unfold jb at h;simp only at h ⊢
 split at h
 ·rename_i h0;simp only [Bool.and_eq_true,decide_eq_true_eq]at h;obtain⟨rfl,rfl⟩:=h;exact .inl (by rw [h0])
 ·split at h
  ·rename_i Z;exact .inr (.inl ⟨Z,by simpa using h⟩)
  ·simp only [Bool.and_eq_true,decide_eq_true_eq]at h;exact .inr (.inr ⟨h.1.1,h.1.2,h.2⟩)
def tb:ek mO bU qB:=by
 have eF:∀k,hS k→ek (A' k) (λv=>if k=1 then mK v.N else if k=2 then gb v.S else[]) (λv=>qB v∧v.Kind=k):=by
  intro k hk;unfold A';by_cases h0:k=0
  ·subst h0;rw [if_pos rfl];refine(acp _).as _ _ (λv=>⟨fun⟨⟨Z,aa⟩,aj⟩=>?_,λh=>?_⟩) (λv _=>?_)
   ·rcases xr Z with h|h|h
    ·exact h
    ·exact absurd (h.1.symm.trans aj) (by omega)
    ·exact absurd (h.1.symm.trans aj) (by omega)
   ·subst h;exact⟨⟨rfl,by unfold e5;simp⟩,rfl⟩
   ·simp
  ·rw [if_neg h0];by_cases Z:k=1
   ·subst Z;rw [if_pos rfl];refine kQ.map _ (λv=>v.N) _ _ (λv ⟨⟨aa,aj⟩,aC⟩=>⟨?_,aj,by simp⟩) (λn hn=>⟨rfl,⟨⟨by simp [jb],hn⟩,rfl⟩⟩)
    rcases xr aa with h|h|h
    ·rw [h]at aC;exact absurd aC (by simp)
    ·obtain⟨a,b,c⟩:=v;simp only at h aC ⊢;rw [aC,h.2]
    ·exact absurd (h.1.symm.trans aC) (by omega)
   ·rw [if_neg Z];by_cases aa:k=2
    ·subst aa;rw [if_pos rfl];refine(((A9 64 (by omega)).map (λs=>(⟨2,0,s⟩:bp)) (λv=>v.S) (λv=>v.Kind=2∧v.N=0∧v.S.length≤64) (λv=>gb v.S) (λv ⟨aj,aC,aT⟩=>⟨?_,aT,rfl⟩) (λs hs=>⟨rfl,rfl,rfl,hs⟩)).chk _ 5 (by omega)).as _ _ (λv=>⟨fun⟨⟨aj,aC⟩,aT⟩=>?_,fun⟨⟨aj,aC,aT⟩,bQ⟩=>?_⟩) (λv _=>by simp)
     ·obtain⟨a,b,c⟩:=v;simp only at aj aC ⊢;rw [aj,aC]
     ·rcases xr aj with h|h|h
      ·rw [h]at aT;exact absurd aT (by simp)
      ·exact absurd (h.1.symm.trans aT) (by omega)
      ·exact⟨⟨h.1,h.2.1,acq h.2.2⟩,h.2.2⟩
     ·refine⟨⟨?_,by rw [aC];unfold e5;omega⟩,aj⟩
      unfold jb;rw [aj,aC];simp [bQ]
    ·rw [if_neg aa]
     exact {
      rt:=λv t ⟨⟨aj,aC⟩,aT⟩=>by
       exfalso
       rcases xr aj with h|h|h
       ·rw [h]at aT;exact h0 aT.symm
       ·exact Z (aT.symm.trans h.1)
       ·exact aa (aT.symm.trans h.1)
      gx:=λx v t h=>by cases h
      c8:=λx e h=>by cases h;omega}
 refine(mN.dep eF).map Prod.snd (λv=>(v.Kind,v)) qB bU (λv aw=>⟨rfl,⟨?_,aw,rfl⟩,?_⟩) (fun⟨k,v⟩ ⟨Z,aa,aj⟩=>⟨congrArg (·,v) aj,aa⟩)
 ·rcases xr aw.1 with h|h|h
  ·rw [h];unfold hS;simp
  ·unfold hS;rw [h.1];omega
  ·unfold hS;rw [h.1];omega
 ·unfold bU jv;rcases xr aw.1 with h|h|h
  ·rw [h];simp
  ·simp only [h.1];rfl
  ·simp only [h.1];rfl
def aop(v:bp):bU v≠[]:=by
 unfold bU;split
 ·simp [qA]
 ·split
  ·simp [qA]
  ·exact qA _
def res{α:Type}(z:α)(s:atW):Except Int (α×atW)→α×Int×Int
 |.ok (v,t)=>(v,((s.length-t.length:Nat):Int),0)
 |.error e=>(z,0,e)
def bo(s t:atW):Int:=((s.length-t.length:Nat):Int)
def FF(p t:atW):bo (p++t) t=(p.length:Int):=by unfold bo;simp
def aoq(s:atW):bo s s=0:=by unfold bo;simp
def g_{α:Type}{z:α}{s t:atW}{v:α}:res z s (.ok (v,t))=(v,bo s t,0):=rfl
def fF{α:Type}{z:α}{s:atW}{e:Int}:res z s (.error e)=(z,0,e):=rfl
def Ul{α β:Type}{FD:β}{s:atW}{f:α→β}{D:ez α}{t:atW}:res FD s (fU f D t)=match D t with|.ok (v,t)=>(f v,bo s t,0)|.error e=>(FD,0,e):=by
 unfold fU;cases D t<;>rfl
def acr(p x:atW)(i:Nat):(p++x).getD (p.length+i) 0=x.getD i 0:=by
 simp [List.getD_eq_getElem?_getD,List.getElem?_append_right]
def aor:∀x:Nat,x<256→pD .u8 (x:Int) 127=((x % 128:Nat):Int):=by decide +kernel
def aos{a b i:Nat}(h:a<2 ^ i)(hb:a+2 ^ i*b<18446744073709551616):qK .u64 (a:Int) ((2 ^ i*b:Nat):Int)=((a+2 ^ i*b:Nat):Int):=by
 unfold qK
 have e:((BitVec.ofInt (IntKind.bits .u64) (a:Int) |||BitVec.ofInt (IntKind.bits .u64) ((2 ^ i*b:Nat):Int)).toNat)=a+2 ^ i*b:=by
  rw [BitVec.toNat_or,BitVec.toNat_ofInt,BitVec.toNat_ofInt];simp only [IntKind.bits];rw [show(((a:Int) % ((2 ^ 64:Nat):Int)).toNat)=a by omega,show((((2 ^ i*b:Nat):Int) % ((2 ^ 64:Nat):Int)).toNat)=2 ^ i*b by omega]
  rw [Nat.or_comm,←Nat.two_pow_add_eq_or_of_lt h,Nat.add_comm]
 rw [e,rG hb]
def aot{c i:Nat}(hi:i≤63)(h:2 ^ i*c<18446744073709551616):oP .u64 (c:Int) (i:Int)=((2 ^ i*c:Nat):Int):=by
 unfold oP
 (simp only [atN];rw [show min i (IntKind.bits .u64)=i by simp only [IntKind.bits];omega,show(c:Int)*2 ^ i=((2 ^ i*c:Nat):Int)by rw [Nat.mul_comm];norm_cast,rG h])
def aou{i c:Nat}(hi:i≤9)(hc:c<128)(el:i=9→c≤1):2 ^ (7*i)*c<18446744073709551616∧∀a,a<2 ^ (7*i)→a+2 ^ (7*i)*c<18446744073709551616:=by
 have h:i=0∨i=1∨i=2∨i=3∨i=4∨i=5∨i=6∨i=7∨i=8∨i=9:=by omega
 rcases h with h|h|h|h|h|h|h|h|h|h<;>subst h<;>simp only [Nat.reduceMul,Nat.reducePow]<;>(try have:=el rfl)<;>exact⟨by omega,λa ha=>by omega⟩
def A_{i:Nat}(h:i≤9223372036854775807):atY (i:Int)=(i:Int):=by rw [wr]<;>omega
def aov(n a:Nat):∀(k m i:Nat) (x pre:atW) (acc:Nat),i+k=10→pre.length=a+i→acc<2 ^ (7*i)→k<m→(pre++x).length≤4611686018427387904→
 Dk n (pre++x) (a:Int) m (i:Int) (acc:Int)=some (match mM k x with|.ok (u,t)=>(((acc+2 ^ (7*i)*u:Nat):Int),bo (pre++x) t,0)|.error e=>(0,0,e)):=by
 intro k;induction k with
 |zero=>
  intro m i x pre acc hi hp ha hm ab;obtain⟨m,rfl⟩:∃j,m=j+1:=⟨m-1,by omega⟩
  obtain rfl:i=10:=by omega
  rfl
 |succ k aH=>
  intro m i x pre acc hi hp ha hm ab;obtain⟨m,rfl⟩:∃j,m=j+1:=⟨m-1,by omega⟩
  have atc:(pre++x).length=pre.length+x.length:=List.length_append;have e1:atY ((a:Int)+(i:Int))=((pre.length:Nat):Int):=by rw [wr]<;>omega
  have aow:i≤9:=by omega
  simp only [Dk,P9,e1];rw [show(decide ((i:Int)<10))=true from decide_eq_true (by omega)]
  simp only [atH];cases x with
  |nil=>
   simp only [List.append_nil,Int.le_refl,atF,atH,mM]
  |cons c x=>
   have hlen:(pre++c::x).length=pre.length+(x.length+1):=by simp
   have hg:(pre++c::x).getD pre.length 0=c:=by
    have:=acr pre (c::x) 0
    simpa using this
   have hc:=c.toNat_lt;rw [show(decide ((((pre++c::x).length:Nat):Int)≤((pre.length:Nat):Int)))=false from decide_eq_false (by omega)]
   simp only [atI,bI (show pre.length<(pre++c::x).length by omega),aL,atN,hg]
   have e2:atY (7*(i:Int))=((7*i:Nat):Int):=by rw [wr]<;>omega
   have e3:atY (((pre.length:Nat):Int)+1)=((pre.length+1:Nat):Int):=bv (by omega)
   have h':atY ((i:Int)+1)=((i+1:Nat):Int):=bv (by omega)
   have pP:bo (pre++c::x) x=((pre.length+1:Nat):Int):=by
    have:=FF (pre++[c]) x
    simpa using this
   unfold mM;by_cases acs:k=0∧1<c.toNat∨c.toNat=0∧k<9
   ·rw [if_pos acs,show(bif (bif (decide ((i:Int)=9)) then(decide (1<((c.toNat:Nat):Int)))else false)then true else(bif (decide (((c.toNat:Nat):Int)=0)) then(decide (0<(i:Int)))else false))=true by
     rw [dt,ef,ef,←Bool.decide_and,←Bool.decide_and,←Bool.decide_or];exact decide_eq_true (by omega)]
    rfl
   ·rw [if_neg acs,show(bif (bif (decide ((i:Int)=9)) then(decide (1<((c.toNat:Nat):Int)))else false)then true else(bif (decide (((c.toNat:Nat):Int)=0)) then(decide (0<(i:Int)))else false))=false by
     rw [dt,ef,ef,←Bool.decide_and,←Bool.decide_and,←Bool.decide_or];exact decide_eq_false (by omega)]
    have hb:=aou (c:=c.toNat % 128) aow (by omega) (by omega)
    have A5:qK .u64 (acc:Int) (oP .u64 (IntKind.u64.wrap (pD .u8 ((c.toNat:Nat):Int) 127)) (atY (7*(i:Int))))=((acc+2 ^ (7*i)*(c.toNat % 128):Nat):Int):=by
     rw [aor _ hc,rG (by omega),e2,aot (by omega) hb.1,aos ha (hb.2 acc ha)]
    simp only [atI,A5,e3,h'];rw [e2,show n3 ((7*i:Nat):Int)=true by simp only [n3,decide_eq_true_eq];omega,aL]
    by_cases hs:c.toNat<128
    ·rw [if_pos hs,show(decide (((c.toNat:Nat):Int)<128))=true from decide_eq_true (by omega)]
     simp only [atH,pP,Nat.mod_eq_of_lt hs]
    ·rw [if_neg hs,show(decide (((c.toNat:Nat):Int)<128))=false from decide_eq_false (by omega)]
     have x_:2 ^ (7*(i+1))=2 ^ (7*i)*128:=by rw [show 7*(i+1)=7*i+7 by omega,Nat.pow_add]
     have pj:=aH m (i+1) x (pre++[c]) (acc+2 ^ (7*i)*(c.toNat % 128)) (by omega) (by simp;omega) (by
      rw [x_];have Z:2 ^ (7*i)*(c.toNat % 128)≤2 ^ (7*i)*127:=Nat.mul_le_mul_left _ (by omega)
      omega) (by omega) (by simp at ab ⊢;omega)
     rw [show pre++[c]++x=pre++c::x by simp]at pj
     simp only [atI];rw [pj]
     congr 1
     cases mM k x with
     |error e=>rfl
     |ok r=>
      obtain⟨u,t⟩:=r;simp only
      rw [x_,Nat.mul_add,Nat.mul_assoc,Nat.add_assoc]
def act{n:Nat}{s t:atW}(h:t <:+ s):Dj n s (bo s t)=some false:=by
 unfold Dj bo;have:=h.length_le
 rw [decide_eq_false (by omega),decide_eq_false (by omega)];rfl
def Ba{n:Nat}{s t:atW}(aF:t <:+ s)(hs:s.length≤4611686018427387904)(hn:12≤n):sF n s (bo s t)=some (res 0 s (ie t)):=by
 unfold sF;rw [act (n:=n) aF];obtain⟨pre,rfl⟩:=aF;rw [FF,al,atI];refine(aov n pre.length 10 n 0 t pre 0 (by omega) (by omega) (by simp) (by omega) hs).trans (congrArg some ?_)
 unfold ie rI;rw [Ul];cases mM 10 t with
 |error e=>rfl
 |ok r=>obtain⟨u,bS⟩:=r;simp
def gH{e:Int}(h:e≠0):(!decide (e=0))=true:=by simp [h]
def acu{t bS:atW}{u:Nat}(h:rI t = .ok (u,bS)):ie t = .ok ((u:Int),bS):=by simp only [ie,fU,h]
def acv{t:atW}{e:Int}(h:rI t = .error e):ie t = .error e:=by simp only [ie,fU,h]
def aox{u:Nat}(h:u<18446744073709551616):pD .u64 (u:Int) 1=((u % 2:Nat):Int):=by
 unfold pD
 have e:((BitVec.ofInt (IntKind.bits .u64) (u:Int) &&& BitVec.ofInt (IntKind.bits .u64) 1).toNat)=u % 2:=by
  rw [BitVec.toNat_and,BitVec.toNat_ofInt,BitVec.toNat_ofInt];simp only [IntKind.bits];rw [show(((u:Int) % ((2 ^ 64:Nat):Int)).toNat)=u by omega,show(((1:Int) % ((2 ^ 64:Nat):Int)).toNat)=1 by decide,Nat.and_one_is_mod]
 rw [e,rG (by omega)]
def aoy{u:Nat}:nj .u64 (u:Int) 1=((u / 2:Nat):Int):=by
 unfold nj;rw [show min (1:Int).toNat (IntKind.bits .u64)=1 by decide,Int.fdiv_eq_ediv_of_nonneg _ (by omega)]
 omega
def aoz{a:Nat}(h:a<9223372036854775808):mP .i64 (a:Int) 0=(a:Int):=by
 unfold mP;rw [show BitVec.ofInt (IntKind.bits .i64) 0=0#_ from rfl,BitVec.xor_zero]
 rw [show((BitVec.ofInt (IntKind.bits .i64) (a:Int)).toNat:Int)=(a:Int) by
  rw [BitVec.toNat_ofInt];simp only [IntKind.bits];omega]
 exact A_ (by omega)
def aoA{a:Nat}(h:a<9223372036854775808):mP .i64 (a:Int) (-1) = -(a:Int)-1:=by
 unfold mP;rw [show BitVec.ofInt (IntKind.bits .i64) (-1)=BitVec.allOnes _ by decide,BitVec.xor_allOnes]
 rw [show((~~~ BitVec.ofInt (IntKind.bits .i64) (a:Int)).toNat:Int)=((18446744073709551615-a:Nat):Int) by
  rw [BitVec.toNat_not,BitVec.toNat_ofInt];simp only [IntKind.bits];omega]
 (try unfold atY);rw [IntKind.wrap_i64];omega
def aoB{u:Nat}(h:u<18446744073709551616):mP .i64 (atY (nj .u64 (u:Int) 1)) (atY (0-(atY (pD .u64 (u:Int) 1))))=A8 u:=by
 rw [aoy,aox h,A_ (i:=u / 2) (by omega),A_ (i:=u % 2) (by omega)]
 unfold A8;by_cases aa:u % 2=1
 ·rw [if_pos aa,aa,show atY (0-((1:Nat):Int)) = -1 by decide,aoA (by omega)]
 ·rw [if_neg aa,show u % 2=0 by omega,show atY (0-((0:Nat):Int))=0 by decide,aoz (by omega)]
def Um{n:Nat}{s t:atW}(aF:t <:+ s)(hs:s.length≤4611686018427387904)(hn:12≤n):y8 n s (bo s t)=some (res 0 s (iM t)):=by
 unfold y8 iM fU;rw [Ba aF hs hn,al];cases h:rI t with
 |error e=>
  rw [acv h,fF];simp only [gH (rJ.c8 _ _ h),atH,fF]
 |ok r=>
  obtain⟨u,bS⟩:=r;rw [acu h,g_];simp only [atF,atJ,atI,aoB (rJ.gx _ _ _ h).2,g_]
def qC(bJ:Nat):ez Int:=fU (λu:Nat=>(u:Int)) (jc bJ)
def aoC{s t:atW}(aF:t <:+ s)(hs:s.length≤4611686018427387904):IntKind.u64.wrap (atY (((s.length:Nat):Int)-bo s t))=((t.length:Nat):Int):=by
 have:=aF.length_le
 unfold bo;rw [wr (by omega) (by omega),IntKind.wrap_u64];omega
def aoD{t bS:atW}{u:Nat}(h:rI t = .ok (u,bS)):bS <:+ t:=rJ.lP h
def aoE{n bJ:Nat}{s t:atW}(aF:t <:+ s)(hs:s.length≤4611686018427387904)(hm:bJ<9223372036854775808)(r:Int×Int×Int)(ai:r=res 0 s (ie t)):
 (bif (!decide (r.2.2=0))then some ((0:Int),(0:Int),r.2.2) else(bif (bif (decide ((bJ:Int)<0))then true else(decide ((IntKind.u64.wrap (bJ:Int))<r.1)))then some (0,0,2) else(bif (decide ((IntKind.u64.wrap (atY (((s.length:Nat):Int)-r.2.1)))<r.1))then some (0,0,6)else some ((atY r.1),r.2.1,0))))=some (res 0 s (qC bJ t)):=by
 subst ai;unfold qC;rw [Ul];unfold jc;cases h:rI t with
 |error e=>
  rw [acv h,fF];simp only [gH (rJ.c8 _ _ h),atH]
 |ok r=>
  obtain⟨u,bS⟩:=r;have hu:=(rJ.gx _ _ _ h).2;have eK:bS <:+ s:=(aoD h).trans aF;have ab:=eK.length_le;rw [acu h,g_];simp only [atF,atJ,atI,aoC eK hs,rG (show bJ<18446744073709551616 by omega),show¬ ((bJ:Int)<0)by omega,atG,atO]
  by_cases Z:bJ<u
  ·simp only [Z,atF,atH,atU]
  ·by_cases aa:bS.length<u
   ·simp only [Z,aa,atF,atG,atH,atI,atU,atV]
   ·simp only [Z,aa,atG,atI,atV,A_ (show u≤9223372036854775807 by omega)]
def uN{n bJ:Nat}{s t:atW}(aF:t <:+ s)(hs:s.length≤4611686018427387904)(hm:bJ<9223372036854775808)(hn:12≤n):p7 n s (bo s t) (bJ:Int)=some (res 0 s (qC bJ t)):=by
 unfold p7;rw [Ba aF hs hn,al];exact aoE (n:=n) aF hs hm _ rfl
def rL{bJ u:Nat}{t bS:atW}(h:jc bJ t = .ok (u,bS)):qC bJ t = .ok ((u:Int),bS):=by simp only [qC,fU,h]
def rM{bJ:Nat}{t:atW}{e:Int}(h:jc bJ t = .error e):qC bJ t = .error e:=by simp only [qC,fU,h]
def aoF{s t:atW}{u:Nat}(aF:t <:+ s)(hs:s.length≤4611686018427387904)(hu:u≤t.length):
 atY (bo s t+(u:Int))=bo s (t.drop u)∧lU (bo s t) (bo s (t.drop u)) s.length=true∧(s.take (bo s (t.drop u)).toNat).drop (bo s t).toNat=t.take u:=by
 have ab:=aF.length_le;have e:bo s (t.drop u)=bo s t+(u:Int):=by unfold bo;simp;omega
 refine⟨?_,?_,?_⟩
 ·rw [e];unfold bo;rw [wr]<;>omega
 ·rw [e];unfold bo lU;simp;omega
 ·rw [e];obtain⟨pre,rfl⟩:=aF
  (rw [FF,show(((pre.length:Nat):Int)+(u:Int)).toNat=pre.length+u by omega];simp only [atN];rw [List.drop_take])
  simp
def FG{n bJ:Nat}{s t:atW}(aF:t <:+ s)(hs:s.length≤4611686018427387904)(hm:bJ<9223372036854775808)(hn:12≤n):ua n s (bo s t) (bJ:Int)=some (res [] s (f7 bJ t)):=by
 unfold ua f7;rw [uN aF hs hm hn,al];cases h:jc bJ t with
 |error e=>
  rw [rM h,fF];simp only [gH (oG h),atH,fF]
 |ok r=>
  obtain⟨u,bS⟩:=r;obtain⟨Z,aa,aj⟩:=pr h;have eK:bS <:+ s:=List.IsSuffix.trans ⟨e' u,Z.symm⟩ aF;obtain⟨g1,g2,g3⟩:=aoF eK hs aj;rw [rL h,g_];simp only [atF,atJ,atI,g1,g2,g3,aL,g_]
def aoG{n:Nat}{s t:atW}(aF:t <:+ s)(hs:s.length≤4611686018427387904):
 (bif (decide (bo s t=((s.length:Nat):Int)))then some (false,(0:Int),(6:Int)) else(ax (aJ (bo s t) s.length)<|bif (decide (1<(((s.getD (bo s t).toNat 0).toNat:Nat):Int)))then some (false,0,5) else(ax (aJ (bo s t) s.length)<|some ((decide ((((s.getD (bo s t).toNat 0).toNat:Nat):Int)=1)),(atY (bo s t+1)),0))))=some (res false s (rK t)):=by
 obtain⟨pre,rfl⟩:=aF;rw [FF];cases t with
 |nil=>simp [rK,res]
 |cons c t=>
  have hg:(pre++c::t).getD pre.length 0=c:=by
   have:=acr pre (c::t) 0
   simpa using this
  have hlen:(pre++c::t).length=pre.length+(t.length+1):=by simp
  have e3:atY (((pre.length:Nat):Int)+1)=((pre.length+1:Nat):Int):=bv (by omega)
  have pP:bo (pre++c::t) t=((pre.length+1:Nat):Int):=by
   have:=FF (pre++[c]) t
   simpa using this
  rw [show decide (((pre.length:Nat):Int)=(((pre++c::t).length:Nat):Int))=false from decide_eq_false (by omega)]
  simp only [atI,bI (show pre.length<(pre++c::t).length by omega),aL,atN,hg,e3,eL,fq,rK]
  by_cases h:1<c.toNat
  ·simp only [h,atF,atH,atU,fF]
  ·simp only [h,atG,atI,atV,g_,pP]
def aoH{n:Nat}{s t:atW}(aF:t <:+ s)(hs:s.length≤4611686018427387904):IG n s (bo s t)=some (res false s (rK t)):=by
 unfold IG;rw [act aF,al,atI];exact aoG (n:=n) aF hs
def aoI(t:atW):mO t=match ie t with|.ok (k,bS)=>A' k bS|.error e=>.error e:=by
 unfold mO fU dM;cases ie t with
 |error e=>rfl
 |ok r=>
  obtain⟨k,bS⟩:=r;simp only
  cases A' k bS with
  |error e=>rfl
  |ok r=>rfl
def jd{α:Type}{D:ez α}{E:α→atW}{ok:α→Prop}(h:ek D E ok){s x:atW}{v:α}{t:atW}(hx:D x = .ok (v,t))(hs:x <:+ s):t <:+ s:=(h.lP hx).trans hs
def acw:ek (f7 64) gb (λs=>s.length≤64):=A9 64 (by omega)
def nU:ek (f7 24) gb (λs=>s.length≤24):=A9 24 (by omega)
def Un{n:Nat}{s t:atW}(aF:t <:+ s)(hs:s.length≤4611686018427387904)(hn:70≤n):y9 n s (bo s t)=some (res ⟨0,0,[]⟩ s (mO t)):=by
 unfold y9;rw [Ba aF hs (by omega),al,aoI]
 cases h:ie t with
 |error e=>rw [fF];simp only [gH (mN.c8 _ _ h),atH,fF]
 |ok r=>
  obtain⟨k,bS⟩:=r;have eK:=jd mN h aF;rw [g_];simp only [atF,atJ,atI];unfold A';by_cases h0:k=0
  ·subst h0;rfl
  ·by_cases Z:k=1
   ·subst Z;simp only [show¬ (1:Int)=0 by omega,atG,atI,atF,atH,atV,atU]
    rw [Um eK hs (by omega),al,Ul]
    cases aa:iM bS with
    |error e=>rw [fF];simp only [gH (kQ.c8 _ _ aa),atH]
    |ok r=>obtain⟨x,ng⟩:=r;rw [g_];simp only [atF,atJ,atI,P8,al]
   ·by_cases aa:k=2
    ·subst aa;simp only [show¬ (2:Int)=0 by omega,show¬ (2:Int)=1 by omega,atG,atI,atF,atH,atV,atU]
     rw [show(64:Int)=((64:Nat):Int)from rfl,FG eK hs (by omega) (by omega),al]
     unfold mL fU;cases aj:f7 64 bS with
     |error e=>rw [fF];simp only [show¬ e=0 from acw.c8 _ _ aj,atG,atI,al,Dl,atK,atH,fF]
     |ok r=>
      obtain⟨x,ng⟩:=r;have hx:=(acw.gx _ _ _ aj).2;rw [g_];simp only [atF,atH,acf (show x.length<n by omega) (by omega),al,Dl]
      cases js x<;>rfl
    ·simp only [h0,Z,aa,atG,atI,atV,fF]
def aoJ{α β R:Type}{D:ez α}{s:atW}{u:Nat}{f:Nat→α→β}{L:Nat→Nat→atW→List β→Option R}{fin:List β→atW→Option R}{bad:Int→Option R}
 (lP:∀x v t,D x = .ok (v,t)→t <:+ x)
 (step:∀m i t acc,i<u→acc.length=i→t <:+ s→L (m+1) i t acc=match D t with|.ok (v,bS)=>L m (i+1) bS (acc++[f i v])|.error e=>bad e)
 (stop:∀m t acc,acc.length=u→t <:+ s→L (m+1) u t acc=fin acc t):
 ∀k m i t acc,i+k=u→k<m→acc.length=i→t <:+ s→L m i t acc=match hy D k t with|.ok (l,bS)=>fin (acc++(l.zipIdx i).map λp=>f p.2 p.1) bS|.error e=>bad e:=by
 intro k;induction k with
 |zero=>
  intro m i t acc hi hm ha aF;obtain⟨m,rfl⟩:∃j,m=j+1:=⟨m-1,by omega⟩
  obtain rfl:i=u:=by omega
  rw [stop m t acc ha aF];simp [hy]
 |succ k aH=>
  intro m i t acc hi hm ha aF;obtain⟨m,rfl⟩:∃j,m=j+1:=⟨m-1,by omega⟩
  rw [step m i t acc (by omega) ha aF]
  unfold hy;cases h:D t with
  |error e=>rfl
  |ok r=>
   obtain⟨v,bS⟩:=r;simp only
   rw [aH m (i+1) bS (acc++[f i v]) (by omega) (by omega) (by simp [ha]) ((lP _ _ _ h).trans aF)]
   cases hy D k bS with
   |error e=>rfl
   |ok r=>obtain⟨l,ng⟩:=r;simp
def acx{α R:Type}{D:ez α}{s:atW}{u:Nat}{L:Nat→Nat→atW→List α→Option R}{fin:List α→atW→Option R}{bad:Int→Option R}
 (lP:∀x v t,D x = .ok (v,t)→t <:+ x)
 (step:∀m i t acc,i<u→acc.length=i→t <:+ s→L (m+1) i t acc=match D t with|.ok (v,bS)=>L m (i+1) bS (acc++[v])|.error e=>bad e)
 (stop:∀m t acc,acc.length=u→t <:+ s→L (m+1) u t acc=fin acc t) {m:Nat} (hm:u<m) {t:atW} (aF:t <:+ s):
 L m 0 t []=match hy D u t with|.ok (l,bS)=>fin l bS|.error e=>bad e:=by
 have:=aoJ (f:=λ_ v=>v) (L:=L) lP step stop u m 0 t [] (by omega) hm rfl aF
 rw [this];cases hy D u t with
 |error e=>rfl
 |ok r=>
  obtain⟨l,bS⟩:=r;have e:((l.zipIdx 0).map λp:α×Nat=>p.1)=l:=by rw [List.zipIdx_map_fst]
  simp only [List.nil_append];rw [e]
def uO:∀a b:atW,(!Op.bytesLess a b)=(Op.bytesLess b a||decide (b=a))
 |[],[]=>rfl
 |[],b::y=>rfl
 |a::x,[]=>rfl
 |a::x,b::y=>by
  simp only [Op.bytesLess,uO x y,Bool.not_or,Bool.not_and];rcases Nat.lt_trichotomy a.toNat b.toNat with h|h|h
  ·have Z:a<b:=h;have aa:¬ b<a:=by show¬ b.toNat<a.toNat;omega
   have aj:a≠b:=by intro e;subst e;omega
   simp [Z,aa,Ne.symm aj]
  ·obtain rfl:a=b:=UInt8.toNat_inj.1 h;simp
  ·have Z:b<a:=h;have aa:¬ a<b:=by show¬ a.toNat<b.toNat;omega
   have aj:a≠b:=by intro e;subst e;omega
   simp [Z,aa,aj]
def acy:∀a b c:atW,Op.bytesLess a b=true→Op.bytesLess b c=true→Op.bytesLess a c=true
 |_,[],_,h,_=>by simp [Op.bytesLess]at h
 |_,b::y,[],_,h=>by simp [Op.bytesLess]at h
 |[],b::y,c::z,_,_=>rfl
 |a::x,b::y,c::z,Z,aa=>by
  simp only [Op.bytesLess,Bool.or_eq_true,Bool.and_eq_true,decide_eq_true_eq,beq_iff_eq]at Z aa ⊢;rcases Z with Z|⟨rfl,Z⟩
  ·rcases aa with aa|⟨rfl,aa⟩
   ·left;show a.toNat<c.toNat;have aj:a.toNat<b.toNat:=Z;have aC:b.toNat<c.toNat:=aa;omega
   ·exact .inl Z
  ·rcases aa with aa|⟨rfl,aa⟩
   ·exact .inl aa
   ·exact .inr ⟨rfl,acy x y z Z aa⟩
def iN{β:Type}{c k:Bool}{x y:β}(h:c = !k):(bif c then x else y)=if k then y else x:=by subst h;cases k<;>rfl
def l_{i len:Nat}{b:Bool}(hi:i<len)(ab:len≤1000000000):(b||(!(decide (0<(i:Int)))||aJ (atY ((i:Int)-1)) len))=true:=by
 cases i with
 |zero=>simp
 |succ i=>
  rw [show((i+1:Nat):Int)-1=(i:Int)by omega,A_ (by omega),bI (by omega)];simp
def Bb{i len:Nat}{b c:Bool}(hi:i<len):(b||(c||aJ (i:Int) len))=true:=by rw [bI hi];simp
def aoK{i len:Nat}{b:Bool}(hi:i<len):(b||aJ (i:Int) len)=true:=by rw [bI hi];simp
def allI(len:Nat)(chk:Nat→Bool):Bool:=(List.range len).all chk
def ig{len:Nat}{chk:Nat→Bool}:allI len chk=true↔∀i,i<len→chk i=true:=by
 unfold allI;simp
def ma(b:Bool):(if b then true else false)=b:=by cases b<;>rfl
def rN(b c:Bool):(if b then c else false)=(b&&c):=by cases b<;>rfl
def h4{β:Type}{L:Nat→Int→Option β}{len:Nat}{chk:Nat→Bool}{no yes:β}{m:Nat}(hm:len<m)
 (step:∀m i,i<len→L (m+1) (i:Int)=if chk i then L m ((i+1:Nat):Int)else some no) (stop:∀m,L (m+1) (len:Int)=some yes):
 L m 0=some (if allI len chk then yes else no):=Ue hm step stop
abbrev pv(i:Nat):Nat:=(atY ((i:Int)-1)).toNat
def Uo(i:Nat)(h:i≤1000000000):pv (i+1)=i:=by
 unfold pv;(rw [show((i+1:Nat):Int)-1=(i:Int)by omega,A_ (by omega)];simp only [atN])
def aoL(len:Nat)(a b:Nat→Bool):(allI len λi=>a i&&b i)=(allI len a&&allI len b):=by
 rw [Bool.eq_iff_iff];simp only [ig,Bool.and_eq_true];exact⟨λh=>⟨λi hi=>(h i hi).1,λi hi=>(h i hi).2⟩,λh i hi=>⟨h.1 i hi,h.2 i hi⟩⟩
def aoM{L:Nat→Int→at1}{len:Nat}{p:Nat→Bool}
 (step:∀m i,i<len→L (m+1) (i:Int)=if p i then some (i:Int)else L m ((i+1:Nat):Int)) (stop:∀m,L (m+1) (len:Int)=some (-1)):
 ∀m i,len<i+m→i≤len→∃r,L m (i:Int)=some r∧decide (0≤r)=(List.range' i (len-i)).any p:=by
 intro m;induction m with
 |zero=>intro i h aa;omega
 |succ m aH=>
  intro i h aa;by_cases hi:i<len
  ·rw [step m i hi,show len-i=(len-(i+1))+1 by omega,List.range'_succ,List.any_cons]
   cases hp:p i
   ·obtain⟨r,aj,aC⟩:=aH (i+1) (by omega) (by omega)
    exact⟨r,by rw [if_neg (by simp)];exact aj,by rw [aC];simp⟩
   ·exact⟨(i:Int),by simp,by simp⟩
  ·obtain rfl:i=len:=by omega
   exact⟨-1,stop m,by simp⟩
def Up{L:Nat→Int→at1}{len:Nat}{p:Nat→Bool}{m:Nat}(hm:len<m)
 (step:∀m i,i<len→L (m+1) (i:Int)=if p i then some (i:Int)else L m ((i+1:Nat):Int)) (stop:∀m,L (m+1) (len:Int)=some (-1)):
 ∃r,L m 0=some r∧decide (0≤r) = !allI len λi=>!p i:=by
 obtain⟨r,Z,aa⟩:=aoM step stop m 0 (by omega) (by omega)
 refine⟨r,Z,?_⟩
 rw [aa,Nat.sub_zero,←List.range_eq_range'];unfold allI;rw [List.not_all_eq_any_not];simp
section
variable {n:Nat} (hn:2000≤n) (aR:n≤1000000000)
include hn aR
def xt(l:List bn):Bool:=allI l.length λi=>ju (l.getD i default).Key&&jb (l.getD i default).bA&&(!decide (0<(i:Int))||Op.bytesLess (l.getD (pv i) default).Key (l.getD i default).Key)
def mb(l:List bn):Bool:=xt l&&allI l.length λi=>!decide ((l.getD i default).bA.Kind=0)
def uP(p:bn):Prop:=p.Key.length≤1000∧p.bA.S.length≤1000
theorem aoN{l:List bn}(ab:l.length<n)(h:∀i,uP (l.getD i default)):IA n l=some (xt l):=by
 unfold IA xt;rw [h4 (L:=y7 n l) (no:=false) (yes:=true) ab,ma]
 ·intro m i hi;have Z:=h i;simp only [y7,Iz,atO,hi,atF,atH,bI hi,aL,al,atN,bv (show i≤4611686018427387904 by omega),L5 (show 24<n by omega),l_ hi (show l.length≤1000000000 by omega)]
  rw [show sB n (⟨((l.getD i default).bA).Kind,((l.getD i default).bA).N,((l.getD i default).bA).S⟩:bp)=_ from L7 (v:=(l.getD i default).bA) (by have:=Z.2;omega) (by have:=Z.2;omega)]
  cases hk:ju (l.getD i default).Key
  ·simp only [atK,atJ,atI,atH,al,Bool.true_or,aL,Bool.false_and];rfl
  ·simp only [atK,atJ,atI,atH,al,l_ hi (show l.length≤1000000000 by omega),aL,Bool.true_and]
   exact iN (by simp only [dt,ef,Bool.not_and,Bool.not_or,Bool.not_not])
 ·intro m;simp only [y7,Iz,P7,atS,atG,atI]
theorem acz{l:List bn}(ab:l.length<n)(h:∀i,uP (l.getD i default)):Di n l=some (mb l):=by
 unfold Di P6 P5 mb;rw [aoN hn aR ab h,al]
 obtain⟨r,Z,aa⟩:=Up (L:=y6 n l) (len:=l.length) (p:=λi=>decide ((l.getD i default).bA.Kind=0)) ab (by
  intro m i hi;simp only [y6,Iy,P3,atO,hi,atF,atH,bI hi,aL,al,atN,bv (show i≤4611686018427387904 by omega),atR,atU]) (by
  intro m;simp only [y6,Iy,P4,atS,atG,atI])
 rw [Z];simp only [al,aa];cases xt l<;>simp
theorem aoO{l:List bn}(ab:l.length<n)(h:∀i,uP (l.getD i default)):KS n l=some (mb l):=by
 have e1:KO n l=some (allI l.length λi=>ju (l.getD i default).Key&&(!decide (0<(i:Int))||Op.bytesLess (l.getD (pv i) default).Key (l.getD i default).Key)):=by
  unfold KO;rw [h4 (L:=Ao n l) (no:=false) (yes:=true) ab,ma]
  ·intro m i hi;have Z:=h i;simp only [Ao,KN,atO,hi,atF,atH,bI hi,aL,al,atN,bv (show i≤4611686018427387904 by omega),L6 (show(l.getD i default).Key.length<n by have:=Z.1;omega) (by have:=Z.1;omega),Bb hi,l_ hi (show l.length≤1000000000 by omega),atT]
   exact iN (by simp only [dt,ef,Bool.not_and,Bool.not_or,Bool.not_not,←uO])
  ·intro m;simp only [Ao,KN,St,atS,atG,atI]
 have e2:KQ n l=some ((allI l.length λi=>jb (l.getD i default).bA)&&allI l.length λi=>ju (l.getD i default).Key&&(!decide (0<(i:Int))||Op.bytesLess (l.getD (pv i) default).Key (l.getD i default).Key)):=by
  unfold KQ;rw [h4 (L:=Ap n l) (chk:=λi=>jb (l.getD i default).bA) (no:=false) (yes:=allI l.length λi=>ju (l.getD i default).Key&&(!decide (0<(i:Int))||Op.bytesLess (l.getD (pv i) default).Key (l.getD i default).Key)) ab,rN]
  ·intro m i hi;have Z:=h i;simp only [Ap,KP,atO,hi,atF,atH,bI hi,aL,al,atN,bv (show i≤4611686018427387904 by omega),L8 (show(l.getD i default).bA.S.length<n by have:=Z.2;omega) (by have:=Z.2;omega)]
   exact iN rfl
  ·intro m;simp only [Ap,KP,Su,atS,atG,atI,e1,al]
 unfold KS;rw [h4 (L:=Aq n l) (chk:=λi=>!decide ((l.getD i default).bA.Kind=0)) (no:=false) (yes:=(allI l.length λi=>jb (l.getD i default).bA)&&allI l.length λi=>ju (l.getD i default).Key&&(!decide (0<(i:Int))||Op.bytesLess (l.getD (pv i) default).Key (l.getD i default).Key)) ab,rN]
 ·unfold mb xt;simp only [aoL]
  congr 1
  generalize (allI l.length λi=>ju (l.getD i default).Key)=a
  generalize (allI l.length λi=>jb (l.getD i default).bA)=b
  cases a<;>cases b<;>simp [Bool.and_comm]
 ·intro m i hi;simp only [Aq,KR,atO,hi,atF,atH,bI hi,aL,al,atN,bv (show i≤4611686018427387904 by omega)]
  exact iN (by simp)
 ·intro m;simp only [Aq,KR,Sv,atS,atG,atI,e2,al]
def rO(l:List bi):Bool:=(allI l.length λi=>ju (l.getD i default).Key && !decide ((l.getD i default).Count<1) && !decide (1099511627776<(l.getD i default).Count)&&(!decide (0<(i:Int))||Op.bytesLess (l.getD (pv i) default).Key (l.getD i default).Key))&&decide (((l.length:Nat):Int)≤32)
theorem aoP{l:List bi}(ab:l.length<n):Iq n l=some (rO l):=by
 unfold Iq rO;rw [h4 (L:=y1 n l) (no:=false) (yes:=decide (((l.length:Nat):Int)≤32)) ab,rN]
 ·intro m i hi;simp only [y1,Ip,atO,hi,atF,atH,bI hi,aL,al,atN,bv (show i≤4611686018427387904 by omega),L5 (show 24<n by omega),l_ hi (show l.length≤1000000000 by omega)]
  exact iN (by simp only [dt,ef,Bool.not_and,Bool.not_or,Bool.not_not])
 ·intro m;simp only [y1,Ip,PT,atS,atG,atI]
theorem aoQ{l:List bi}(ab:l.length<n)(h:∀i,(l.getD i default).Key.length≤1000):JR n l=some (rO l):=by
 unfold JR rO;rw [h4 (L:=zV n l) (no:=false) (yes:=decide (((l.length:Nat):Int)≤32)) ab,rN]
 ·intro m i hi;have Z:=h i;simp only [zV,JQ,atO,hi,atF,atH,bI hi,aL,al,atN,bv (show i≤4611686018427387904 by omega),L6 (show(l.getD i default).Key.length<n by omega) (by omega),Bb hi,aoK hi,l_ hi (show l.length≤1000000000 by omega),atT]
  exact iN (by simp only [dt,ef,Bool.not_and,Bool.not_or,Bool.not_not,←uO])
 ·intro m;simp only [zV,JQ,Ri,atS,atG,atI]
def qD(l:List atW):Bool:=(allI l.length λi=>ju (l.getD i default)&&(!decide (0<(i:Int))||Op.bytesLess (l.getD (pv i) default) (l.getD i default)))
theorem acA{l:List atW}(ab:l.length<n):CG n l=some (qD l&&decide (((l.length:Nat):Int)≤64)):=by
 unfold CG qD;rw [h4 (L:=yx n l) (no:=false) (yes:=decide (((l.length:Nat):Int)≤64)) ab,rN]
 ·intro m i hi;simp only [yx,Hu,atO,hi,atF,atH,bI hi,aL,al,atN,bv (show i≤4611686018427387904 by omega),L5 (show 24<n by omega),l_ hi (show l.length≤1000000000 by omega)]
  exact iN (by simp only [dt,ef,Bool.not_and,Bool.not_or,Bool.not_not,←uO])
 ·intro m;simp only [yx,Hu,OS,atS,atG,atI]
theorem acB{l:List atW}(ab:l.length<n)(h:∀i,(l.getD i default).length≤1000):Ei n l=some (qD l):=by
 unfold Ei qD;rw [h4 (L:=Ad n l) (no:=false) (yes:=true) ab,ma]
 ·intro m i hi;have Z:=h i;simp only [Ad,Km,atO,hi,atF,atH,bI hi,aL,al,atN,bv (show i≤4611686018427387904 by omega),L6 (show(l.getD i default).length<n by omega) (by omega),Bb hi,l_ hi (show l.length≤1000000000 by omega),atT]
  exact iN (by simp only [dt,ef,Bool.not_and,Bool.not_or,Bool.not_not])
 ·intro m;simp only [Ad,Km,R8,atS,atG,atI]
def rP(f:fg):Bool:=bif f.ee then decide (f.Reads.length=0)&&decide (f.cA.length=0) else(qD f.Reads&&decide (f.Reads.length≤64))&&(qD f.cA&&decide (f.cA.length≤64))
theorem aoR{f:fg}(Z:f.Reads.length<n)(aa:f.cA.length<n):CH n f=some (rP f):=by
 unfold CH rP;rw [acA hn aR Z,acA hn aR aa];simp only [al,fq,jD,ef];cases f.ee
 ·simp only [atI];cases qD f.Reads&&decide (f.Reads.length≤64)<;>rfl
 ·rfl
theorem aoS{f:fg}(Z:f.Reads.length<n)(aa:f.cA.length<n)(aj:∀i,(f.Reads.getD i default).length≤1000)(aC:∀i,(f.cA.getD i default).length≤1000):Ej n f=some (rP f):=by
 unfold Ej rP;rw [acB hn aR Z aj,acB hn aR aa aC];simp only [fq,jD,ef];cases f.ee
 ·simp only [atI];cases decide (f.Reads.length≤64)<;>cases decide (f.cA.length≤64)<;>cases qD f.Reads<;>cases qD f.cA<;>rfl
 ·rfl
end
def oH(c b:Bool):(bif c then some b else some default)=some (c&&b):=by cases c<;>rfl
def acC{l:Nat}{b:Bool}:(b||decide (l<1)||decide (16<l)||aJ 0 l)=true:=by
 by_cases h:l<1
 ·rw [decide_eq_true h];simp
 ·rw [l8 (by omega)];simp
def acD{α:Type}(l:List α)(d:α){i k:Nat}(h:k<i):(l.take i).getD k d=l.getD k d:=by
 simp [List.getD_eq_getElem?_getD,List.getElem?_take,h]
section
variable {n:Nat} (hn:2000≤n) (aR:n≤1000000000)
include hn aR
def ps(l:List bp):Bool:=allI l.length λi=>jb (l.getD i default) && !decide ((l.getD i default).Kind=0)
def pt(r:Request):Int:=
 bif (((decide (r.Client<1)||decide (32<r.Client))||decide (r.Seq<1))||decide (1099511627776<r.Seq))then 1 else
 bif !gv r.bc then 7 else
 bif decide (6<r.ar.length)then 2 else
 bif !ps r.ar then 1 else
 bif ((!rP r.br||r.br.ee)||(!r.eN&&decide (0<r.br.Reads.length+r.br.cA.length)))then 1 else 0
structure rQ(n:Nat)(r:Request):Prop where
 proc:r.bc.length≤1000
 args:r.ar.length<n
 vals:∀i,(r.ar.getD i default).S.length≤1000
 FH:r.br.Reads.length<n
 FI:r.br.cA.length<n
 rd:∀i,(r.br.Reads.getD i default).length≤1000
 wr:∀i,(r.br.cA.getD i default).length≤1000
theorem L'{r:Request}(h:rQ n r):ot n r=some (pt r):=by
 have Z:=h.proc;have aa:=h.args
 obtain⟨c,e1,e2⟩:=Up (L:=yy n r.ar) (len:=r.ar.length) (p:=λi=>!(jb (r.ar.getD i default) && !decide ((r.ar.getD i default).Kind=0))) aa (by
  intro m i hi;have:=h.vals i
  simp only [yy,Hv,OV,atO,hi,atF,atH,bI hi,aL,atN,bv (show i≤4611686018427387904 by omega),L7 (show(r.ar.getD i default).S.length<n by omega) (by omega),oH,al]
  cases jb (r.ar.getD i default)<;>cases decide ((r.ar.getD i default).Kind=0)<;>rfl) (by
  intro m;simp only [yy,Hv,OW,atS,atG,atI])
 have e3:(allI r.ar.length λi=>!!(jb (r.ar.getD i default) && !decide ((r.ar.getD i default).Kind=0)))=ps r.ar:=by simp only [Bool.not_not];rfl
 rw [e3]at e2;unfold ot OY OX pt;rw [AJ n _ (by omega),e1,show CH n ⟨r.br.ee,r.br.Reads,r.br.cA⟩=_ from aoR hn aR (f:=r.br) h.FH h.FI]
 have aj:=h.FH;have aC:=h.FI;have h':atY (((r.br.Reads.length:Nat):Int)+((r.br.cA.length:Nat):Int))=((r.br.Reads.length+r.br.cA.length:Nat):Int):=by rw [wr]<;>omega
 simp only [al,e2,h',dt,ef,eL];cases ((decide (r.Client<1)||decide (32<r.Client))||decide (r.Seq<1))||decide (1099511627776<r.Seq)<;>cases gv r.bc<;>cases decide (6<r.ar.length)<;>cases ps r.ar<;>cases ((!rP r.br||r.br.ee)||(!r.eN&&decide (0<r.br.Reads.length+r.br.cA.length)))<;>rfl
theorem aoT{r:Request}(h:rQ n r):Ko n r=some (pt r):=by
 have Z:=h.proc;have aa:=h.args;have aj:=h.FH;have aC:=h.FI;have h':atY (((r.br.Reads.length:Nat):Int)+((r.br.cA.length:Nat):Int))=((r.br.Reads.length+r.br.cA.length:Nat):Int):=by rw [wr]<;>omega
 have e1:wV n r n 0=some (if ps r.ar then(bif ((!rP r.br||r.br.ee)||(!r.eN&&decide (0<r.br.Reads.length+r.br.cA.length)))then 1 else 0)else 1):=by
  refine h4 (L:=wV n r) aa ?_ ?_
  ·intro m i hi;have:=h.vals i
   simp only [wV,Kn,atO,hi,atF,atH,bI hi,aL,atN,bv (show i≤4611686018427387904 by omega),L8 (show(r.ar.getD i default).S.length<n by omega) (by omega),al,atT]
   exact iN (by simp only [dt,ef,Bool.not_and,Bool.not_or,Bool.not_not])
  ·intro m;simp only [wV,Kn,R9,atS,atG,atI];rw [show Ej n ⟨r.br.ee,r.br.Reads,r.br.cA⟩=_ from aoS hn aR (f:=r.br) h.FH h.FI h.rd h.wr]
   simp only [al,h',dt,ef,eL];cases ((!rP r.br||r.br.ee)||(!r.eN&&decide (0<r.br.Reads.length+r.br.cA.length)))<;>rfl
 unfold Ko pt;rw [AI _ (by omega) (by omega) (by omega),e1]
 simp only [al,dt,ef,eL];cases ((decide (r.Client<1)||decide (32<r.Client))||decide (r.Seq<1))||decide (1099511627776<r.Seq)<;>cases gv r.bc<;>cases decide (6<r.ar.length)<;>cases ps r.ar<;>rfl
def L_(c:UInt8):Bool:=!(decide (c.toNat<33)||decide (126<c.toNat))
def nh(s:atW):Bool:=(allI s.length λi=>L_ (s.getD i 0))&&decide (s.length≤24)
theorem acE{s:atW}(hs:s.length<n):Df n s=some (nh s):=by
 unfold Df nh;rw [h4 (L:=y3 n s) (no:=false) (yes:=decide (s.length≤24)) hs,rN]
 ·intro m i hi;simp only [y3,It,atO,hi,atF,atH,bI hi,aL,atN,bv (show i≤4611686018427387904 by omega),atT,pg,eL]
  exact iN (by simp only [dt,L_,Bool.not_not])
 ·intro m;simp only [y3,It,PV,atS,atG,atI,jD]
theorem acF{s:atW}(hs:s.length<n):D0 n s=some (nh s):=by
 unfold D0 nh;rw [h4 (L:=zS n s) (chk:=λi=>L_ (s.getD i 0)) (no:=false) (yes:=true) hs,ma]
 ·simp only [eL];by_cases h:s.length≤24
  ·simp only [h,show¬ 24<s.length by omega,atF,atG,atI,Bool.and_true]
  ·simp only [h,show 24<s.length by omega,atF,atG,atH,Bool.and_false]
 ·intro m i hi;simp only [zS,JL,atO,hi,atF,atH,bI hi,aL,atN,bv (show i≤4611686018427387904 by omega),atT,pg,eL]
  exact iN (by simp only [dt,L_,Bool.not_not])
 ·intro m;simp only [zS,JL,Rf,atS,atG,atI]
def rR(n:Int):Bool:=decide (1≤n)&&decide (n≤16)
def Uq(n:Int):Bool:=decide (1≤n)&&decide (n≤1099511627776)
def rS(l:List Part)(i:Nat):Bool:=
 let x:=l.getD i default
 bif decide (x.fC=0)then decide (x.gQ=[]) else((((rR x.fC && !decide (x.fC=x.Node))&&nh x.gQ) && !Op.bytesLess x.gQ x.ec)&&(decide (i+1=l.length)||Op.bytesLess x.gQ (l.getD (i+1) default).ec))
def uQ(l:List Part)(i:Nat):Bool:=
 let x:=l.getD i default
 (!decide (0<(i:Int))||(nh x.ec&&Op.bytesLess (l.getD (pv i) default).ec x.ec))&&(((Uq x.Id&&rR x.Node)&&rS l i)&&allI i λk=>!decide ((l.getD k default).Id=x.Id))
def ni(p:cb):Bool:=!((((decide (p.Version<0)||decide (1099511627776<p.Version))||decide (p.aE.length<1))||decide (16<p.aE.length)) || !decide ((p.aE.getD 0 default).ec=[]))&&allI p.aE.length (uQ p.aE)
def rT(x:Part):Prop:=x.ec.length≤1000∧x.gQ.length≤1000
theorem aoU{l:List Part}(ab:l.length<n){i:Nat}(hi:i<l.length)(h:∀i,rT (l.getD i default)):Iv n l (i:Int)=some (rS l i):=by
 unfold Iv Dg rS;have Z:=(h i).2
 (rw [bI hi,aL];simp only [atN];rw [acE hn aR (by omega),bv (by omega)])
 simp only [al,ef,dt,oH,Int.ofNat_inj,show(decide (1≤(l.getD i default).fC)&&decide ((l.getD i default).fC≤16))=rR (l.getD i default).fC from rfl]
 cases decide ((l.getD i default).fC=0)
 ·simp only [atI];by_cases e:i+1=l.length
  ·simp only [e,atF,Bool.true_or,atT,aL];cases rR (l.getD i default).fC<;>cases decide ((l.getD i default).fC=(l.getD i default).Node)<;>rfl
  ·rw [bI (show i+1<l.length by omega)]
   simp only [e,atN,atG,Bool.false_or,atT,aL];cases rR (l.getD i default).fC<;>cases decide ((l.getD i default).fC=(l.getD i default).Node)<;>rfl
 ·rfl
theorem acG{p:cb}(ab:p.aE.length<n)(h:∀i,rT (p.aE.getD i default)):Dh n p=some (ni p):=by
 have e1:wm n p n 0=some (allI p.aE.length (uQ p.aE)):=by
  rw [h4 (L:=wm n p) (chk:=uQ p.aE) (no:=false) (yes:=true) ab,ma]
  ·intro m i hi;have Z:=h i;have aa:=Z.1;have cX:(p.aE.take i).length<n:=by simp;omega
   obtain⟨c,f1,f2⟩:=Up (L:=y4 n (p.aE.take i) (p.aE.getD i default).Id) (len:=(p.aE.take i).length) (p:=λk=>decide (((p.aE.take i).getD k default).Id=(p.aE.getD i default).Id)) cX (by
    intro m k hk;have o0:k≤4611686018427387904:=by omega
    simp only [y4,Iu,PW,atO,hk,atF,atH,bI hk,aL,al,atN,bv o0];cases decide (((p.aE.take i).getD k default).Id=(p.aE.getD i default).Id)<;>rfl) (by
    intro m;simp only [y4,Iu,PX,atS,atG,atI])
   have f3:(allI (p.aE.take i).length λk=>!decide (((p.aE.take i).getD k default).Id=(p.aE.getD i default).Id))=allI i λk=>!decide ((p.aE.getD k default).Id=(p.aE.getD i default).Id):=by
    rw [show(p.aE.take i).length=i by simp;omega,Bool.eq_iff_iff,ig,ig]
    constructor
    ·intro g k hk;have:=g k hk;rwa [acD _ _ hk]at this
    ·intro g k hk;have:=g k hk;rwa [acD _ _ hk]
   rw [f3]at f2;simp only [wm,Iw,PZ,PY,P0,Dg,atO,hi,atF,atH,bI hi,aL,al,atN,bv (show i≤4611686018427387904 by omega),acE hn aR (show(p.aE.getD i default).ec.length<n by omega),oH,f1,aoU hn aR ab hi h,xb (Nat.le_of_lt hi),atT]
   have g1:(!decide (0<(i:Int))||(!(decide (0<(i:Int))&&nh (p.aE.getD i default).ec)||aJ (atY ((i:Int)-1)) p.aE.length))=true:=by
    have:=l_ (b:=!(decide (0<(i:Int))&&nh (p.aE.getD i default).ec)) hi (show p.aE.length≤1000000000 by omega)
    rw [←this];cases decide (0<(i:Int))<;>simp
   simp only [g1,aL,←uO,dt,ef];unfold uQ Uq rR;simp only
   cases hd:decide (0<(i:Int))
   ·simp only [Bool.false_and,atI,atK,Bool.true_or,Bool.true_and];cases (decide (1≤(p.aE.getD i default).Id)&&decide ((p.aE.getD i default).Id≤1099511627776))
    ·rfl
    ·cases (decide (1≤(p.aE.getD i default).Node)&&decide ((p.aE.getD i default).Node≤16))
     ·rfl
     ·cases rS p.aE i
      ·rfl
      ·simp only [atJ,Bool.or_self,atK,atH,al,f2,Bool.false_or,Bool.true_and];exact iN rfl
   ·simp only [Bool.true_and,atH,atJ,Bool.false_or];cases nh (p.aE.getD i default).ec
    ·rfl
    ·cases Op.bytesLess (p.aE.getD (pv i) default).ec (p.aE.getD i default).ec
     ·rfl
     ·cases (decide (1≤(p.aE.getD i default).Id)&&decide ((p.aE.getD i default).Id≤1099511627776))
      ·rfl
      ·cases (decide (1≤(p.aE.getD i default).Node)&&decide ((p.aE.getD i default).Node≤16))
       ·rfl
       ·cases rS p.aE i
        ·rfl
        ·simp only [atJ,Bool.or_self,atK,atH,atI,al,f2,Bool.false_or,Bool.true_and];exact iN rfl
  ·intro m;simp only [wm,Iw,P1,atS,atG,atI]
 unfold Dh ni;rw [e1];simp only [dt,pg,eL,acC,aL];cases (((decide (p.Version<0)||decide (1099511627776<p.Version))||decide (p.aE.length<1))||decide (16<p.aE.length)) || !decide ((p.aE.getD 0 default).ec=[])<;>rfl
end
def aoV{β:Type}{L:Nat→Int→Option β}{len:Nat}{chk:Nat→Bool}{no:β}{yes:Option β}
 (step:∀m i,i<len→L (m+1) (i:Int)=if chk i then L m ((i+1:Nat):Int)else some no) (stop:∀m,L (m+1) (len:Int)=yes):
 ∀m i,len<i+m→i≤len→L m (i:Int)=if(List.range' i (len-i)).all chk then yes else some no:=by
 intro m;induction m with
 |zero=>intro i h aa;omega
 |succ m aH=>
  intro i h aa;by_cases hi:i<len
  ·rw [step m i hi,aH (i+1) (by omega) (by omega),show len-i=(len-(i+1))+1 by omega,List.range'_succ,List.all_cons]
   cases chk i
   ·rfl
   ·rw [if_pos rfl,Bool.true_and]
  ·obtain rfl:i=len:=by omega
   rw [stop m];simp
def Ur{β:Type}{L:Nat→Int→Option β}{len:Nat}{chk:Nat→Bool}{no:β}{yes:Option β}{m:Nat}(hm:len<m)
 (step:∀m i,i<len→L (m+1) (i:Int)=if chk i then L m ((i+1:Nat):Int)else some no) (stop:∀m,L (m+1) (len:Int)=yes):
 L m 0=if allI len chk then yes else some no:=by
 have:=aoV step stop m 0 (by omega) (by omega)
 rwa [Nat.sub_zero,←List.range_eq_range']at this
section
variable {n:Nat} (hn:2000≤n) (aR:n≤1000000000)
include hn aR
theorem aoW{l:List Part}{i:Nat}(hi:i<l.length)(h:∀i,rT (l.getD i default))(eP:atW)(hnx:i+1<l.length→eP=(l.getD (i+1) default).ec):
 JM n (l.getD i default) eP (decide (((i+1:Nat):Int)=((l.length:Nat):Int)))=some (rS l i):=by
 unfold JM rS;have Z:=(h i).2;rw [acF hn aR (by omega)]
 simp only [oH,al,ef,dt,Int.ofNat_inj,show(decide (1≤(l.getD i default).fC)&&decide ((l.getD i default).fC≤16))=rR (l.getD i default).fC from rfl]
 cases decide ((l.getD i default).fC=0)
 ·simp only [atI];by_cases e:i+1=l.length
  ·simp only [e,atF,Bool.true_or];cases rR (l.getD i default).fC<;>cases decide ((l.getD i default).fC=(l.getD i default).Node)<;>cases nh (l.getD i default).gQ<;>rfl
  ·rw [hnx (by omega)]
   simp only [e,atG,Bool.false_or];cases rR (l.getD i default).fC<;>cases decide ((l.getD i default).fC=(l.getD i default).Node)<;>cases nh (l.getD i default).gQ<;>rfl
 ·rfl
theorem acH{p:cb}(ab:p.aE.length<n)(h:∀i,rT (p.aE.getD i default))(h0:(p.aE.getD 0 default).ec=[])(ak:Int→at0){i:Nat}(hi:i<p.aE.length)(eP:atW)(hnx:i+1<p.aE.length→eP=(p.aE.getD (i+1) default).ec):
 D1 n ak p (i:Int) eP=if uQ p.aE i then ak ((i+1:Nat):Int)else some false:=by
 have Z:=(h i).1
 have pP:wQ n ak p (i:Int) n 0=if(allI i λk=>!decide ((p.aE.getD k default).Id=(p.aE.getD i default).Id))then ak ((i+1:Nat):Int)else some false:=by
  refine Ur (L:=wQ n ak p (i:Int)) (by omega) ?_ ?_
  ·intro m k hk;have o0:k<p.aE.length:=by omega
   simp only [wQ,JN,atO,hk,atF,atH,bI o0,aL,atN,bv (show k≤4611686018427387904 by omega)]
   exact iN (by rw [Bool.not_not])
  ·intro m;simp only [wQ,JN,Rh,atS,atG,atI,bv (show i≤4611686018427387904 by omega)]
 unfold D1
 (simp only [atN];rw [acF hn aR (by omega),al,l_ hi (by omega),aL,bv (by omega),aoW hn aR hi h eP hnx,oH,al,pP])
 simp only [dt,ef,←uO];unfold uQ Uq rR;simp only
 have g0:(decide (0<(i:Int)))=false→nh (p.aE.getD i default).ec=true:=by
  intro e;obtain rfl:i=0:=by have:=of_decide_eq_false e;omega
  rw [h0];rfl
 have c1:decide ((p.aE.getD i default).Id<1) = !decide (1≤(p.aE.getD i default).Id):=by
  by_cases g:(p.aE.getD i default).Id<1
  ·rw [decide_eq_true g,decide_eq_false (by omega)];rfl
  ·rw [decide_eq_false g,decide_eq_true (by omega)];rfl
 have c2:decide (1099511627776<(p.aE.getD i default).Id) = !decide ((p.aE.getD i default).Id≤1099511627776):=by
  by_cases g:(1099511627776<(p.aE.getD i default).Id)
  ·rw [decide_eq_true g,decide_eq_false (by omega)];rfl
  ·rw [decide_eq_false g,decide_eq_true (by omega)];rfl
 have c3:decide ((p.aE.getD i default).Node<1) = !decide (1≤(p.aE.getD i default).Node):=by
  by_cases g:(p.aE.getD i default).Node<1
  ·rw [decide_eq_true g,decide_eq_false (by omega)];rfl
  ·rw [decide_eq_false g,decide_eq_true (by omega)];rfl
 have c4:decide (16<(p.aE.getD i default).Node) = !decide ((p.aE.getD i default).Node≤16):=by
  by_cases g:(16<(p.aE.getD i default).Node)
  ·rw [decide_eq_true g,decide_eq_false (by omega)];rfl
  ·rw [decide_eq_false g,decide_eq_true (by omega)];rfl
 rw [c1,c2,c3,c4,←atR,←atR];generalize (allI i λk=>!decide ((p.aE.getD k default).Id=(p.aE.getD i default).Id))=z
 cases hd:decide (0<(i:Int))
 ·rw [g0 hd];cases decide (1≤(p.aE.getD i default).Id)<;>cases decide ((p.aE.getD i default).Id≤1099511627776)<;>cases decide (1≤(p.aE.getD i default).Node)<;>cases decide ((p.aE.getD i default).Node≤16)<;>cases rS p.aE i<;>cases z<;>rfl
 ·cases nh (p.aE.getD i default).ec<;>cases Op.bytesLess (p.aE.getD (pv i) default).ec (p.aE.getD i default).ec<;>cases decide (1≤(p.aE.getD i default).Id)<;>cases decide ((p.aE.getD i default).Id≤1099511627776)<;>cases decide (1≤(p.aE.getD i default).Node)<;>cases decide ((p.aE.getD i default).Node≤16)<;>cases rS p.aE i<;>cases z<;>rfl
theorem aoX{p:cb}(ab:p.aE.length<n)(h:∀i,rT (p.aE.getD i default)):JP n p=some (ni p):=by
 unfold JP ni;simp only [dt,pg,eL,acC,aL];cases h0:(((decide (p.Version<0)||decide (1099511627776<p.Version))||decide (p.aE.length<1))||decide (16<p.aE.length)) || !decide ((p.aE.getD 0 default).ec=[])
 ·have acI:(p.aE.getD 0 default).ec=[]:=by
   simp only [Bool.or_eq_false_iff,Bool.not_eq_false',decide_eq_true_eq]at h0;exact h0.2
  rw [atI];rw [h4 (L:=zU n p) (chk:=uQ p.aE) (no:=false) (yes:=true) ab,ma]
  ·rfl
  ·intro m i hi;simp only [zU,JO,atO,hi,atF,atH,bI hi,aL,bv (show i≤4611686018427387904 by omega)]
   by_cases e:i+1<p.aE.length
   ·rw [bI e];simp only [e,atF,atH,aL,atN];exact acH hn aR ab h acI _ hi _ (λ_=>rfl)
   ·simp only [e,atG,atI];exact acH hn aR ab h acI _ hi _ (λg=>absurd g e)
  ·intro m;simp only [zU,JO,Rg,atS,atG,atI]
 ·rfl
def uR(o:Outcome):Bool:=bif decide (o.Status=1) then(decide (o.Code=0)&&decide (o.Out.length≤16))&&ps o.Out else((decide (o.Status=2)&&decide (0≤o.Code))&&decide (o.Code≤1009))&&decide (o.Out.length=0)
structure xu(n:Nat)(o:Outcome):Prop where
 out:o.Out.length<n
 vals:∀i,(o.Out.getD i default).S.length≤1000
theorem aoY{o:Outcome}(h:xu n o):C8 n o=some (uR o):=by
 have Z:=h.out
 have e1:wg n o n 0=some (ps o.Out):=by
  rw [h4 (L:=wg n o) (no:=false) (yes:=true) Z,ma]
  ·rfl
  ·intro m i hi;have:=h.vals i
   simp only [wg,H',atO,hi,atF,atH,bI hi,aL,atN,bv (show i≤4611686018427387904 by omega),L7 (show(o.Out.getD i default).S.length<n by omega) (by omega),al]
   exact iN (by simp only [dt,Bool.not_and,Bool.not_not])
  ·intro m;simp only [wg,H',PK,atS,atG,atI]
 unfold C8 PJ uR;rw [e1];simp only [dt,ef,eL,fq];cases decide (o.Status=1)
 ·simp only [atI];cases decide (o.Status=2)<;>rfl
 ·simp only [atH];by_cases g:o.Out.length≤16
  ·simp only [show¬ 16<o.Out.length by omega,g,atF,atG]
   cases decide (o.Code=0)<;>rfl
  ·simp only [show 16<o.Out.length by omega,g,atF,atG,atT,atH,Bool.and_false,Bool.false_and]
theorem aoZ{o:Outcome}(h:xu n o):D2 n o=some (uR o):=by
 have Z:=h.out
 have e1:wR n o.Out n 0=some (ps o.Out&&decide (o.Out.length≤16)):=by
  rw [h4 (L:=wR n o.Out) (chk:=λi=>jb (o.Out.getD i default) && !decide ((o.Out.getD i default).Kind=0)) (no:=false) (yes:=decide (o.Out.length≤16)) Z,rN]
  ·rfl
  ·intro m i hi;have:=h.vals i
   simp only [wR,JS,atO,hi,atF,atH,bI hi,aL,atN,bv (show i≤4611686018427387904 by omega),L8 (show(o.Out.getD i default).S.length<n by omega) (by omega),al,atT]
   exact iN (by simp only [dt,Bool.not_and,Bool.not_not])
  ·intro m;simp only [wR,JS,Rj,atS,atG,atI,jD]
 unfold D2 Rk uR;rw [e1,oH,al];simp only [ef,fq];cases decide (o.Status=1)
 ·rfl
 ·simp only [atH];cases decide (o.Code=0)<;>cases decide (o.Out.length≤16)<;>cases ps o.Out<;>rfl
def kp(eP:Int):Int:=bif (decide ((atY (eP-1))<8)) then(atY (eP-1))else 8
def xv(s:bM):Bool:=((decide (s.Client<1)||decide (32<s.Client))||decide (s.Next<1))||decide (1099511627776<s.Next)
omit hn aR in
theorem Us{s:bM}(h:xv s=false):1≤s.Client∧s.Client≤32∧1≤s.Next∧s.Next≤1099511627776:=by
 simp only [xv,Bool.or_eq_false_iff,decide_eq_false_iff_not]at h;omega
def Bc(s:bM)(i:Nat):Bool:=(decide ((s.bK.getD i default).Client=s.Client)&&decide ((s.bK.getD i default).Seq=s.Next-(s.bK.length:Int)+(i:Int)))&&uR (s.bK.getD i default).Outcome
def xw(s:bM):Bool:=(!xv s&&decide ((s.bK.length:Int)=kp s.Next))&&allI s.bK.length (Bc s)
structure qE(n:Nat)(s:bM):Prop where
 rep:s.bK.length<n
 out:∀i,xu n (s.bK.getD i default).Outcome
theorem ao0{s:bM}(h:qE n s):Ia n s=some (xw s):=by
 have Z:=h.rep;unfold Ia C7 xw;simp only [dt];rw [show(((decide (s.Client<1)||decide (32<s.Client))||decide (s.Next<1))||decide (1099511627776<s.Next))=xv s from rfl]
 cases aN:xv s
 ·have hb:=Us aN;simp only [atK,atH,al,Bool.false_or,Bool.true_and];rw [show(bif (decide ((atY (s.Next-1))<8)) then(atY (s.Next-1))else 8)=kp s.Next from rfl]
  rw [h4 (L:=yS n s) (chk:=Bc s) (no:=false) (yes:=true) Z,ma]
  ·cases decide ((s.bK.length:Int)=kp s.Next)<;>rfl
  ·intro m i hi;simp only [yS,H_,atO,hi,atF,atH,bI hi,aL,atN,bv (show i≤4611686018427387904 by omega)]
   rw [show C8 n (⟨((s.bK.getD i default).Outcome).Status,((s.bK.getD i default).Outcome).Code,((s.bK.getD i default).Outcome).Out⟩:Outcome)=_ from aoY hn aR (h.out i),oH,al,wr (x:=s.Next-((s.bK.length:Nat):Int)) (by omega) (by omega),wr (x:=s.Next-((s.bK.length:Nat):Int)+(i:Int)) (by omega) (by omega)]
   refine iN ?_;unfold Bc;simp only [dt,Bool.and_true,Bool.not_not];cases decide ((s.bK.getD i default).Client=s.Client)<;>cases decide ((s.bK.getD i default).Seq=s.Next-(s.bK.length:Int)+(i:Int))<;>rfl
  ·intro m;simp only [yS,H_,PL,atS,atG,atI]
 ·rfl
theorem ao1{s:bM}(h:qE n s):JU n s=some (xw s):=by
 have Z:=h.rep;unfold JU Rl xw;simp only [dt];rw [show(((decide (s.Client<1)||decide (32<s.Client))||decide (s.Next<1))||decide (1099511627776<s.Next))=xv s from rfl]
 cases aN:xv s
 ·have hb:=Us aN;simp only [atK,atH,al,Bool.false_or,Bool.true_and];rw [show(bif (decide ((atY (s.Next-1))<8)) then(atY (s.Next-1))else 8)=kp s.Next from rfl]
  rw [h4 (L:=zW n s) (chk:=Bc s) (no:=false) (yes:=true) Z,ma]
  ·cases decide ((s.bK.length:Int)=kp s.Next)<;>rfl
  ·intro m i hi;simp only [zW,JT,atO,hi,atF,atH,bI hi,aL,atN,bv (show i≤4611686018427387904 by omega)]
   rw [show D2 n (⟨((s.bK.getD i default).Outcome).Status,((s.bK.getD i default).Outcome).Code,((s.bK.getD i default).Outcome).Out⟩:Outcome)=_ from aoZ hn aR (h.out i),oH,al,wr (x:=((s.bK.length:Nat):Int)-(i:Int)) (by omega) (by omega),show s.Next-(((s.bK.length:Nat):Int)-(i:Int))=s.Next-((s.bK.length:Nat):Int)+(i:Int)by omega,wr (x:=s.Next-((s.bK.length:Nat):Int)+(i:Int)) (by omega) (by omega)]
   refine iN ?_;unfold Bc;simp only [dt,Bool.and_true,Bool.not_not];cases decide ((s.bK.getD i default).Client=s.Client)<;>cases decide ((s.bK.getD i default).Seq=s.Next-(s.bK.length:Int)+(i:Int))<;>rfl
  ·intro m;simp only [zW,JT,Rm,atS,atG,atI]
 ·rfl
def nV(l:List bM):Bool:=allI l.length λi=>xw (l.getD i default)&&(!decide (0<(i:Int)) || !decide ((l.getD i default).Client≤(l.getD (pv i) default).Client))
theorem Ma{l:List bM}(ab:l.length<n)(h:∀i,qE n (l.getD i default)):sD n l=some (nV l):=by
 unfold sD nV;rw [h4 (L:=yT n l) (no:=false) (yes:=true) ab,ma]
 ·intro m i hi;simp only [yT,Ib,atO,hi,atF,atH,bI hi,aL,atN,bv (show i≤4611686018427387904 by omega),ao0 hn aR (h i),al,l_ hi (show l.length≤1000000000 by omega)]
  exact iN (by simp only [dt,ef,Bool.not_and,Bool.not_or,Bool.not_not])
 ·intro m;simp only [yT,Ib,PM,atS,atG,atI]
theorem ao2{l:List bM}(ab:l.length<n)(h:∀i,qE n (l.getD i default)):JW n l=some (nV l):=by
 unfold JW nV;rw [h4 (L:=zX n l) (no:=false) (yes:=true) ab,ma]
 ·intro m i hi;simp only [zX,JV,atO,hi,atF,atH,bI hi,aL,atN,bv (show i≤4611686018427387904 by omega),ao1 hn aR (h i),al,Bb hi,l_ hi (show l.length≤1000000000 by omega),atT]
  exact iN (by simp only [dt,ef,Bool.not_and,Bool.not_or,Bool.not_not])
 ·intro m;simp only [zX,JV,Rn,atS,atG,atI]
end
def acJ{β:Type}{c d k:Bool}{x y:β}(h:k=(!c && !d)):(bif c then x else(bif d then x else y))=if k then y else x:=by subst h;cases c<;>cases d<;>rfl
def ao3{α σ R:Type}[Inhabited α]{l:List α}{g:σ→α→σ}{I:Nat→σ→Prop}{L:Nat→σ→Int→Option R}{fin:σ→Option R}
 (step:∀m acc i,i<l.length→I i acc→L (m+1) acc (i:Int)=L m (g acc (l.getD i default)) ((i+1:Nat):Int)∧I (i+1) (g acc (l.getD i default)))
 (stop:∀m acc,I l.length acc→L (m+1) acc (l.length:Int)=fin acc):
 ∀m i acc,l.length<i+m→i≤l.length→I i acc→L m acc (i:Int)=fin ((l.drop i).foldl g acc):=by
 intro m;induction m with
 |zero=>intro i acc h aa;omega
 |succ m aH=>
  intro i acc h aa mp;by_cases hi:i<l.length
  ·obtain⟨aj,aC⟩:=step m acc i hi mp;rw [aj,aH (i+1) _ (by omega) (by omega) aC,e8 l i default hi,List.foldl_cons]
  ·obtain rfl:i=l.length:=by omega
   rw [stop m acc mp,List.drop_of_length_le (Nat.le_refl _)];rfl
def acK{α σ R:Type}[Inhabited α]{l:List α}{g:σ→α→σ}{I:Nat→σ→Prop}{L:Nat→σ→Int→Option R}{fin:σ→Option R}{m:Nat}(hm:l.length<m){acc:σ}(h0:I 0 acc)
 (step:∀m acc i,i<l.length→I i acc→L (m+1) acc (i:Int)=L m (g acc (l.getD i default)) ((i+1:Nat):Int)∧I (i+1) (g acc (l.getD i default)))
 (stop:∀m acc,I l.length acc→L (m+1) acc (l.length:Int)=fin acc):L m acc 0=fin (l.foldl g acc):=
 ao3 step stop m 0 acc (by omega) (by omega) h0
def fold_map{α β:Type}(f:α→β):∀(l:List α) (acc:List β),l.foldl (λa x=>a++[f x]) acc=acc++l.map f
 |[],acc=>by simp
 |x::l,acc=>by rw [List.foldl_cons,fold_map f l];simp
def lg{m k:Nat}(h:m*k≤140737488355328):room m k=true:=by simp [room];exact h
def Mb{α:Type}[Inhabited α]{l:List α}{i:Nat}(h:i<l.length):l.getD i default∈l:=by
 rw [List.getD_eq_getElem?_getD,List.getElem?_eq_getElem h];exact List.getElem_mem h
section
variable {n:Nat} (hn:2000≤n) (aR:n≤1000000000)
include hn aR
def Ut(a b:bp):Bool:=decide (a.Kind=b.Kind)&&(decide (a.N=b.N)&&(decide (a.S=b.S)&&true))
def tc(r:Row)(floor last:Int)(i:Nat):Bool:=
 ((!decide ((r.bl.getD i default).ck<floor) && !decide (last<(r.bl.getD i default).ck))&&jb (r.bl.getD i default).bA) &&
 !(decide (0<(i:Int))&&(decide ((r.bl.getD i default).ck≤(r.bl.getD (pv i) default).ck)||Ut (r.bl.getD i default).bA (r.bl.getD (pv i) default).bA))
def pu(r:Row)(floor last:Int):Bool:=!(decide (r.bl.length=0)||decide ((r.bl.getD 0 default).bA.Kind=0))&&allI r.bl.length (tc r floor last)
structure Mc(n:Nat)(r:Row):Prop where
 key:r.Key.length≤1000
 FJ:r.bl.length<n
 val:∀i,(r.bl.getD i default).bA.S.length≤1000
omit hn aR in
theorem acL{i len:Nat}{b:Bool}(hi:i<len)(ab:len≤1000000000):(!(decide (0<(i:Int)))||(b||aJ (atY ((i:Int)-1)) len))=true:=by
 have:=l_ (b:=b) hi ab
 rw [←this];cases decide (0<(i:Int))<;>cases b<;>simp
omit hn aR in
theorem acM{i len:Nat}(hi:i<len)(ab:len≤1000000000):(!(decide (0<(i:Int)))||aJ (atY ((i:Int)-1)) len)=true:=by
 have:=l_ (b:=false) hi ab
 rw [Bool.false_or]at this;exact this
omit hn aR in
theorem acN{l:Nat}:(decide (l=0)||aJ 0 l)=true:=by
 by_cases h:l=0
 ·rw [decide_eq_true h];rfl
 ·rw [l8 (by omega)];simp
theorem ao4{r:Row}(h:Mc n r)(floor last:Int):HC n r floor last=some (pu r floor last):=by
 have Z:=h.FJ;unfold HC pu;rw [h4 (L:=yD n floor last r) (chk:=tc r floor last) (no:=false) (yes:=true) Z,ma]
 ·simp only [fq,acN,aL,dt];cases decide (r.bl.length=0)||decide ((r.bl.getD 0 default).bA.Kind=0)<;>rfl
 ·intro m i hi;have aa:=h.val i;simp only [yD,HB,atO,hi,atF,atH,bI hi,aL,atN,bv (show i≤4611686018427387904 by omega),acL hi (show r.bl.length≤1000000000 by omega),acM hi (show r.bl.length≤1000000000 by omega)]
  rw [show sB n (⟨((r.bl.getD i default).bA).Kind,((r.bl.getD i default).bA).N,((r.bl.getD i default).bA).S⟩:bp)=_ from L7 (v:=(r.bl.getD i default).bA) (by omega) (by omega),oH,al]
  refine acJ ?_;unfold tc;simp only [Ut,dt,ef,Bool.not_and,Bool.not_or,Bool.not_not];cases decide ((r.bl.getD i default).ck<floor)<;>cases decide (last<(r.bl.getD i default).ck)<;>cases jb (r.bl.getD i default).bA<;>rfl
 ·intro m;simp only [yD,HB,O4,atS,atG,atI]
theorem ao5{r:Row}(h:Mc n r)(floor last:Int):JJ n r floor last=some (ju r.Key&&pu r floor last):=by
 have Z:=h.FJ;have h0:=h.key;unfold JJ pu;rw [L6 (by omega) (by omega),al]
 rw [h4 (L:=zP n floor last r) (chk:=tc r floor last) (no:=false) (yes:=true) Z,ma]
 ·have g:∀b:Bool,(b||decide (r.bl.length=0)||aJ 0 r.bl.length)=true:=λb=>by rw [Bool.or_assoc,acN];simp
  simp only [fq,dt,g,aL];cases ju r.Key<;>cases decide (r.bl.length=0)<;>cases decide ((r.bl.getD 0 default).bA.Kind=0)<;>rfl
 ·intro m i hi;have aa:=h.val i;simp only [zP,JI,Rc,atO,hi,atF,atH,bI hi,aL,atN,bv (show i≤4611686018427387904 by omega),acL hi (show r.bl.length≤1000000000 by omega),acM hi (show r.bl.length≤1000000000 by omega)]
  rw [show uj n (⟨((r.bl.getD i default).bA).Kind,((r.bl.getD i default).bA).N,((r.bl.getD i default).bA).S⟩:bp)=_ from L8 (v:=(r.bl.getD i default).bA) (by omega) (by omega),al,al]
  refine acJ ?_;unfold tc;simp only [Ut,dt,ef,Bool.not_and,Bool.not_or,Bool.not_not];cases decide ((r.bl.getD i default).ck<floor)<;>cases decide (last<(r.bl.getD i default).ck)<;>cases jb (r.bl.getD i default).bA<;>rfl
 ·intro m;simp only [zP,JI,Rd,atS,atG,atI]
def lh(s:aB):Bool:=!((decide (s.cl<0)||decide (s.b9<s.cl))||decide (1099511627776<s.b9)) &&
 allI s.Rows.length λi=>(ju (s.Rows.getD i default).Key&&(!decide (0<(i:Int))||Op.bytesLess (s.Rows.getD (pv i) default).Key (s.Rows.getD i default).Key))&&pu (s.Rows.getD i default) s.cl s.b9
structure FK(n:Nat)(s:aB):Prop where
 rows:s.Rows.length<n
 row:∀i,Mc n (s.Rows.getD i default)
theorem Uu{s:aB}(h:FK n s):v7 n s=some (lh s):=by
 have Z:=h.rows;unfold v7 lh;rw [h4 (L:=yE n s) (chk:=λi=>(ju (s.Rows.getD i default).Key&&(!decide (0<(i:Int))||Op.bytesLess (s.Rows.getD (pv i) default).Key (s.Rows.getD i default).Key))&&pu (s.Rows.getD i default) s.cl s.b9) (no:=false) (yes:=true) Z,ma]
 ·simp only [dt];cases (decide (s.cl<0)||decide (s.b9<s.cl))||decide (1099511627776<s.b9)<;>rfl
 ·intro m i hi;have aa:=(h.row i).key;simp only [yE,HD,atO,hi,atF,atH,bI hi,aL,al,atN,bv (show i≤4611686018427387904 by omega),L5 (show 24<n by omega),l_ hi (show s.Rows.length≤1000000000 by omega),ao4 hn aR (h.row i),oH,←uO]
  refine iN ?_;simp only [dt,ef];cases ju (s.Rows.getD i default).Key<;>cases decide (0<(i:Int))<;>cases Op.bytesLess (s.Rows.getD (pv i) default).Key (s.Rows.getD i default).Key<;>rfl
 ·intro m;simp only [yE,HD,O5,atS,atG,atI]
theorem acO{s:aB}(h:FK n s):zR n s=some (lh s):=by
 have Z:=h.rows;unfold zR lh;rw [h4 (L:=zQ n s) (chk:=λi=>(ju (s.Rows.getD i default).Key&&(!decide (0<(i:Int))||Op.bytesLess (s.Rows.getD (pv i) default).Key (s.Rows.getD i default).Key))&&pu (s.Rows.getD i default) s.cl s.b9) (no:=false) (yes:=true) Z,ma]
 ·simp only [dt];cases (decide (s.cl<0)||decide (s.b9<s.cl))||decide (1099511627776<s.b9)<;>rfl
 ·intro m i hi;simp only [zQ,JK,atO,hi,atF,atH,bI hi,aL,al,atN,bv (show i≤4611686018427387904 by omega),ao5 hn aR (h.row i),Bb hi,l_ hi (show s.Rows.length≤1000000000 by omega),atT]
  refine iN ?_;simp only [dt,ef];cases ju (s.Rows.getD i default).Key<;>cases decide (0<(i:Int))<;>cases Op.bytesLess (s.Rows.getD (pv i) default).Key (s.Rows.getD i default).Key<;>cases pu (s.Rows.getD i default) s.cl s.b9<;>rfl
 ·intro m;simp only [zQ,JK,Re,atS,atG,atI]
def je(l:List bn)(at_:Int):aB:=⟨at_,at_,l.map λp=>⟨p.Key,[⟨at_,p.bA⟩]⟩⟩
def Bd(l:List bn)(at_:Int):aB×Int:=bif ((!mb l||decide (at_<0))||decide (1099511627776<at_)) then(⟨0,0,[]⟩,1) else(je l at_,0)
theorem ao6{l:List bn}(ab:l.length<n)(h:∀i,uP (l.getD i default))(at_:Int):zC n l at_=some (Bd l at_):=by
 unfold zC Bd;rw [acz hn aR ab h,al,acK (L:=zB n at_ l) (g:=λa p=>a++[⟨p.Key,[⟨at_,p.bA⟩]⟩]) (I:=λi acc=>acc.length=i) (fin:=λv=>some (⟨at_,at_,v⟩,0)) ab rfl,fold_map]
 ·simp only [dt,List.nil_append];cases (!mb l||decide (at_<0))||decide (1099511627776<at_)<;>rfl
 ·intro m acc i hi mp;have:room (acc.length+1) 40=true:=lg (by omega)
  simp only [zB,Jl,atO,hi,atF,atH,bI hi,aL,atN,bv (show i≤4611686018427387904 by omega),atQ,this]
  exact⟨trivial,by simp [mp]⟩
 ·intro m acc mp;simp only [zB,Jl,QP,atS,atG,atI]
theorem ao7{l:List bn}(ab:l.length<n)(h:∀i,uP (l.getD i default))(at_:Int):Eu n l at_=some (Bd l at_):=by
 unfold Eu Bd;rw [aoO hn aR ab h,al,acK (L:=Ar n l at_) (g:=λa p=>a++[⟨p.Key,[⟨at_,p.bA⟩]⟩]) (I:=λi acc=>acc.length=i) (fin:=λv=>some (⟨at_,at_,v⟩,0)) ab rfl,fold_map]
 ·simp only [dt,List.nil_append];cases (!mb l||decide (at_<0))||decide (1099511627776<at_)<;>rfl
 ·intro m acc i hi mp;have:room (acc.length+1) 40=true:=lg (by omega)
  simp only [Ar,KT,atO,hi,atF,atH,bI hi,aL,atN,bv (show i≤4611686018427387904 by omega),atQ,this]
  exact⟨trivial,by simp [mp]⟩
 ·intro m acc mp;simp only [Ar,KT,Sw,atS,atG,atI]
end
def rU{α:Type}[Inhabited α]{P:α→Prop}{l:List α}(h:∀x∈l,P x)(h0:P default)(i:Nat):P (l.getD i default):=by
 by_cases hi:i<l.length
 ·exact h _ (Mb hi)
 ·rw [List.getD_eq_getElem?_getD,List.getElem?_eq_none (by omega)];exact h0
def td{v:bp}(h:qB v):v.S.length≤64:=by
 rcases xr h.1 with h|h|h
 ·rw [h];simp
 ·rw [h.2];simp
 ·exact acq h.2.2
def Be:ez bn:=fU (λp=>⟨p.1,p.2⟩) (dM (f7 24) λ_=>mO)
def li(p:bn):atW:=gb p.Key++bU p.bA
def rV(p:bn):Prop:=p.Key.length≤24∧qB p.bA
def Uv:ek Be li rV:=
 (nU.dep λ_ _=>tb).map _ (λp=>(p.Key,p.bA)) rV li (λb h=>⟨rfl,⟨h.1,h.2⟩,rfl⟩) (λa h=>⟨rfl,⟨h.1,h.2⟩⟩)
def Bf:ez (List bn):=mL mb 5 (jw 2147483647 Be)
def ao8:ek (jw 2147483647 Be) (d9 li) (λl=>l.length≤2147483647∧∀v∈l,rV v):=Uv.uM _ (by omega) (λv _=>by unfold li gb;simp [qA])
def Md:ek Bf (d9 li) (λl=>(l.length≤2147483647∧∀v∈l,rV v)∧mb l=true):=ao8.chk _ _ (by omega)
def acP{p:bn}(h:rV p):uP p:=⟨by have:=h.1;omega,by have:=td h.2;omega⟩
def Uw{l:List bn}(h:∀p∈l,rV p)(i:Nat):uP (l.getD i default):=rU (P:=uP) (λx hx=>acP (h x hx)) ⟨by show([]:atW).length≤1000;simp,by show([]:atW).length≤1000;simp⟩ i
section
variable {n:Nat} (hn:2000≤n) (aR:n≤1000000000) {s:atW} (hs:s.length<n)
include hn aR hs
theorem ao9{t:atW}(aF:t <:+ s):ID n s (bo s t)=some (res [] s (Bf t)):=by
 unfold ID Bf mL jw;rw [show(2147483647:Int)=((2147483647:Nat):Int)from rfl,uN aF (by omega) (by omega) (by omega),al]
 cases h:jc 2147483647 t with
 |error e=>rw [rM h,fF];simp only [gH (oG h),atH,fF]
 |ok r=>
  obtain⟨u,bS⟩:=r;obtain⟨Z,aa,aj⟩:=pr h;have eK:bS <:+ s:=List.IsSuffix.trans ⟨e' u,Z.symm⟩ aF;have hu:=eK.length_le;rw [rL h,g_];simp only [atF,atJ,atI];rw [show wo n s ((u:Int),bo s bS,0) n (bo s bS) 0 []=_ from acx (L:=λm i t acc=>wo n s ((u:Int),bo s bS,0) m (bo s t) (i:Int) acc) (D:=Be) (u:=u) (s:=s) (fin:=λacc t=>IB n (bo s t) acc) (bad:=λe=>some ([],0,e)) (λx v t hx=>Uv.lP hx) ?_ ?_ (by omega) eK]
  ·cases ai:hy Be u bS with
   |error e=>rfl
   |ok r=>
    obtain⟨l,ng⟩:=r;obtain⟨g1,g2,g3⟩:=(Uv.rep u).gx _ _ _ ai;simp only [IB];rw [acz hn aR (by omega) (Uw g3),al]
    cases mb l<;>rfl
  ·intro m i t acc hi ha aF;simp only [wo,IC,atO,hi,atF,atH];rw [show(24:Int)=((24:Nat):Int)from rfl,FG aF (by omega) (by omega) (by omega),al]
   unfold Be fU dM;cases aC:f7 24 t with
   |error e=>rw [fF];simp only [gH (nU.c8 _ _ aC),atH]
   |ok r=>
    obtain⟨k,t1⟩:=r;rw [g_];simp only [atF,atJ,atI];rw [Un (jd nU aC aF) (by omega) (by omega),al]
    cases aT:mO t1 with
    |error e=>rw [fF];simp only [gH (tb.c8 _ _ aT),atH]
    |ok r=>
     obtain⟨v,t2⟩:=r;rw [g_];simp only [atF,atJ,atI,atQ];rw [lg (by omega),aL,bv (by omega)]
  ·intro m t acc ha aF;simp only [wo,IC,atS,atG,atI]
end
def uS{α β R:Type}{D:ez α}{s:atW}{u:Nat}{f:Nat→α→β}{L:Nat→Nat→atW→List β→Option R}{fin:List β→atW→Option R}{bad:Int→Option R→Prop}
 (lP:∀x v t,D x = .ok (v,t)→t <:+ x)
 (step:∀m i t acc,u<i+1+m→i<u→acc.length=i→t <:+ s→match D t with|.ok (v,bS)=>L (m+1) i t acc=L m (i+1) bS (acc++[f i v])|.error e=>bad e (L (m+1) i t acc))
 (stop:∀m t acc,acc.length=u→t <:+ s→L (m+1) u t acc=fin acc t):
 ∀k m i t acc,i+k=u→k<m→acc.length=i→t <:+ s→match hy D k t with|.ok (l,bS)=>L m i t acc=fin (acc++(l.zipIdx i).map λp=>f p.2 p.1) bS|.error e=>bad e (L m i t acc):=by
 intro k;induction k with
 |zero=>
  intro m i t acc hi hm ha aF;obtain⟨m,rfl⟩:∃j,m=j+1:=⟨m-1,by omega⟩
  obtain rfl:i=u:=by omega
  rw [stop m t acc ha aF];simp [hy]
 |succ k aH=>
  intro m i t acc hi hm ha aF;obtain⟨m,rfl⟩:∃j,m=j+1:=⟨m-1,by omega⟩
  have dx:=step m i t acc (by omega) (by omega) ha aF
  unfold hy;cases h:D t with
  |error e=>rw [h]at dx;exact dx
  |ok r=>
   obtain⟨v,bS⟩:=r;rw [h]at dx;simp only at dx ⊢
   have:=aH m (i+1) bS (acc++[f i v]) (by omega) (by omega) (by simp [ha]) ((lP _ _ _ h).trans aF)
   cases aa:hy D k bS with
   |error e=>rw [aa]at this;simp only at this ⊢;rw [dx];exact this
   |ok r=>
    obtain⟨l,ng⟩:=r;rw [aa]at this;simp only at this ⊢
    rw [dx,this];simp
def uT{α:Type}(l:List α)(i:Nat):((l.zipIdx i).map λp=>p.1)=l:=List.zipIdx_map_fst i l
def lQ{α:Type}(e:Int)(x:Option (α×Int×Int)):Prop:=∃v a,x=some (v,a,e)
def Bg:ez Part:=fU (λp=>⟨p.1,p.2.1,p.2.2.1,p.2.2.2.1,p.2.2.2.2⟩) (dM iM λ_=>dM (f7 24) λ_=>dM iM λ_=>dM iM λ_=>f7 24)
def rW(x:Part):atW:=mK x.Id++(gb x.ec++(mK x.Node++(mK x.fC++gb x.gQ)))
def qF(x:Part):Prop:=e5 x.Id∧x.ec.length≤24∧e5 x.Node∧e5 x.fC∧x.gQ.length≤24
def Ux:ek Bg rW qF:=
 (kQ.dep λ_ _=>nU.dep λ_ _=>kQ.dep λ_ _=>kQ.dep λ_ _=>nU).map _ (λx=>(x.Id,x.ec,x.Node,x.fC,x.gQ)) qF rW
  (λb h=>⟨rfl,⟨h.1,h.2.1,h.2.2.1,h.2.2.2.1,h.2.2.2.2⟩,rfl⟩) (λa h=>⟨rfl,⟨h.1,h.2.1,h.2.2.1,h.2.2.2.1,h.2.2.2.2⟩⟩)
def uU:ez cb:=mL ni 5 (fU (λp=>⟨p.1,p.2⟩) (dM iM λ_=>jw 16 Bg))
def oI(p:cb):atW:=mK p.Version++d9 rW p.aE
def ao':ek (jw 16 Bg) (d9 rW) (λl=>l.length≤16∧∀v∈l,qF v):=Ux.uM _ (by omega) (λv _=>by unfold rW mK;simp [qA])
def Me:ek uU oI (λp=>(e5 p.Version∧p.aE.length≤16∧∀v∈p.aE,qF v)∧ni p=true):=
 ((kQ.dep λ_ _=>ao').map (λp=>(⟨p.1,p.2⟩:cb)) (λp:cb=>(p.Version,p.aE)) (λp=>e5 p.Version∧p.aE.length≤16∧∀v∈p.aE,qF v) oI (λb h=>⟨rfl,⟨h.1,h.2⟩,rfl⟩) (λa h=>⟨rfl,⟨h.1,h.2⟩⟩)).chk _ _ (by omega)
def ao_{p:Part}(h:qF p):rT p:=⟨by have:=h.2.1;omega,by have:=h.2.2.2.2;omega⟩
def acQ{l:List Part}(h:∀p∈l,qF p)(i:Nat):rT (l.getD i default):=rU (P:=rT) (λx hx=>ao_ (h x hx)) ⟨by show([]:atW).length≤1000;simp,by show([]:atW).length≤1000;simp⟩ i
section
variable {n:Nat} (hn:2000≤n) (aR:n≤1000000000) {s:atW} (hs:s.length<n)
theorem FL{a e:Int}(he:e≠0):sG n ⟨s,a,e⟩=some (0,a,e):=by
 unfold sG;simp only [gH he,atH]
theorem FM{a e:Int}(he:e≠0):wq n ⟨s,a,e⟩=some ([],a,e):=by
 unfold wq;simp only [gH he,atH]
include hn aR hs
theorem Mf{t:atW}(aF:t <:+ s):sG n ⟨s,bo s t,0⟩=some (res 0 s (iM t)):=by
 unfold sG;simp only [atF,atJ,atI];rw [Um aF (by omega) (by omega),al]
theorem acR{t:atW}(aF:t <:+ s):wq n ⟨s,bo s t,0⟩=some (res [] s (f7 24 t)):=by
 unfold wq;simp only [atF,atJ,atI];rw [show(24:Int)=((24:Nat):Int)from rfl,FG aF (by omega) (by omega) (by omega),al]
theorem Bh{u:Nat}(hu:u<n){r1:Int×Int×Int}{b:Int}{c:Int}:∀(k m i:Nat) (a e:Int) (acc:List Part),e≠0→i+k=u→k<m→acc.length=i→sH n ((u:Int),b,c) s r1 m a e acc (i:Int)=some (⟨0,[]⟩,0,e):=by
 intro k;induction k with
 |zero=>
  intro m i a e acc he hi hm ha;obtain⟨m,rfl⟩:∃j,m=j+1:=⟨m-1,by omega⟩
  obtain rfl:i=u:=by omega
  simp only [sH,y_,atS,atG,atI,Dm,IE,he,al,atK,atH]
 |succ k aH=>
  intro m i a e acc he hi hm ha;obtain⟨m,rfl⟩:∃j,m=j+1:=⟨m-1,by omega⟩
  simp only [sH,y_,atO,show i<u by omega,atF,atH,FL he,FM he,al,atQ]
  rw [lg (by omega),aL,bv (by omega)]
  exact aH m (i+1) a e _ he (by omega) (by omega) (by simp [ha])
theorem apa{t:atW}(aF:t <:+ s):IF n s (bo s t)=some (res ⟨0,[]⟩ s (uU t)):=by
 unfold IF uU mL fU dM jw;rw [Mf hn aR hs aF,al];cases h0:iM t with
 |error e=>rw [fF];simp only [gH (kQ.c8 _ _ h0),atH,fF]
 |ok r=>
  obtain⟨v,t0⟩:=r;have acS:=jd kQ h0 aF;rw [g_];simp only [atF,atJ,atI];rw [show(16:Int)=((16:Nat):Int)from rfl,uN acS (by omega) (by omega) (by omega),al]
  cases h:jc 16 t0 with
  |error e=>
   rw [rM h,fF];exact Bh hn aR hs (u:=0) (by omega) 0 n 0 0 e [] (oG h) rfl (by omega) rfl
  |ok r=>
   obtain⟨u,bS⟩:=r;obtain⟨Z,aa,aj⟩:=pr h;have eK:bS <:+ s:=List.IsSuffix.trans ⟨e' u,Z.symm⟩ acS;have hu:=eK.length_le;rw [rL h,g_]
   have cZ:=uS (L:=λm i t acc=>sH n ((u:Int),bo s bS,0) s (v,bo s t0,0) m (bo s t) 0 acc (i:Int)) (f:=λ_ v=>v) (D:=Bg) (u:=u) (s:=s) (fin:=λacc t=>Dm n s (v,bo s t0,0) (bo s t) 0 acc) (bad:=λe x=>x=some (⟨0,[]⟩,0,e)) (λx v t hx=>Ux.lP hx) (by
    intro m i t acc hm hi ha aF;simp only [sH,y_,atO,hi,atF,atH];rw [Mf hn aR hs aF,al];unfold Bg fU dM;have gm:room (acc.length+1) 56=true:=lg (by omega)
    cases g1:iM t with
    |error e=>
     have he:=kQ.c8 _ _ g1;rw [fF];simp only [FL he,FM he,al,atQ,gm,aL];rw [bv (by omega)]
     exact Bh hn aR hs (by omega) (u-(i+1)) m (i+1) _ e _ he (by omega) (by omega) (by simp [ha])
    |ok r=>
     obtain⟨dz,t1⟩:=r;have kq:=jd kQ g1 aF;rw [g_];simp only
     rw [acR hn aR hs kq,al];cases g2:f7 24 t1 with
     |error e=>
      have he:=nU.c8 _ _ g2;rw [fF];simp only [FL he,FM he,al,atQ,gm,aL];rw [bv (by omega)]
      exact Bh hn aR hs (by omega) (u-(i+1)) m (i+1) _ e _ he (by omega) (by omega) (by simp [ha])
     |ok r=>
      obtain⟨ew,t2⟩:=r;have jN:=jd nU g2 kq;rw [g_];simp only
      rw [Mf hn aR hs jN,al];cases g3:iM t2 with
      |error e=>
       have he:=kQ.c8 _ _ g3;rw [fF];simp only [FL he,FM he,al,atQ,gm,aL];rw [bv (by omega)]
       exact Bh hn aR hs (by omega) (u-(i+1)) m (i+1) _ e _ he (by omega) (by omega) (by simp [ha])
      |ok r=>
       obtain⟨i',t3⟩:=r;have FN:=jd kQ g3 jN;rw [g_];simp only
       rw [Mf hn aR hs FN,al];cases g4:iM t3 with
       |error e=>
        have he:=kQ.c8 _ _ g4;rw [fF];simp only [FL he,FM he,al,atQ,gm,aL];rw [bv (by omega)]
        exact Bh hn aR hs (by omega) (u-(i+1)) m (i+1) _ e _ he (by omega) (by omega) (by simp [ha])
       |ok r=>
        obtain⟨fp,t4⟩:=r;have Mg:=jd kQ g4 FN;rw [g_];simp only
        rw [acR hn aR hs Mg,al];cases g5:f7 24 t4 with
        |error e=>
         have he:=nU.c8 _ _ g5;rw [fF];simp only [atQ,gm,aL];rw [bv (by omega)]
         exact Bh hn aR hs (by omega) (u-(i+1)) m (i+1) _ e _ he (by omega) (by omega) (by simp [ha])
        |ok r=>
         obtain⟨kI,t5⟩:=r;rw [g_];simp only [atQ,gm,aL];rw [bv (by omega)]) (by
    intro m t acc ha aF;simp only [sH,y_,atS,atG,atI]) u n 0 bS [] (by omega) (by omega) rfl eK
   cases ai:hy Bg u bS with
   |error e=>rw [ai]at cZ;simp only [ai]at cZ ⊢;exact cZ
   |ok r=>
    obtain⟨l,ng⟩:=r;rw [ai]at cZ;simp only [List.nil_append,uT,ai]at cZ ⊢;refine cZ.trans ?_;obtain⟨g1,g2,g3⟩:=(Ux.rep u).gx _ _ _ ai;simp only [Dm,atF,atH];rw [acG hn aR (p:=⟨v,l⟩) (by show l.length<n;omega) (acQ g3),al]
    cases ni ⟨v,l⟩<;>rfl
end
def xx:ez Outcome:=fU (λp=>⟨p.1,p.2.1,p.2.2⟩) (dM (nT 0 9999) λ_=>dM (nT 0 9999) λ_=>jw 16 mO)
def rX(o:Outcome):atW:=jv o.Status++(jv o.Code++d9 bU o.Out)
def pw(o:Outcome):Prop:=(0≤o.Status∧o.Status≤9999)∧(0≤o.Code∧o.Code≤9999)∧o.Out.length≤16∧∀v∈o.Out,qB v
def n99:ek (nT 0 9999) jv (λz=>0≤z∧z≤9999):=Uk (by omega) (by omega)
def Uy:ek (nT 1 32) jv (λz=>1≤z∧z≤32):=Uk (by omega) (by omega)
def Mh:ek (nT 1 1099511627776) jv (λz=>1≤z∧z≤1099511627776):=Uk (by omega) (by omega)
def acT(k:Nat)(hk:k<18446744073709551616):ek (jw k mO) (d9 bU) (λl=>l.length≤k∧∀v∈l,qB v):=tb.uM _ hk (λv _=>aop v)
def Uz:ek xx rX pw:=
 (n99.dep λ_ _=>n99.dep λ_ _=>acT 16 (by omega)).map (λp=>(⟨p.1,p.2.1,p.2.2⟩:Outcome)) (λo:Outcome=>(o.Status,o.Code,o.Out)) pw rX
  (λb h=>⟨rfl,⟨h.1,h.2.1,h.2.2⟩,rfl⟩) (λa h=>⟨rfl,⟨h.1,h.2.1,h.2.2⟩⟩)
def uV(c eP k:Int)(l:List Outcome):List eS:=(l.zipIdx 0).map λp=>⟨c,atY (eP-atY (k-(p.2:Int))),p.1⟩
def Mi(c eP k:Int)(l:List Outcome):(uV c eP k l).map (·.Outcome)=l:=by
 unfold uV;rw [List.map_map];exact uT l 0
def FO{eP:Int}(h:1≤eP∧eP≤1099511627776):0≤kp eP∧kp eP≤8∧kp eP≤eP-1:=by
 unfold kp;rw [wr (x:=eP-1) (by omega) (by omega)]
 by_cases di:eP-1<8
 ·rw [decide_eq_true di,atH];omega
 ·rw [decide_eq_false di,atI];omega
def uW:ez bM:=fU (λp=>⟨p.1,p.2.1,uV p.1 p.2.1 (kp p.2.1) p.2.2⟩) (dM (nT 1 32) λ_=>dM (nT 1 1099511627776) λeP=>hy xx (kp eP).toNat)
def lj(s:bM):atW:=jv s.Client++(jv s.Next++iL rX (s.bK.map (·.Outcome)))
def qG(s:bM):Prop:=(1≤s.Client∧s.Client≤32)∧(1≤s.Next∧s.Next≤1099511627776)∧s.bK=uV s.Client s.Next (kp s.Next) (s.bK.map (·.Outcome))∧(s.bK.map (·.Outcome)).length=(kp s.Next).toNat∧∀o∈s.bK.map (·.Outcome),pw o
def Mj:ek uW lj qG:=
 (Uy.dep λ_ _=>Mh.dep λeP _=>Uz.rep (kp eP).toNat).map (λp=>(⟨p.1,p.2.1,uV p.1 p.2.1 (kp p.2.1) p.2.2⟩:bM)) (λs:bM=>(s.Client,s.Next,s.bK.map (·.Outcome))) qG lj
  (λb h=>⟨by simp only;rw [←h.2.2.1],⟨h.1,h.2.1,h.2.2.2.1,h.2.2.2.2⟩,rfl⟩) (λa h=>⟨by simp only [Mi],⟨h.1,h.2.1,by simp only [Mi],by simp only [Mi];exact h.2.2.1,by simp only [Mi];exact h.2.2.2⟩⟩)
def uX:ez (List bM):=mL nV 5 (jw 32 uW)
def apb:ek (jw 32 uW) (d9 lj) (λl=>l.length≤32∧∀v∈l,qG v):=Mj.uM _ (by omega) (λv _=>by unfold lj jv;simp [qA])
def Mk:ek uX (d9 lj) (λl=>(l.length≤32∧∀v∈l,qG v)∧nV l=true):=apb.chk _ _ (by omega)
def acU{n:Nat}(hn:2000≤n){o:Outcome}(h:pw o):xu n o:=
 ⟨by have:=h.2.2.1;omega,λi=>rU (P:=λv:bp=>v.S.length≤1000) (λx hx=>by have:=td (h.2.2.2 x hx);omega) (by show([]:atW).length≤1000;simp) i⟩
def apc{n:Nat}(hn:2000≤n){s:bM}(h:qG s):qE n s:=by
 have hk:=FO h.2.1;have ab:s.bK.length=(kp s.Next).toNat:=by have:=h.2.2.2.1;simpa using this
 refine⟨by omega,λi=>rU (P:=λr:eS=>xu n r.Outcome) (λx hx=>acU hn (h.2.2.2.2 _ (List.mem_map_of_mem hx))) ?_ i⟩
 refine acU hn ?_;refine⟨by show(0:Int)≤0∧(0:Int)≤9999;omega,by show(0:Int)≤0∧(0:Int)≤9999;omega,by show([]:List bp).length≤16;simp,λv aw=>by cases aw⟩
def Ml{n:Nat}(hn:2000≤n){l:List bM}(h:∀s∈l,qG s)(i:Nat):qE n (l.getD i default):=by
 refine rU (P:=qE n) (λx hx=>apc hn (h x hx)) ⟨by show([]:List eS).length<n;simp;omega,λi=>⟨?_,λi=>?_⟩⟩ i
 ·show((([]:List eS).getD i default).Outcome).Out.length<n
  show([]:List bp).length<n
  simp;omega
 ·show((((([]:List eS).getD _ default).Outcome).Out).getD i default).S.length≤1000
  show([]:atW).length≤1000
  simp
section
variable {n:Nat} (hn:2000≤n) (aR:n≤1000000000) {s:atW} (hs:s.length<n)
theorem acV{lo hi a e:Int}(he:e≠0):sL n lo hi ⟨s,a,e⟩=some (0,a,e):=by
 unfold sL;simp only [gH he,atH]
include hn aR hs
theorem Mm{lo hi:Int}(h0:0≤lo)(Z:hi≤9223372036854775807){t:atW}(aF:t <:+ s):sL n lo hi ⟨s,bo s t,0⟩=some (match nT lo hi t with|.ok (v,bS)=>(v,bo s bS,0)|.error e=>(0,bo s t,e)):=by
 unfold sL nT mL;simp only [atF,atJ,atI];rw [Ba aF (by omega) (by omega),al]
 cases h:ie t with
 |error e=>
  have he:¬ e=0:=mN.c8 _ _ h;rw [fF];simp only [he,atG,atI,zh,atK,atH]
 |ok r=>
  obtain⟨u,bS⟩:=r;have hu:=(mN.gx _ _ _ h).2;unfold hS at hu;rw [g_];simp only [atF,atH];by_cases hb:lo≤u∧u≤hi
  ·simp only [show¬ u<lo by omega,show¬ hi<u by omega,hb.1,hb.2,atF,atG,atI,Bool.and_self,atU,zh,atJ,wr (x:=u) (by omega) (by omega)]
  ·have:(bif (decide (u<lo))then true else(decide (hi<u)))=true:=by
    rw [dt,←Bool.decide_or];exact decide_eq_true (by omega)
   have aa:(decide (lo≤u)&&decide (u≤hi))=false:=by
    rw [←Bool.decide_and];exact decide_eq_false hb
   simp only [this,atH,aa,Bool.false_eq_true,atV,zh,show¬ (5:Int)=0 by omega,atG,atK]
theorem apd{t:atW}(aF:t <:+ s):match xx t with|.ok (o,bS)=>Do n ⟨s,bo s t,0⟩=some (o,bo s bS,0)|.error e=>lQ e (Do n ⟨s,bo s t,0⟩):=by
 unfold Do xx fU dM;rw [Mm hn aR hs (by omega) (by omega) aF,al]
 cases g1:nT 0 9999 t with
 |error e=>
  have he:=n99.c8 _ _ g1;simp only [acV he,al];rw [show(!decide (e=0))=true from gH he]
  exact⟨_,_,rfl⟩
 |ok r=>
  obtain⟨dz,t1⟩:=r;have kq:=jd n99 g1 aF;simp only
  rw [Mm hn aR hs (by omega) (by omega) kq,al]
  cases g2:nT 0 9999 t1 with
  |error e=>
   have he:=n99.c8 _ _ g2;simp only
   rw [show(!decide (e=0))=true from gH he]
   exact⟨_,_,rfl⟩
  |ok r=>
   obtain⟨ew,t2⟩:=r;have jN:=jd n99 g2 kq;simp only [atF,atJ,atI];rw [show(16:Int)=((16:Nat):Int)from rfl,uN jN (by omega) (by omega) (by omega),al]
   unfold jw;obtain⟨rY,rfl⟩:∃k,n=k+1:=⟨n-1,by omega⟩
   cases h:jc 16 t2 with
   |error e=>
    have he:=oG h;rw [rM h,fF];simp only [uc,zi,atS,atG,atI,Dn];exact⟨_,_,rfl⟩
   |ok r=>
    obtain⟨u,bS⟩:=r;obtain⟨Z,aa,aj⟩:=pr h;have eK:bS <:+ s:=List.IsSuffix.trans ⟨e' u,Z.symm⟩ jN;have hu:=eK.length_le;rw [rL h,g_];generalize bo s t=A
    have cZ:=uS (L:=λm i t acc=>uc (rY+1) ((u:Int),bo s bS,0) ⟨s,A,0⟩ (dz,bo s t1,0) (ew,bo s t2,0) m (bo s t) 0 acc (i:Int)) (f:=λ_ v=>v) (D:=mO) (u:=u) (s:=s) (fin:=λacc t=>some (⟨dz,ew,acc⟩,bo s t,0)) (bad:=λe x=>lQ e x) (λx v t hx=>tb.lP hx) (by
     intro m i t acc hm hi ha aF;simp only [uc,zi,atO,hi,atF,atH];rw [Un aF (by omega) (by omega),al]
     have gm:room (acc.length+1) 32=true:=lg (by omega)
     cases g3:mO t with
     |error e=>
      have he:¬ e=0:=tb.c8 _ _ g3;rw [fF];simp only [atQ,gm,aL];obtain⟨m,rfl⟩:∃j,m=j+1:=⟨m-1,by omega⟩
      simp only [uc,zi,he,atG,ef,Bool.and_false,atI,Dn];exact⟨_,_,rfl⟩
     |ok r=>
      obtain⟨v,t3⟩:=r;rw [g_];simp only [atQ,gm,aL];rw [bv (by omega)]) (by
     intro m t acc ha aF;simp only [uc,zi,atS,atG,atI,Dn]) u (rY+1) 0 bS [] (by omega) (by omega) rfl eK
    cases ai:hy mO u bS with
    |error e=>rw [ai]at cZ;simp only [ai]at cZ ⊢;exact cZ
    |ok r=>
     obtain⟨l,ng⟩:=r;rw [ai]at cZ;simp only [List.nil_append,uT,ai]at cZ ⊢;exact cZ
theorem ape{t:atW}(aF:t <:+ s):match uW t with|.ok (o,bS)=>Dq n ⟨s,bo s t,0⟩=some (o,bo s bS,0)|.error e=>lQ e (Dq n ⟨s,bo s t,0⟩):=by
 unfold Dq uW fU dM;rw [Mm hn aR hs (by omega) (by omega) aF,al]
 cases g1:nT 1 32 t with
 |error e=>
  have he:=Uy.c8 _ _ g1;simp only [acV he,al];rw [show(!decide (e=0))=true from gH he]
  exact⟨_,_,rfl⟩
 |ok r=>
  obtain⟨dz,t1⟩:=r;have kq:=jd Uy g1 aF;simp only
  rw [Mm hn aR hs (by omega) (by omega) kq,al]
  cases g2:nT 1 1099511627776 t1 with
  |error e=>
   have he:=Mh.c8 _ _ g2;simp only
   rw [show(!decide (e=0))=true from gH he]
   exact⟨_,_,rfl⟩
  |ok r=>
   obtain⟨ew,t2⟩:=r;have jN:=jd Mh g2 kq;have qR:=(Mh.gx _ _ _ g2).2;have hk:=FO qR;simp only [atF,atJ,atI];rw [show C7 n ew=some (kp ew)from rfl,al]
   obtain⟨u,hu⟩:=Int.eq_ofNat_of_zero_le hk.1
   (rw [hu];simp only [atN])
   generalize bo s t=A
   have cZ:=uS (L:=λm i t acc=>wy n (u:Int) ⟨s,A,0⟩ (dz,bo s t1,0) (ew,bo s t2,0) m (bo s t) 0 acc (i:Int)) (f:=λi v=>(⟨dz,atY (ew-atY ((u:Int)-(i:Int))),v⟩:eS)) (D:=xx) (u:=u) (s:=s) (fin:=λacc t=>some (⟨dz,ew,acc⟩,bo s t,0)) (bad:=λe x=>lQ e x) (λx v t hx=>Uz.lP hx) (by
    intro m i t acc hm hi ha aF;have av:=apd hn aR hs aF;simp only [wy,Dp,atO,hi,atF,atH];have gm:room (acc.length+1) 56=true:=lg (by omega)
    cases g3:xx t with
    |error e=>
     have he:¬ e=0:=Uz.c8 _ _ g3;rw [g3]at av;obtain⟨v,a,av⟩:=av;rw [av,al];simp only [atQ,gm,aL];obtain⟨m,rfl⟩:∃j,m=j+1:=⟨m-1,by omega⟩
     simp only [wy,Dp,he,atG,ef,Bool.and_false,atI,IL];exact⟨_,_,rfl⟩
    |ok r=>
     obtain⟨v,t3⟩:=r;rw [g3]at av;simp only at av ⊢
     rw [av,al];simp only [atQ,gm,aL];rw [bv (by omega)]) (by
    intro m t acc ha aF;simp only [wy,Dp,atS,atG,atI,IL]) u n 0 t2 [] (by omega) (by omega) rfl jN
   cases ai:hy xx u t2 with
   |error e=>rw [ai]at cZ;simp only [ai]at cZ ⊢;exact cZ
   |ok r=>
    obtain⟨l,ng⟩:=r;rw [ai]at cZ;simp only [List.nil_append,ai]at cZ ⊢;simp only [uV,hu];exact cZ
theorem apf{t:atW}(aF:t <:+ s):IM n s (bo s t)=some (res [] s (uX t)):=by
 unfold IM uX mL jw;rw [show(32:Int)=((32:Nat):Int)from rfl,uN aF (by omega) (by omega) (by omega),al]
 cases h:jc 32 t with
 |error e=>rw [rM h,fF];simp only [gH (oG h),atH,fF]
 |ok r=>
  obtain⟨u,bS⟩:=r;obtain⟨Z,aa,aj⟩:=pr h;have eK:bS <:+ s:=List.IsSuffix.trans ⟨e' u,Z.symm⟩ aF;have hu:=eK.length_le;rw [rL h,g_];simp only [atF,atJ,atI]
  have cZ:=uS (L:=λm i t acc=>wz n ((u:Int),bo s bS,0) s m (bo s t) 0 acc (i:Int)) (f:=λ_ v=>v) (D:=uW) (u:=u) (s:=s) (fin:=λacc t=>Dr n s (bo s t) 0 acc) (bad:=λe x=>x=some ([],0,e)) (λx v t hx=>Mj.lP hx) (by
   intro m i t acc hm hi ha aF;have av:=ape hn aR hs aF;simp only [wz,Ds,atO,hi,atF,atH];have gm:room (acc.length+1) 40=true:=lg (by omega)
   cases g3:uW t with
   |error e=>
    have he:¬ e=0:=Mj.c8 _ _ g3;rw [g3]at av;obtain⟨v,a,av⟩:=av;rw [av,al];simp only [atQ,gm,aL];obtain⟨m,rfl⟩:∃j,m=j+1:=⟨m-1,by omega⟩
    simp only [wz,Ds,he,atG,ef,Bool.and_false,atI,Dr,atK,atH]
   |ok r=>
    obtain⟨v,t3⟩:=r;rw [g3]at av;simp only at av ⊢
    rw [av,al];simp only [atQ,gm,aL];rw [bv (by omega)]) (by
   intro m t acc ha aF;simp only [wz,Ds,atS,atG,atI]) u n 0 bS [] (by omega) (by omega) rfl eK
  cases ai:hy uW u bS with
  |error e=>rw [ai]at cZ;simp only [ai]at cZ ⊢;exact cZ
  |ok r=>
   obtain⟨l,ng⟩:=r;rw [ai]at cZ;simp only [List.nil_append,uT,ai]at cZ ⊢;refine cZ.trans ?_;obtain⟨g1,g2,g3⟩:=(Mj.rep u).gx _ _ _ ai;simp only [Dr,atF,atJ,atI];rw [Ma hn aR (by omega) (Ml hn g3),al]
   cases nV l<;>rfl
end
abbrev jZ:=List atW
def xy:ez jZ:=jw 64 (f7 24)
def acW(s:atW):gb s≠[]:=by unfold gb;simp [qA]
def xz:ek xy (d9 gb) (λl=>l.length≤64∧∀v∈l,v.length≤24):=nU.uM _ (by omega) (λv _=>acW v)
def UA(b:Bool):ez (jZ×jZ):=if b then dM xy λ_=>xy else Uj ([],[])
def rZ(b:Bool)(p:jZ×jZ):atW:=if b then d9 gb p.1++d9 gb p.2 else[]
def FP(b:Bool)(p:jZ×jZ):Prop:=if b then(p.1.length≤64∧∀v∈p.1,v.length≤24)∧(p.2.length≤64∧∀v∈p.2,v.length≤24)else p=([],[])
def apg:∀b,ek (UA b) (rZ b) (FP b)
 |true=>xz.dep λ_ _=>xz
 |false=>acp ([],[])
abbrev acX:=Int×Int×atW×List bp×Bool×(jZ×jZ)
def UB:ez acX:=dM ie λ_=>dM ie λ_=>dM (f7 16) λ_=>dM (jw 6 mO) λ_=>dM rK λb=>UA b
def nW(p:acX):Request:=⟨p.1,p.2.1,p.2.2.1,p.2.2.2.1,p.2.2.2.2.1,⟨false,p.2.2.2.2.2.1,p.2.2.2.2.2.2⟩⟩
def nX(r:Request):Prop:=hS r.Client∧hS r.Seq∧r.bc.length≤16∧(r.ar.length≤6∧∀v∈r.ar,qB v)∧FP r.eN (r.br.Reads,r.br.cA)∧r.br.ee=false
def jF(r:Request):atW:=jv r.Client++(jv r.Seq++(gb r.bc++(d9 bU r.ar++(xq r.eN++rZ r.eN (r.br.Reads,r.br.cA)))))
def Mn:ek (f7 16) gb (λs=>s.length≤16):=A9 16 (by omega)
def aph:ek (fU nW UB) jF nX:=
 (mN.dep λ_ _=>mN.dep λ_ _=>Mn.dep λ_ _=>(acT 6 (by omega)).dep λ_ _=>Ui.dep λb _=>apg b).map nW (λr=>(r.Client,r.Seq,r.bc,r.ar,r.eN,(r.br.Reads,r.br.cA))) nX jF
  (λr h=>⟨by obtain⟨a,b,c,d,e,f,g,i⟩:=r;have:f=false:=h.2.2.2.2.2;subst this;rfl,⟨h.1,h.2.1,h.2.2.1,h.2.2.2.1,trivial,h.2.2.2.2.1⟩,rfl⟩) (λa h=>⟨rfl,⟨h.1,h.2.1,h.2.2.1,h.2.2.2.1,h.2.2.2.2.2,rfl⟩⟩)
def te(r:Request):Bool:=(decide (r.Client≤32)&&decide (r.Seq≤1099511627776))&&decide (pt r=0)
def xA:ez Request:=mL te 5 (fU nW UB)
def UC:ek xA jF (λr=>nX r∧te r=true):=aph.chk _ _ (by omega)
def px:ez (List Request):=jw 64 xA
def Mo:ek px (d9 jF) (λl=>l.length≤64∧∀v∈l,nX v∧te v=true):=UC.uM _ (by omega) (λv _=>by unfold jF jv;simp [qA])
def xB:ez (List bi):=jw 32 (fU (λp=>⟨p.1,p.2⟩) (dM (f7 24) λ_=>iM))
def nY(h:bi):atW:=gb h.Key++mK h.Count
def UD:ek (fU (λp=>(⟨p.1,p.2⟩:bi)) (dM (f7 24) λ_=>iM)) nY (λh=>h.Key.length≤24∧e5 h.Count):=
 (nU.dep λ_ _=>kQ).map (λp=>(⟨p.1,p.2⟩:bi)) (λh:bi=>(h.Key,h.Count)) _ nY (λb h=>⟨rfl,⟨h.1,h.2⟩,rfl⟩) (λa h=>⟨rfl,⟨h.1,h.2⟩⟩)
def api:ek xB (d9 nY) (λl=>l.length≤32∧∀h∈l,h.Key.length≤24∧e5 h.Count):=UD.uM _ (by omega) (λv _=>by unfold nY gb;simp [qA])
def Mp:ek (f7 16384) gb (λs=>s.length≤16384):=A9 16384 (by omega)
def UE:ez jZ:=jw 16 (f7 16384)
def apj:ek UE (d9 gb) (λl=>l.length≤16∧∀s∈l,s.length≤16384):=Mp.uM _ (by omega) (λv _=>acW v)
def UF{n:Nat}(hn:2000≤n){r:Request}(h:nX r):rQ n r:=by
 have aT:=h.2.2.2.2.1
 have hk:(r.br.Reads.length≤64∧∀v∈r.br.Reads,v.length≤24)∧(r.br.cA.length≤64∧∀v∈r.br.cA,v.length≤24):=by
  unfold FP at aT;cases hd:r.eN
  ·rw [hd]at aT;simp only [Bool.false_eq_true,atV,Prod.mk.injEq]at aT;rw [aT.1,aT.2];simp
  ·rw [hd]at aT;exact aT
 have hd:∀l:jZ,(∀v∈l,v.length≤24)→∀i,(l.getD i default).length≤1000:=λl ab i=>rU (P:=λv:atW=>v.length≤1000) (λx hx=>by have:=ab x hx;omega) (by show([]:atW).length≤1000;simp) i
 exact⟨by have:=h.2.2.1;omega,by have:=h.2.2.2.1.1;omega,λi=>rU (P:=λv:bp=>v.S.length≤1000) (λx hx=>by have:=td (h.2.2.2.1.2 x hx);omega) (by show([]:atW).length≤1000;simp) i,by have:=hk.1.1;omega,by have:=hk.2.1;omega,hd _ hk.1.2,hd _ hk.2.2⟩
abbrev FQ:Request:=⟨0,0,[],[],false,⟨false,[],[]⟩⟩
section
variable {n:Nat} (hn:2000≤n) (aR:n≤1000000000) {s:atW} (hs:s.length<n)
theorem UG{a e:Int}(he:e≠0):ww n ⟨s,a,e⟩=some (0,a,e):=by unfold ww;simp only [gH he,atH]
theorem Mq{k a e:Int}(he:e≠0):wu n k ⟨s,a,e⟩=some (0,a,e):=by unfold wu;simp only [gH he,atH]
theorem apk{a e:Int}(he:e≠0):zb n ⟨s,a,e⟩=some (false,a,e):=by unfold zb;simp only [gH he,atH]
theorem Mr{k a e:Int}(he:e≠0):wv n k ⟨s,a,e⟩=some ([],a,e):=by unfold wv;simp only [gH he,atH]
theorem apl{a e:Int}(he:e≠0):zd n ⟨s,a,e⟩=some (⟨0,0,[]⟩,a,e):=by unfold zd;simp only [gH he,atH]
include hn aR hs
theorem acY{t:atW}(aF:t <:+ s):ww n ⟨s,bo s t,0⟩=some (res 0 s (ie t)):=by
 unfold ww p8;simp only [atF,atJ,atI];rw [Ba aF (by omega) (by omega),al,al]
theorem acZ{k:Nat}(hk:k≤1000){t:atW}(aF:t <:+ s):wu n (k:Int) ⟨s,bo s t,0⟩=some (res 0 s (qC k t)):=by
 unfold wu p8;simp only [atF,atJ,atI];rw [uN aF (by omega) (by omega) (by omega),al,al]
theorem apm{t:atW}(aF:t <:+ s):zb n ⟨s,bo s t,0⟩=some (res false s (rK t)):=by
 unfold zb p8;simp only [atF,atJ,atI];rw [aoH aF (by omega),al,al]
theorem ac0{k:Nat}(hk:k≤1000){t:atW}(aF:t <:+ s):wv n (k:Int) ⟨s,bo s t,0⟩=some (res [] s (f7 k t)):=by
 unfold wv p8;simp only [atF,atJ,atI];rw [FG aF (by omega) (by omega) (by omega),al,al]
theorem apn{t:atW}(aF:t <:+ s):zd n ⟨s,bo s t,0⟩=some (res ⟨0,0,[]⟩ s (mO t)):=by
 unfold zd p8;simp only [atF,atJ,atI];rw [Un aF (by omega) (by omega),al,al]
theorem UH{u:Nat}(hu:u<n){b c:Int}{B:hX}(cL:B.s=s):∀(k m i:Nat) (a e:Int) (acc:jZ),e≠0→i+k=u→k<m→acc.length=i→lQ e (sI n ((u:Int),b,c) B m a e acc (i:Int)):=by
 intro k;induction k with
 |zero=>
  intro m i a e acc he hi hm ha;obtain⟨m,rfl⟩:∃j,m=j+1:=⟨m-1,by omega⟩
  obtain rfl:i=u:=by omega
  simp only [sI,zc,atS,atG,atI,IH];exact⟨_,_,rfl⟩
 |succ k aH=>
  intro m i a e acc he hi hm ha;obtain⟨m,rfl⟩:∃j,m=j+1:=⟨m-1,by omega⟩
  simp only [sI,zc,atO,show i<u by omega,atF,atH,Mr he,al,atQ]
  rw [lg (by omega),aL,bv (by omega)]
  exact aH m (i+1) a e _ he (by omega) (by omega) (by simp [ha])
theorem ac1{t:atW}(aF:t <:+ s):match xy t with|.ok (l,bS)=>ub n ⟨s,bo s t,0⟩=some (l,bo s bS,0)|.error e=>lQ e (ub n ⟨s,bo s t,0⟩):=by
 unfold ub xy jw;rw [show(64:Int)=((64:Nat):Int)from rfl,acZ hn aR hs (by omega) aF,al]
 generalize bo s t=A
 cases h:jc 64 t with
 |error e=>
  rw [rM h,fF];exact UH hn aR hs (u:=0) (by omega) (B:=⟨s,A,0⟩) rfl 0 n 0 0 e [] (oG h) rfl (by omega) rfl
 |ok r=>
  obtain⟨u,bS⟩:=r;obtain⟨Z,aa,aj⟩:=pr h;have eK:bS <:+ s:=List.IsSuffix.trans ⟨e' u,Z.symm⟩ aF;have hu:=eK.length_le;rw [rL h,g_]
  have cZ:=uS (L:=λm i t acc=>sI n ((u:Int),bo s bS,0) ⟨s,A,0⟩ m (bo s t) 0 acc (i:Int)) (f:=λ_ v=>v) (D:=f7 24) (u:=u) (s:=s) (fin:=λacc t=>some (acc,bo s t,0)) (bad:=λe x=>lQ e x) (λx v t hx=>nU.lP hx) (by
   intro m i t acc hm hi ha aF;simp only [sI,zc,atO,hi,atF,atH];rw [show(24:Int)=((24:Nat):Int)from rfl,ac0 hn aR hs (by omega) aF,al]
   have gm:room (acc.length+1) 16=true:=lg (by omega)
   cases g3:f7 24 t with
   |error e=>
    have he:=nU.c8 _ _ g3;rw [fF];simp only [atQ,gm,aL];rw [bv (by omega)]
    exact UH hn aR hs (by omega) (B:=⟨s,A,0⟩) rfl (u-(i+1)) m (i+1) _ e _ he (by omega) (by omega) (by simp [ha])
   |ok r=>
    obtain⟨v,t3⟩:=r;rw [g_];simp only [atQ,gm,aL];rw [bv (by omega)]) (by
   intro m t acc ha aF;simp only [sI,zc,atS,atG,atI,IH]) u n 0 bS [] (by omega) (by omega) rfl eK
  cases ai:hy (f7 24) u bS with
  |error e=>rw [ai]at cZ;simp only [ai]at cZ ⊢;exact cZ
  |ok r=>
   obtain⟨l,ng⟩:=r;rw [ai]at cZ;simp only [List.nil_append,uT,ai]at cZ ⊢;exact cZ
theorem apo{a e:Int}(he:e≠0):lQ e (ub n ⟨s,a,e⟩):=by
 unfold ub;rw [Mq he,al];exact UH hn aR hs (u:=0) (by omega) (B:=⟨s,a,e⟩) rfl 0 n 0 a e [] he rfl (by omega) rfl
theorem apq{r1 r2:Int×Int×Int}{r3:atW×Int×Int}{a e:Int}{l:List bp}(he:e≠0):ze n r1 r2 s r3 a e l=some (FQ,0,e):=by
 unfold ze;rw [apk he,al];simp only [atI,sJ,gH he,atH]
theorem FR{u:Nat}(hu:u<n){b c:Int}{r1 r2:Int×Int×Int}{r3:atW×Int×Int}:∀(k m i:Nat) (a e:Int) (acc:List bp),e≠0→i+k=u→k<m→acc.length=i→sK n r1 r2 ((u:Int),b,c) s r3 m a e acc (i:Int)=some (FQ,0,e):=by
 intro k;induction k with
 |zero=>
  intro m i a e acc he hi hm ha;obtain⟨m,rfl⟩:∃j,m=j+1:=⟨m-1,by omega⟩
  obtain rfl:i=u:=by omega
  simp only [sK,zf,atS,atG,atI];exact apq hn aR hs he
 |succ k aH=>
  intro m i a e acc he hi hm ha;obtain⟨m,rfl⟩:∃j,m=j+1:=⟨m-1,by omega⟩
  simp only [sK,zf,atO,show i<u by omega,atF,atH,apl he,al,atQ]
  rw [lg (by omega),aL,bv (by omega)]
  exact aH m (i+1) a e _ he (by omega) (by omega) (by simp [ha])
theorem ac2{r1 r2:Int×Int×Int}{r3:atW×Int×Int}{l:List bp}{r24:Bool×Int×Int}{t:atW}{ks ws:jZ}(Z:hS r1.1)(aa:hS r2.1)(ao:rQ n (nW (r1.1,r2.1,r3.1,l,r24.1,(ks,ws)))):
 sJ n r1 r2 s r3 l r24 (bo s t) 0 ks ws=some (res FQ s (if te (nW (r1.1,r2.1,r3.1,l,r24.1,(ks,ws)))then .ok (nW (r1.1,r2.1,r3.1,l,r24.1,(ks,ws)),t)else .error 5)):=by
 unfold sJ te;unfold hS at Z aa;simp only [atF,atJ,atI];by_cases hb:r1.1≤32∧r2.1≤1099511627776
 ·simp only [show¬ 32<r1.1 by omega,show¬ 1099511627776<r2.1 by omega,atG,atI,wr (x:=r1.1) (by omega) (by omega),wr (x:=r2.1) (by omega) (by omega)]
  rw [show ot n ⟨r1.1,r2.1,r3.1,l,r24.1,⟨false,ks,ws⟩⟩=some (pt (nW (r1.1,r2.1,r3.1,l,r24.1,(ks,ws))))from L' hn aR ao,al]
  rw [show decide ((nW (r1.1,r2.1,r3.1,l,r24.1,(ks,ws))).Client≤32)=true from decide_eq_true hb.1,show decide ((nW (r1.1,r2.1,r3.1,l,r24.1,(ks,ws))).Seq≤1099511627776)=true from decide_eq_true hb.2]
  by_cases aw:pt (nW (r1.1,r2.1,r3.1,l,r24.1,(ks,ws)))=0
  ·simp only [aw,atF,atJ,atI,Bool.and_self,atU];rfl
  ·simp only [aw,atG,atK,atH,Bool.and_false,Bool.false_eq_true,atV];rfl
 ·have aj:(bif (decide (32<r1.1))then true else(decide (1099511627776<r2.1)))=true:=by
   rw [dt,←Bool.decide_or];exact decide_eq_true (by omega)
  have aC:(decide ((nW (r1.1,r2.1,r3.1,l,r24.1,(ks,ws))).Client≤32)&&decide ((nW (r1.1,r2.1,r3.1,l,r24.1,(ks,ws))).Seq≤1099511627776))=false:=by
   rw [←Bool.decide_and];exact decide_eq_false hb
  simp only [aj,aC,atH,Bool.false_and,Bool.false_eq_true,atV];rfl
theorem apr{t:atW}(aF:t <:+ s):II n s (bo s t)=some (res FQ s (xA t)):=by
 unfold II xA mL fU UB dM;rw [acY hn aR hs aF,al];cases g1:ie t with
 |error e=>
  have he:=mN.c8 _ _ g1;rw [fF];simp only [UG he,Mr he,Mq he,al];exact FR hn aR hs (u:=0) (by omega) 0 n 0 _ e [] he rfl (by omega) rfl
 |ok r=>
  obtain⟨dz,t1⟩:=r;have kq:=jd mN g1 aF;have BK:=(mN.gx _ _ _ g1).2;rw [g_];simp only
  rw [acY hn aR hs kq,al];cases g2:ie t1 with
  |error e=>
   have he:=mN.c8 _ _ g2;rw [fF];simp only [UG he,Mr he,Mq he,al];exact FR hn aR hs (u:=0) (by omega) 0 n 0 _ e [] he rfl (by omega) rfl
  |ok r=>
   obtain⟨ew,t2⟩:=r;have jN:=jd mN g2 kq;have qR:=(mN.gx _ _ _ g2).2;rw [g_];simp only
   rw [show(16:Int)=((16:Nat):Int)from rfl,ac0 hn aR hs (by omega) jN,al]
   cases g3:f7 16 t2 with
   |error e=>
    have he:=Mn.c8 _ _ g3;rw [fF];simp only [UG he,Mr he,Mq he,al];exact FR hn aR hs (u:=0) (by omega) 0 n 0 _ e [] he rfl (by omega) rfl
   |ok r=>
    obtain⟨i',t3⟩:=r;have FN:=jd Mn g3 jN;have ac3:=(Mn.gx _ _ _ g3).2;rw [g_];simp only
    rw [show(6:Int)=((6:Nat):Int)from rfl,acZ hn aR hs (by omega) FN,al]
    unfold jw;cases h:jc 6 t3 with
    |error e=>
     have he:=oG h;rw [rM h,fF];exact FR hn aR hs (u:=0) (by omega) 0 n 0 _ e [] he rfl (by omega) rfl
    |ok r=>
     obtain⟨u,bS⟩:=r;obtain⟨Z,aa,aj⟩:=pr h;have eK:bS <:+ s:=List.IsSuffix.trans ⟨e' u,Z.symm⟩ FN;have hu:=eK.length_le;rw [rL h,g_]
     have cZ:=uS (L:=λm i t acc=>sK n (dz,bo s t1,0) (ew,bo s t2,0) ((u:Int),bo s bS,0) s (i',bo s t3,0) m (bo s t) 0 acc (i:Int)) (f:=λ_ v=>v) (D:=mO) (u:=u) (s:=s) (fin:=λacc t=>ze n (dz,bo s t1,0) (ew,bo s t2,0) s (i',bo s t3,0) (bo s t) 0 acc) (bad:=λe x=>x=some (FQ,0,e)) (λx v t hx=>tb.lP hx) (by
      intro m i t acc hm hi ha aF;simp only [sK,zf,atO,hi,atF,atH];rw [apn hn aR hs aF,al];have gm:room (acc.length+1) 32=true:=lg (by omega)
      cases g3:mO t with
      |error e=>
       have he:=tb.c8 _ _ g3;rw [fF];simp only [atQ,gm,aL];rw [bv (by omega)]
       exact FR hn aR hs (by omega) (u-(i+1)) m (i+1) _ e _ he (by omega) (by omega) (by simp [ha])
      |ok r=>
       obtain⟨v,t3⟩:=r;rw [g_];simp only [atQ,gm,aL];rw [bv (by omega)]) (by
      intro m t acc ha aF;simp only [sK,zf,atS,atG,atI]) u n 0 bS [] (by omega) (by omega) rfl eK
     cases ai:hy mO u bS with
     |error e=>rw [ai]at cZ;simp only [ai]at cZ ⊢;exact cZ
     |ok r=>
      obtain⟨l,t4⟩:=r;obtain⟨aM,bu,ci⟩:=(tb.rep u).gx _ _ _ ai;have Mg:t4 <:+ s:=jd (tb.rep u) ai eK;rw [ai]at cZ;simp only [List.nil_append,uT,ai]at cZ ⊢;refine cZ.trans ?_;unfold ze;rw [apm hn aR hs Mg,al];cases g5:rK t4 with
      |error e=>
       have he:=Ui.c8 _ _ g5;rw [fF];simp only [atI,sJ,gH he,atH,fF]
      |ok r=>
       obtain⟨b,t5⟩:=r;have ac4:=jd Ui g5 Mg;rw [g_];cases b with
       |false=>
        simp only [atI];have ao:nX (nW (dz,ew,i',l,false,([],[]))):=⟨BK,qR,ac3,⟨by show l.length≤6;omega,ci⟩,rfl,rfl⟩
        exact ac2 hn aR hs (r1:=(dz,bo s t1,0)) (r2:=(ew,bo s t2,0)) (r3:=(i',bo s t3,0)) (l:=l) (r24:=(false,bo s t5,0)) (t:=t5) (ks:=[]) (ws:=[]) BK qR (UF hn ao)
       |true=>
        have hk:=ac1 hn aR hs ac4;simp only [atH,UA,atU,dM];cases g6:xy t5 with
        |error e=>
         have he:=xz.c8 _ _ g6;rw [g6]at hk;obtain⟨v,a,hk⟩:=hk;rw [hk,al];obtain⟨mX,d',sr⟩:=apo hn aR hs (a:=a) he;simp only [sr,al,sJ,gH he,atH,fF]
        |ok r=>
         obtain⟨ks,t6⟩:=r;have aps:=jd xz g6 ac4;have apt:=(xz.gx _ _ _ g6).2;rw [g6]at hk;simp only at hk ⊢
         rw [hk,al];have hk:=ac1 hn aR hs aps;simp only
         cases g7:xy t6 with
         |error e=>
          have he:=xz.c8 _ _ g7;rw [g7]at hk;obtain⟨v,a,hk⟩:=hk;rw [hk,al];simp only [sJ,gH he,atH,fF]
         |ok r=>
          obtain⟨ws,t7⟩:=r;have apu:=(xz.gx _ _ _ g7).2;rw [g7]at hk;simp only at hk ⊢
          rw [hk,al];simp only
          have ao:nX (nW (dz,ew,i',l,true,(ks,ws))):=⟨BK,qR,ac3,⟨by show l.length≤6;omega,ci⟩,⟨apt,apu⟩,rfl⟩
          exact ac2 hn aR hs (r1:=(dz,bo s t1,0)) (r2:=(ew,bo s t2,0)) (r3:=(i',bo s t3,0)) (l:=l) (r24:=(true,bo s t5,0)) (t:=t7) (ks:=ks) (ws:=ws) BK qR (UF hn ao)
theorem apv{t:atW}(aF:t <:+ s):IK n s (bo s t)=some (res [] s (px t)):=by
 unfold IK px jw;rw [show(64:Int)=((64:Nat):Int)from rfl,uN aF (by omega) (by omega) (by omega),al]
 cases h:jc 64 t with
 |error e=>rw [rM h,fF];simp only [gH (oG h),atH,fF]
 |ok r=>
  obtain⟨u,bS⟩:=r;obtain⟨Z,aa,aj⟩:=pr h;have eK:bS <:+ s:=List.IsSuffix.trans ⟨e' u,Z.symm⟩ aF;have hu:=eK.length_le;rw [rL h,g_];simp only [atF,atJ,atI];rw [show wx n s ((u:Int),bo s bS,0) n [] 0 (bo s bS)=_ from acx (L:=λm i t acc=>wx n s ((u:Int),bo s bS,0) m acc (i:Int) (bo s t)) (D:=xA) (u:=u) (s:=s) (fin:=λacc t=>some (acc,bo s t,0)) (bad:=λe=>some ([],0,e)) (λx v t hx=>UC.lP hx) ?_ ?_ (by omega) eK]
  ·cases ai:hy xA u bS with
   |error e=>rfl
   |ok r=>rfl
  ·intro m i t acc hi ha aF;simp only [wx,IJ,atO,hi,atF,atH];rw [apr hn aR hs aF,al];cases aC:xA t with
   |error e=>rw [fF];simp only [gH (UC.c8 _ _ aC),atH]
   |ok r=>
    obtain⟨x,t1⟩:=r;rw [g_];simp only [atF,atJ,atI,atQ];rw [lg (by omega),aL,bv (by omega)]
  ·intro m t acc ha aF;simp only [wx,IJ,atS,atG,atI,P']
end
section
variable {n:Nat} (hn:2000≤n) (aR:n≤1000000000) {s:atW} (hs:s.length<n)
include hn aR hs
end
structure ac5(p:bc):Prop where
 v:mB p=0
 i:qv p
 w:al0 p≤125000
def gU(p:bc):atW:=if mB p=0 then kP p else[]
structure nZ(p:bc):Prop where
 i:qv p
 n:p.Name.length≤300000
 f:h2 p.Params≤300000
 b:du p.Body≤300000
def ac5.fV{p:bc}(h:ac5 p):nZ p:=by
 have hw:p.Name.length+h2 p.Params+du p.Body≤125000:=h.w;exact⟨h.i,by omega,by omega,by omega⟩
def UI{n:Nat}{p:bc}(h:nZ p)(hn:3000000≤n):t8 n p=some (gU p):=by
 have Z:=h.n;have aa:=h.f;have aj:=h.b;unfold gU;by_cases aw:mB p=0
 ·rw [if_pos aw];exact anO p h.i aw hn h.f h.b
 ·rw [if_neg aw];unfold t8;rw [Tz p (by omega) (by omega) (by omega) (by omega) (by omega)]
  simp only [al,aw,atG,atK,atH]
def apw{n:Nat}{p:bc}(h:nZ p)(hn:3000000≤n):Aa n p=some (gU p):=by
 have Z:=h.n;have aa:=h.f;have aj:=h.b;unfold gU;by_cases aw:mB p=0
 ·rw [if_pos aw];exact aoh p h.i aw hn h.f h.b
 ·rw [if_neg aw];unfold Aa;rw [aa8 p (by omega) (by omega) (by omega) (by omega) (by omega) (by omega) (by omega)]
  simp only [al,aw,atG,atK,atH]
def apx{p:bc}(h:nZ p):(gU p).length≤1300000:=by
 unfold gU;by_cases aw:mB p=0
 ·rw [if_pos aw];have:=abZ (LV h.i aw)
  have aj:=h.b;omega
 ·rw [if_neg aw];simp
def Bi(x:aB):(⟨x.cl,x.b9,x.Rows⟩:aB)=x:=rfl
def FSb(x:cb):(⟨x.Version,x.aE⟩:cb)=x:=rfl
def UJ(x:Request):(⟨x.Client,x.Seq,x.bc,x.ar,x.eN,(⟨x.br.ee,x.br.Reads,x.br.cA⟩:fg)⟩:Request)=x:=rfl
def FT(x:b7):(⟨x.Pos,(⟨x.aB.cl,x.aB.b9,x.aB.Rows⟩:aB),x.cq,x.c6,(⟨x.Place.Version,x.Place.aE⟩:cb),x.bi,x.Queue,x.dA⟩:b7)=x:=rfl
def tf(l:List bc):Bool:=(allI l.length λi=>!(decide (gU (l.getD i default)=[])||decide (16384<(((gU (l.getD i default)).length:Nat):Int)))&&(!decide (0<(i:Int))||Op.bytesLess (l.getD (pv i) default).Name (l.getD i default).Name))&&decide (l.length≤16)
def xC(l:List Request):Bool:=(allI l.length λi=>decide (pt (l.getD i default)=0))&&decide (l.length≤64)
def hT(r:b7):Bool:=((((((((decide (0≤r.Pos)&&decide (r.Pos≤1099511627776))&&lh r.aB)&&decide (r.aB.b9=r.Pos))&&tf r.cq)&&nV r.c6)&&ni r.Place)&&rO r.bi)&&xC r.Queue)
structure tg(n:Nat)(r:b7):Prop where
 st:FK n r.aB
 Bj:r.cq.length<n
 lk:∀i,nZ (r.cq.getD i default)
 uY:r.c6.length<n
 oJ:∀i,qE n (r.c6.getD i default)
 pl:r.Place.aE.length<n
 Bk:∀i,rT (r.Place.aE.getD i default)
 aF:r.bi.length<n
 kv:∀i,(r.bi.getD i default).Key.length≤1000
 py:r.Queue.length<n
 uZ:∀i,rQ n (r.Queue.getD i default)
def ac6:nZ default:=by
 refine⟨⟨by show([]:atW).length≤_;simp,by show([]:List Param).length≤_;simp,λi hi=>by exact absurd hi (by show¬ i<([]:List Param).length;simp),trivial⟩,by show([]:atW).length≤_;simp,by show h2 []≤_;simp [h2],by show du []≤_;simp [du]⟩
section
variable {n:Nat} (hn:3000000≤n) (aR:n≤1000000000)
include hn aR
theorem apy{l:List bc}(ab:l.length<n)(h:∀i,nZ (l.getD i default)):Is n l=some (tf l):=by
 unfold Is tf;rw [h4 (L:=y2 n l) (chk:=λi=>!(decide (gU (l.getD i default)=[])||decide (16384<(((gU (l.getD i default)).length:Nat):Int)))&&(!decide (0<(i:Int))||Op.bytesLess (l.getD (pv i) default).Name (l.getD i default).Name)) (no:=false) (yes:=true) ab,ma]
 ·simp only [eL];by_cases ao:l.length≤16
  ·simp only [ao,show¬ 16<l.length by omega,atF,atG,atI,Bool.and_true]
  ·simp only [ao,show 16<l.length by omega,atF,atG,atH,Bool.and_false]
 ·intro m i hi;simp only [y2,Ir,atO,hi,atF,atH,bI hi,aL,al,atN,bv (show i≤4611686018427387904 by omega),UI (h i) hn,l_ hi (show l.length≤1000000000 by omega)]
  exact iN (by simp only [dt,ef,Bool.not_and,Bool.not_or,Bool.not_not,←uO])
 ·intro m;simp only [y2,Ir,PU,atS,atG,atI]
theorem apz{l:List bc}(ab:l.length<n)(h:∀i,nZ (l.getD i default)):Kl n l=some (tf l):=by
 unfold Kl tf;rw [h4 (L:=Ac n l) (chk:=λi=>!(decide (gU (l.getD i default)=[])||decide (16384<(((gU (l.getD i default)).length:Nat):Int)))&&(!decide (0<(i:Int))||Op.bytesLess (l.getD (pv i) default).Name (l.getD i default).Name)) (no:=false) (yes:=decide (l.length≤16)) ab,rN]
 ·intro m i hi;simp only [Ac,Kk,atO,hi,atF,atH,bI hi,aL,al,atN,bv (show i≤4611686018427387904 by omega),apw (h i) hn,Bb hi,l_ hi (show l.length≤1000000000 by omega),atT]
  exact iN (by simp only [dt,ef,Bool.not_and,Bool.not_or,Bool.not_not])
 ·intro m;simp only [Ac,Kk,R7,atS,atG,atI,jD]
theorem ac7(x y:Int):decide (x<y) = !decide (y≤x):=by
 by_cases h:y≤x
 ·rw [decide_eq_true h,decide_eq_false (by omega)];rfl
 ·rw [decide_eq_false h,decide_eq_true (by omega)];rfl
theorem UK{r:b7}(h:tg n r):rh n r=some (hT r):=by
 have e1:wn n r n 0=some (if(allI r.Queue.length λi=>decide (pt (r.Queue.getD i default)=0)) then((nV r.c6&&ni r.Place)&&rO r.bi)else false):=by
  refine h4 (L:=wn n r) h.py ?_ ?_
  ·intro m i hi;simp only [wn,Ix,atO,hi,atF,atH,bI hi,aL,atN,bv (show i≤4611686018427387904 by have:=h.py;omega)]
   rw [L' (by omega) aR (h.uZ i),al]
   exact iN rfl
  ·intro m;simp only [wn,Ix,P2,atS,atG,atI];rw [Ma (by omega) aR h.uY h.oJ,acG (by omega) aR h.pl h.Bk,aoP (by omega) aR h.aF]
   simp only [al,oH,ef];cases nV r.c6<;>cases ni r.Place<;>rfl
 unfold rh;rw [e1,Uu (by omega) aR h.st,apy hn aR h.Bj h.lk]
 simp only [al,oH,dt,ef,eL];unfold hT xC;rw [show decide (r.Pos<0) = !decide (0≤r.Pos)from ac7 hn aR _ _,show decide (1099511627776<r.Pos) = !decide (r.Pos≤1099511627776)from ac7 hn aR _ _]
 by_cases ao:r.Queue.length≤64
 ·simp only [ao,show¬ 64<r.Queue.length by omega,atF,atG,Bool.and_true,Bool.or_false,rN]
  cases decide (0≤r.Pos)<;>cases decide (r.Pos≤1099511627776)<;>cases lh r.aB<;>cases decide (r.aB.b9=r.Pos)<;>cases tf r.cq<;>cases nV r.c6<;>cases ni r.Place<;>cases rO r.bi<;>simp
 ·simp only [ao,show 64<r.Queue.length by omega,atF,atG,Bool.and_false,atT,atH]
theorem apA{l:List Request}(ab:l.length<n)(h:∀i,rQ n (l.getD i default)):Kq n l=some (xC l):=by
 unfold Kq xC;rw [h4 (L:=Ae n l) (chk:=λi=>decide (pt (l.getD i default)=0)) (no:=false) (yes:=decide (l.length≤64)) ab,rN]
 ·intro m i hi;simp only [Ae,Kp,atO,hi,atF,atH,bI hi,aL,al,atN,bv (show i≤4611686018427387904 by omega),aoT (show 2000≤n by omega) aR (h i)]
  exact iN rfl
 ·intro m;simp only [Ae,Kp,R',atS,atG,atI,jD]
theorem apB{r:b7}(h:tg n r):Kr n r=some (hT r):=by
 unfold Kr hT;rw [acO (by omega) aR h.st,apz hn aR h.Bj h.lk,ao2 (by omega) aR h.uY h.oJ,aoX (by omega) aR h.pl h.Bk,aoQ (by omega) aR h.aF h.kv,apA hn aR h.py h.uZ]
 simp only [al,oH,ef];cases decide (0≤r.Pos)<;>cases decide (r.Pos≤1099511627776)<;>cases lh r.aB<;>cases decide (r.aB.b9=r.Pos)<;>cases tf r.cq<;>cases nV r.c6<;>cases ni r.Place<;>cases rO r.bi<;>rfl
omit hn aR in
theorem r0{L:Nat→Int→at0}{len:Nat}{m:Nat}(hm:len<m)(step:∀m i,i<len→L (m+1) (i:Int)=L m ((i+1:Nat):Int))(stop:∀m,L (m+1) (len:Int)=some true):L m 0=some true:=by
 have:=h4 (chk:=λ_=>true) (no:=false) (yes:=true) hm (λm i hi=>by rw [step m i hi,if_pos rfl]) stop
 rw [this,ma]
 congr 1
 rw [ig];exact λ_ _=>rfl
theorem apC{s:aB}(h:FK n s):Jr n s s=some true:=by
 have Z:=h.rows;unfold Jr;simp only [atF,atJ,atI];refine r0 (L:=ui n s s) Z (λm i hi=>?_) (λm=>?_)
 ·have aa:=(h.row i).FJ;simp only [ui,Jq,atO,hi,atF,atH,bI hi,aL,atN,atJ,atI]
  have:=Ur (L:=zF n (ui n s s m) (i:Int) s s) (len:=(s.Rows.getD i default).bl.length) (chk:=λ_=>true) (no:=false) (yes:=ui n s s m ((i+1:Nat):Int)) (m:=n) aa (λapD k hk=>by
   simp only [zF,Jp,atO,atN,hk,atF,atH,bI hk,aL,Bool.and_self,atJ,atI,atU,bv (show k≤4611686018427387904 by omega)]) (λapD=>by
   simp only [zF,Jp,Q1,atN,atS,atG,atI,bv (show i≤4611686018427387904 by omega)])
  rw [this,if_pos];rw [ig];exact λ_ _=>rfl
 ·simp only [ui,Jq,Q0,atS,atG,atI]
theorem apE{l:List bc}(ab:l.length<n)(h:∀i,nZ (l.getD i default)):Jo n l l=some true:=by
 unfold Jo;simp only [atF,atJ,atI];refine r0 (L:=zE n l l) ab (λm i hi=>?_) (λm=>?_)
 ·have Z:=h i;have aa:=Z.f;have aj:=Z.b;have aC:=AN (l.getD i default).Params;simp only [zE,Jn,atO,hi,atF,atH,bI hi,aL,atN,amo (n:=n) (l.getD i default) (by omega) (by omega) (by omega) (by omega),al,atJ,atI,bv (show i≤4611686018427387904 by omega)]
 ·simp only [zE,Jn,QZ,atS,atG,atI]
theorem apF{o:Outcome}(h:xu n o):DX n o o=some true:=by
 have Z:=h.out;unfold DX;simp only [atF,atJ,atI];refine r0 (L:=zK n o o) Z (λm i hi=>?_) (λm=>?_)
 ·simp only [zK,Jz,atO,hi,atF,atH,bI hi,aL,atN,Bool.and_self,atJ,atI,bv (show i≤4611686018427387904 by omega)]
 ·simp only [zK,Jz,Q7,atS,atG,atI]
theorem apG{s:bM}(h:qE n s):JB n s.bK s.bK=some true:=by
 have Z:=h.rep;unfold JB;simp only [atF,atJ,atI];refine r0 (L:=zL n s.bK s.bK) Z (λm i hi=>?_) (λm=>?_)
 ·have:=apF hn aR (h.out i)
  simp only [zL,JA,Q8,atO,hi,atF,atH,bI hi,aL,atN];rw [show DX n ⟨(s.bK.getD i default).Outcome.Status,(s.bK.getD i default).Outcome.Code,(s.bK.getD i default).Outcome.Out⟩ ⟨(s.bK.getD i default).Outcome.Status,(s.bK.getD i default).Outcome.Code,(s.bK.getD i default).Outcome.Out⟩=some true from this]
  simp only [al,atH,atJ,atI,bv (show i≤4611686018427387904 by omega)]
 ·simp only [zL,JA,Q9,atS,atG,atI]
theorem apH{l:List bM}(ab:l.length<n)(h:∀i,qE n (l.getD i default)):JD n l l=some true:=by
 unfold JD;simp only [atF,atJ,atI];refine r0 (L:=zM n l l) ab (λm i hi=>?_) (λm=>?_)
 ·simp only [zM,JC,atO,hi,atF,atH,bI hi,aL,atN,apG hn aR (h i),al,atJ,atK,atI,Bool.false_or,bv (show i≤4611686018427387904 by omega)]
 ·simp only [zM,JC,Q',atS,atG,atI]
theorem apI{p:cb}(ab:p.aE.length<n):Jt n p p=some true:=by
 unfold Jt;simp only [atF,atJ,atI];refine r0 (L:=zG n p p) ab (λm i hi=>?_) (λm=>?_)
 ·simp only [zG,Js,atO,hi,atF,atH,bI hi,aL,atN,Bool.and_self,atJ,atI,bv (show i≤4611686018427387904 by omega)]
 ·simp only [zG,Js,Q2,atS,atG,atI]
theorem apJ{l:List bi}(ab:l.length<n):Jv n l l=some true:=by
 unfold Jv;simp only [atF,atJ,atI];refine r0 (L:=zH n l l) ab (λm i hi=>?_) (λm=>?_)
 ·simp only [zH,Ju,atO,hi,atF,atH,bI hi,aL,atN,Bool.and_self,atJ,atI,bv (show i≤4611686018427387904 by omega)]
 ·simp only [zH,Ju,Q3,atS,atG,atI]
theorem ac8{l:jZ}(ab:l.length<n):DW n l l=some true:=by
 unfold DW;simp only [atF,atJ,atI];refine r0 (L:=zI n l l) ab (λm i hi=>?_) (λm=>?_)
 ·simp only [zI,Jw,atO,hi,atF,atH,bI hi,aL,atN,atJ,atI,bv (show i≤4611686018427387904 by omega)]
 ·simp only [zI,Jw,Q4,atS,atG,atI]
theorem apK{r:Request}(h:rQ n r):Jy n r r=some true:=by
 have Z:=h.args;unfold Jy Q5;rw [ac8 hn aR h.FH,ac8 hn aR h.FI];simp only [atF,atJ,atI,beq_self_eq_true,atK,atH,al];refine r0 (L:=zJ n r r) Z (λm i hi=>?_) (λm=>?_)
 ·simp only [zJ,Jx,atO,hi,atF,atH,bI hi,aL,atN,Bool.and_self,atJ,atI,bv (show i≤4611686018427387904 by omega)]
 ·simp only [zJ,Jx,Q6,atS,atG,atI]
theorem apL{r:b7}(h:tg n r):DY n r r=some true:=by
 have Z:=h.py;unfold DY;rw [apC hn aR h.st,apE hn aR h.Bj h.lk,apH hn aR h.uY h.oJ,apI hn aR h.pl,apJ hn aR h.aF];simp only [atF,atJ,atK,atI,atH,al];refine r0 (L:=zN n r r) Z (λm i hi=>?_) (λm=>?_)
 ·simp only [zN,JE,atO,hi,atF,atH,bI hi,aL,atN,apK hn aR (h.uZ i),al,atJ,atI,bv (show i≤4611686018427387904 by omega)]
 ·simp only [zN,JE,Q_,atS,atG,atI]
end
end Go.Ab.Y

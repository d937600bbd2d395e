/- The plain law: what the functions compute answers as the statement says. -/
import Derived.Test.YtcjbfnojhpfchaaGreatDoorPlainB
set_option linter.all false
namespace Go.Ab.Y
open Go Go.Ab Go.Proofs
def aoC(n:Nat)(t:Int):Se n t=some (nY t):=ab' n t
def act(x:aux):∀l:List aux,Lib.joinTail [44,32] (l++[x])=Lib.joinTail [44,32] l++([44,32]++x)
 |[]=>by simp [Lib.joinTail]
 |y::l=>by rw [List.cons_append,Gf,Gf,act x l];simp
def aoD(x:aux)(l:List aux):Lib.join (l++[x]) [44,32]=(if l.length=0 then Lib.join l [44,32]else Lib.join l [44,32]++[44,32])++x:=by
 cases l with
 |nil=>simp [Lib.join,Lib.joinTail]
 |cons y l=>rw [List.cons_append,Lib.join_cons,Lib.join_cons,act,if_neg (by simp)];simp
def aoE{n:Nat}(p:bb)(hi:qJ p)(av:mF p=0)(hn:3000000≤n)(aY:h4 p.Params≤300000)(cN:dq p.Body≤300000):AS n p=some (kS p):=by
 have hp:=Mq hi av;obtain⟨Z,ab,aj⟩:=hp;obtain⟨aC,aT⟩:=Ge ab;have cM:=pE Z;have dj:=oR p.Body 1 aj;unfold AS;rw [abo p (by omega) (by omega) (by omega) (by omega) (by omega) (by omega) (by omega),av]
 simp only [ak,aug,auk,auj];rw [gD (by simp only [aum,aun];omega),gD (by simp only [auq,aum,aun];omega)]
 simp only [aK]
 have gR:∀m i,p.Params.length<i+m→i≤p.Params.length→EZ n p m ((([112,114,111,99,32]++p.Name)++[40])++nj (p.Params.take i)) (i:Int)=some (kS p):=by
  intro m;induction m with
  |zero=>intro i g1 g2;omega
  |succ m aG=>
   intro i g1 g2;have acu:(nj (p.Params.take i)).length≤24*(p.Params.take i).length:=Ui λx hx=>aT x (List.mem_of_mem_take hx)
   have aoF:(p.Params.take i).length≤6:=by simp;omega
   simp only [EZ,Sh,KP,Sg,aup,auo];by_cases hi:i<p.Params.length
   ·have hx:=aT (p.Params.getD i default) (by rw [List.getD_eq_getElem?_getD,List.getElem?_eq_getElem hi];exact List.getElem_mem hi)
    have hnx:=pE hx.1;have acg:=Uh (p.Params.getD i default).fi;have gn:=aG (i+1) (by omega) (by omega)
    unfold nj at gn acu ⊢;rw [xP p.Params i hi,List.map_append]at gn;simp only [List.map_cons,List.map_nil]at gn;rw [aoD]at gn;generalize m4:p.Params.getD i default=x at gn hnx acg
    simp only [hi,aug,aui,bw hi,aK,aoC,ak,bm (show i≤4611686018427387904 by omega),eO]
    by_cases h0:i=0
    ·subst h0;simp (disch:=first|omega|(simp only [auq,aum,aun];omega)) only [Nat.lt_irrefl,decide_false,cond_false,gD,aK]
     rw [←gn];simp [mN]
    ·simp (disch:=first|omega|(simp only [auq,aum,aun];omega)) only [show 0<i by omega,decide_true,cond_true,gD,aK]
     rw [←gn,if_neg (by rw [List.length_map,List.length_take];omega)];simp [mN]
   ·simp only [hi,auh,auj];obtain rfl:i=p.Params.length:=by omega
    unfold Sf;rw [List.take_length]at acu aoF ⊢;rw [show(1:Int)=((1:Nat):Int)from rfl,aoz n p.Body 1 aj cN (by omega)]
    simp (disch:=first|omega|(simp only [auq,aum,aun];omega)) only [ak,gD,aK]
    simp [kS,dt,cat,ind]
 have:=gR n 0 (by omega) (by omega)
 rw [show nj (p.Params.take 0)=[]from rfl,List.append_nil]at this
 exact this
def aoG{β:Type}{L:Nat→Int→Option β}{len:Nat}{chk:Nat→Bool}{no yes:β}
 (step:∀m i,i<len→L (m+1) (i:Int)=if chk i then L m ((i+1:Nat):Int)else some no) (stop:∀m,L (m+1) (len:Int)=some yes):
 ∀m i,len<i+m→i≤len→L m (i:Int)=some (if(List.range' i (len-i)).all chk then yes else no):=by
 intro m;induction m with
 |zero=>intro i h ab;omega
 |succ m aG=>
  intro i h ab;by_cases hi:i<len
  ·rw [step m i hi,aG (i+1) (by omega) (by omega),show len-i=(len-(i+1))+1 by omega,List.range'_succ,List.all_cons]
   cases chk i
   ·rfl
   ·rw [if_pos rfl,Bool.true_and]
  ·obtain rfl:i=len:=by omega
   rw [stop m];simp
def Ur{β:Type}{L:Nat→Int→Option β}{len:Nat}{chk:Nat→Bool}{no yes:β}{m:Nat}(hm:len<m)
 (step:∀m i,i<len→L (m+1) (i:Int)=if chk i then L m ((i+1:Nat):Int)else some no) (stop:∀m,L (m+1) (len:Int)=some yes):
 L m 0=some (if(List.range len).all chk then yes else no):=by
 have:=aoG step stop m 0 (by omega) (by omega)
 rwa [Nat.sub_zero,←List.range_eq_range']at this
def qN(c:UInt8):Bool:=decide (97≤c.toNat∧c.toNat≤122)||decide (48≤c.toNat∧c.toNat≤57)||decide (c.toNat=47)||decide (c.toNat=46)||decide (c.toNat=95)||decide (c.toNat=45)
def jw(k:aux):Bool:=decide (1≤k.length)&&decide (k.length≤24)&&(List.range k.length).all λi=>qN (k.getD i 0)
def aoH{n:Nat}{s:aux}(h:24<n):H4 n s=some (decide (s.length≤24)&&(List.range s.length).all λi=>qN (s.getD i 0)):=by
 unfold H4;by_cases aa:s.length≤24
 ·simp only [eO,show¬ 24<s.length by omega,auh,auj,aa,aug,Bool.true_and]
  rw [Ur (L:=y4 n s) (len:=s.length) (chk:=λi=>qN (s.getD i 0)) (no:=false) (yes:=true) (by omega)]
  ·cases (List.range s.length).all λi=>qN (s.getD i 0)<;>rfl
  ·intro m i hi;simp only [y4,H3,Pn,aup,hi,aug,aui,bw hi,aK,ak,auo,bm (show i≤4611686018427387904 by omega),tj,jG,fs,dv,eg]
   have:(((((decide (97≤(s.getD i 0).toNat)&&decide ((s.getD i 0).toNat≤122)||(decide (48≤(s.getD i 0).toNat)&&decide ((s.getD i 0).toNat≤57)))||decide ((s.getD i 0).toNat=47))||decide ((s.getD i 0).toNat=46))||decide ((s.getD i 0).toNat=95))||decide ((s.getD i 0).toNat=45))=qN (s.getD i 0):=by
    simp [qN,Bool.decide_and]
   rw [this];cases qN (s.getD i 0)<;>rfl
  ·intro m;simp only [y4,H3,Po,aut,auh,auj]
 ·simp only [eO,show 24<s.length by omega,aug,aui,aa,auh,Bool.false_and]
def Mz{n:Nat}{k:aux}(h:24<n):wE n k=some (jw k):=by
 unfold wE jw;rw [aoH h];cases k with
 |nil=>rfl
 |cons c l=>simp [ak]
def aoI(c:Nat):(((((decide (c<97)||decide (122<c))&&(decide (c<48)||decide (57<c))) && !decide (c=47)) && !decide (c=46)) && !decide (c=95) && !decide (c=45)) = !(decide (97≤c∧c≤122)||decide (48≤c∧c≤57)||decide (c=47)||decide (c=46)||decide (c=95)||decide (c=45)):=by
 rw [Bool.eq_iff_iff];simp only [Bool.and_eq_true,Bool.or_eq_true,decide_eq_true_eq,Bool.not_eq_true',Bool.or_eq_false_iff,decide_eq_false_iff_not];omega
def MA{n:Nat}{k:aux}(h:k.length<n)(hk:k.length≤4611686018427387904):xk n k=some (jw k):=by
 unfold xk;rw [Ur (L:=AA n k) (len:=k.length) (chk:=λi=>qN (k.getD i 0)) (no:=false) (yes:=decide (1≤k.length)&&decide (k.length≤24)) h]
 ·unfold jw;cases (List.range k.length).all λi=>qN (k.getD i 0)<;>simp
 ·intro m i hi;simp only [AA,Ka,aup,hi,aug,aui,bw hi,aK,auo,bm (show i≤4611686018427387904 by omega),pu,eO,fs,dv,eg]
  have:=aoI (k.getD i 0).toNat
  rw [show(decide (97≤(k.getD i 0).toNat∧(k.getD i 0).toNat≤122)||decide (48≤(k.getD i 0).toNat∧(k.getD i 0).toNat≤57)||decide ((k.getD i 0).toNat=47)||decide ((k.getD i 0).toNat=46)||decide ((k.getD i 0).toNat=95)||decide ((k.getD i 0).toNat=45))=qN (k.getD i 0)from rfl]at this
  rw [this];cases qN (k.getD i 0)<;>rfl
 ·intro m;simp only [AA,Ka,Rn,aut,auh,auj,tj,jG,eg]
def acv(n:Nat)(s:aux):∀m,Dq n s m=zh n s m
 | 0=>rfl
 |m+1=>by
  show Pr n s (Dq n s m)=_
  rw [acv n s m];rfl
def acw{n:Nat}{s:aux}(h:s.length<n)(hs:s.length≤4611686018427387904):Dr n s=some (ju s):=by
 unfold Dr;rw [acv];exact aaG h hs
def acx(n:Nat)(s:aux):∀m,EF n s m=AO n s m
 | 0=>rfl
 |m+1=>by
  show Ro n s (EF n s m)=_
  rw [acx n s m];rfl
def aoJ{n:Nat}{s:aux}(h:s.length<n)(hs:s.length≤4611686018427387904):Kb n s=some (ju s):=by
 unfold Kb ju;by_cases aa:s.length≤64
 ·simp only [eO,show¬ 64<s.length by omega,auh,auj,aa,aug,Bool.and_true]
  rw [acx];exact acr s h hs
 ·simp only [eO,show 64<s.length by omega,aug,aui,aa,auh,Bool.and_false]
def je(v:bq):Bool:=if v.Kind=0 then decide (v.N=0)&&decide (v.S=[])else if v.Kind=1 then decide (v.S=[])else decide (v.Kind=2)&&decide (v.N=0)&&ju v.S
def MB{n:Nat}{v:bq}(h:v.S.length<n)(hs:v.S.length≤4611686018427387904):sR n v=some (je v):=by
 unfold sR je;by_cases h0:v.Kind=0
 ·simp [h0]
 ·by_cases Z:v.Kind=1
  ·simp [Z]
  ·by_cases ab:v.Kind=2
   ·by_cases aj:v.N=0
    ·simp [ab,aj,acw h hs]
    ·simp [ab,aj]
   ·simp [h0,Z,ab]
def MC{n:Nat}{v:bq}(h:v.S.length<n)(hs:v.S.length≤4611686018427387904):uR n v=some (je v):=by
 unfold uR je;by_cases h0:v.Kind=0
 ·by_cases aj:v.N=0<;>simp [h0,aj]
 ·by_cases Z:v.Kind=1
  ·simp [Z]
  ·by_cases ab:v.Kind=2
   ·by_cases aj:v.N=0
    ·simp [ab,aj,aoJ h hs]
    ·simp [ab,aj]
   ·simp [h0,Z,ab]
def bV(v:bq):aux:=if v.Kind=1 then e_ 1++mO v.N else if v.Kind=2 then e_ 2++gd v.S else e_ 0
def Us{n:Nat}{v:bq}(hn:10≤n)(aI:e6 v.N)(hs:v.S.length≤4611686018427387904):wF n v=some (bV v):=by
 have Z:=rX aI;have ab:=My hs;have hN:=nk (u:=1) (by omega)
 have kh:=nk (u:=2) (by omega)
 have b4:h1 n 0=some (e_ 0):=ve (u:=0) hn (by omega)
 have e1:h1 n 1=some (e_ 1):=ve (u:=1) hn (by omega)
 have e2:h1 n 2=some (e_ 2):=ve (u:=2) hn (by omega)
 unfold wF bV;by_cases cC:v.Kind=1
 ·simp (disch:=omega) only [cC,decide_true,cond_true,e1,ak,xX hn aI,gD,aK,if_true]
 ·by_cases al:v.Kind=2
  ·simp (disch:=omega) only [al,show¬ (2:Int)=1 by omega,decide_true,decide_false,cond_true,cond_false,e2,ak,vf hn hs,gD,aK,if_true,if_false]
  ·simp only [cC,al,auh,auj,b4,ak,auw]
def acy{v:bq}(aI:e6 v.N)(hs:v.S.length≤4611686018427387904):(bV v).length≤v.S.length+20:=by
 have Z:=rX aI;have ab:=My hs;have l0:=nk (u:=0) (by omega)
 have hN:=nk (u:=1) (by omega)
 have kh:=nk (u:=2) (by omega)
 unfold bV;split
 ·simp;omega
 ·split
  ·simp;omega
  ·omega
def li:List Token→Nat
 |[]=>0
 |t::l=>(spell t).length+li l
def acz:∀l m:List Token,li (l++m)=li l+li m
 |[],m=>by simp [li]
 |t::l,m=>by simp only [List.cons_append,li,acz l m];omega
def b8(l:List Token)(i:Nat):Nat:=li (l.take i)
def iW{α β:Type}(Q:α→β→Prop)(p:Option (aE α β)):Prop:=∀a z,p=some (.ret a z)→Q a z
def iW.ret{α β:Type}{Q:α→β→Prop}{a:α}{z:β}(h:Q a z):iW Q (some (.ret a z)):=λeb Gh e=>by cases e;exact h
def iW.bf{α β:Type}{Q:α→β→Prop}{x:V}{z:β}:iW Q (some (.bf x z)):=λeb Gh e=>by cases e
def iW.none{α β:Type}{Q:α→β→Prop}:iW Q none:=λeb Gh e=>by cases e
def iW.bind{α β dG hI:Type}{Q:α→β→Prop}{R:dG→hI→Prop}{p:Option (aE α β)}{f:α→β→Option (aE dG hI)}{h:V→β→Option (aE dG hI)}(hp:iW Q p)(aY:∀a z,Q a z→iW R (f a z))(bn:∀x z,iW R (h x z)):
 iW R (Option.bind p λr=>aE.on r f h):=by
 match p,hp with
 |.none,_=>exact .none
 |some (.ret a z),hp=>exact aY a z (hp a z rfl)
 |some (.bf x z),_=>exact bn x z
def iW.bif{dG hI:Type}{R:dG→hI→Prop}{c:Bool}{p q:Option (aE dG hI)}(Z:c=true→iW R p)(ab:c=false→iW R q):iW R (bif c then p else q):=by cases c;exact ab rfl;exact Z rfl
def iW.ax{dG hI:Type}{R:dG→hI→Prop}{c:Bool}{p:Option (aE dG hI)}(Z:iW R p):iW R (Go.Ab.ax c p):=by cases c;exact .none;exact Z
section
variable {l:List Token}
theorem acA(e:Expr)(k:Nat):li (eX e k)=li (fM e)+if ca e.Op<k then 2 else 0:=by
 unfold eX fA;split
 ·have Z:(spell (bc [40])).length=1:=rfl;have ab:(spell (bc [41])).length=1:=rfl;have aj:li (fM e)=li (dd (bR e)):=rfl;simp only [dd,tr,li,acz,Z,ab,aj];omega
 ·rfl
theorem aoK(e:Expr){j k:Nat}(h:j≤k):li (eX e j)≤li (eX e k):=by
 rw [acA,acA];split<;>split<;>omega
def Ut(l:List Token)(i lv:Nat)(e:Expr)(z:Int):Prop:=∃k:Nat,z=(k:Int)∧i≤k∧k≤l.length∧mL e∧b8 l i+li (eX e lv)≤b8 l k
theorem Ut.mono{i j lv acB:Nat}{e:Expr}{z:Int}(h:Ut l j lv e z)(hi:i≤j)(hp:b8 l i≤b8 l j)(fZ:acB≤lv):Ut l i acB e z:=by
 obtain⟨k,Z,ab,aj,aC,aT⟩:=h;have:=aoK e fZ
 exact⟨k,Z,by omega,aj,aC,by omega⟩
end
section
variable {l:List Token}
end
section
variable {l:List Token}
end
section
variable {l:List Token}
end
section
variable {l:List Token}
end
abbrev eB(α:Type):=aux→Except Int (α×aux)
structure el{α:Type}(D:eB α)(E:α→aux)(ok:α→Prop):Prop where
 rt:∀v t,ok v→D (E v++t) = .ok (v,t)
 gx:∀x v t,D x = .ok (v,t)→x=E v++t∧ok v
 db:∀x e,D x = .error e→e≠0
def el.lR{α:Type}{D:eB α}{E:α→aux}{ok:α→Prop}(h:el D E ok){x:aux}{v:α}{t:aux}(hx:D x = .ok (v,t)):t <:+ x:=⟨E v,(h.gx x v t hx).1.symm⟩
def dO{α β:Type}(D:eB α)(k:α→eB β):eB (α×β):=λx=>match D x with
 |.ok (v,t)=>match k v t with
  |.ok (w,u)=>.ok ((v,w),u)
  |.error e=>.error e
 |.error e=>.error e
def el.dep{α β:Type}{D:eB α}{E:α→aux}{ok:α→Prop}{k:α→eB β}{eA:α→β→aux}{acC:α→β→Prop}(h:el D E ok)(ab:∀a,ok a→el (k a) (eA a) (acC a)):
 el (dO D k) (λp=>E p.1++eA p.1 p.2) (λp=>ok p.1∧acC p.1 p.2) where
 rt:=fun⟨v,w⟩ t ⟨aj,aC⟩=>by simp only [dO,List.append_assoc,h.rt v _ aj,(ab v aj).rt w t aC]
 gx:=
  λx ⟨v,w⟩ t hx=>by
  unfold dO at hx;split at hx
  ·rename_i v0 t0 hd;obtain⟨aj,aC⟩:=h.gx _ _ _ hd;split at hx
   ·rename_i Gi oq hk;obtain⟨aT,bP⟩:=(ab v0 aC).gx _ _ _ hk;cases hx;exact⟨by rw [aj,aT,List.append_assoc],aC,bP⟩
   ·cases hx
  ·cases hx
 db:=
  λx e hx=>by
  unfold dO at hx;split at hx
  ·rename_i v0 t0 hd;split at hx
   ·cases hx
   ·rename_i b4 hk;cases hx;exact(ab v0 (h.gx _ _ _ hd).2).db _ _ hk
  ·rename_i b4 hd;cases hx;exact h.db _ _ hd
def fV{α β:Type}(f:α→β)(D:eB α):eB β:=λx=>match D x with
 |.ok (v,t)=>.ok (f v,t)
 |.error e=>.error e
def el.map{α β:Type}{D:eB α}{E:α→aux}{ok:α→Prop}(h:el D E ok)(f:α→β)(g:β→α)(BK:β→Prop)(dg:β→aux)(Z:∀b,BK b→f (g b)=b∧ok (g b)∧dg b=E (g b))(ab:∀a,ok a→g (f a)=a∧BK (f a)):
 el (fV f D) dg BK where
 rt:=λv t av=>by
  obtain⟨aj,aC,aT⟩:=Z v av;simp only [fV,aT,h.rt _ t aC,aj]
 gx:=λx v t hx=>by
  unfold fV at hx;split at hx
  ·rename_i v0 t0 hd;cases hx;obtain⟨aj,aC⟩:=h.gx _ _ _ hd;obtain⟨aT,bP⟩:=ab _ aC;obtain⟨_,_,cM⟩:=Z _ bP;exact⟨by rw [cM,aT,aj],bP⟩
  ·cases hx
 db:=λx e hx=>by
  unfold fV at hx;split at hx
  ·cases hx
  ·rename_i b4 hd;cases hx;exact h.db _ _ hd
def mP{α:Type}(p:α→Bool)(e:Int)(D:eB α):eB α:=λx=>match D x with
 |.ok (v,t)=>if p v then .ok (v,t)else .error e
 |.error f=>.error f
def el.chk{α:Type}{D:eB α}{E:α→aux}{ok:α→Prop}(h:el D E ok)(p:α→Bool)(e:Int)(he:e≠0):el (mP p e D) E (λv=>ok v∧p v=true) where
 rt:=λv t ⟨Z,ab⟩=>by simp only [mP,h.rt v t Z,ab,auv]
 gx:=
  λx v t hx=>by
  unfold mP at hx;split at hx
  ·rename_i v0 t0 hd;split at hx
   ·rename_i hp;cases hx;exact⟨(h.gx _ _ _ hd).1,(h.gx _ _ _ hd).2,hp⟩
   ·cases hx
  ·cases hx
 db:=λx f hx=>by
  unfold mP at hx;split at hx
  ·split at hx
   ·cases hx
   ·cases hx;exact he
  ·rename_i b4 hd;cases hx;exact h.db _ _ hd
def iP{α:Type}(E:α→aux)(l:List α):aux:=(l.map E).flatten
def BL{α:Type}(E:α→aux)(v:α)(l:List α):iP E (v::l)=E v++iP E l:=rfl
def aoL{α:Type}(E:α→aux):iP E []=[]:=rfl
def hA{α:Type}(D:eB α):Nat→eB (List α)
 | 0,x=>.ok ([],x)
 |n+1,x=>match D x with
  |.ok (v,t)=>match hA D n t with
   |.ok (l,u)=>.ok (v::l,u)
   |.error e=>.error e
  |.error e=>.error e
def el.rep{α:Type}{D:eB α}{E:α→aux}{ok:α→Prop}(h:el D E ok):∀n,el (hA D n) (iP E) (λl=>l.length=n∧∀v∈l,ok v)
 | 0=>{
  rt:=λv t ⟨Z,_⟩=>by
   obtain rfl:=List.eq_nil_of_length_eq_zero Z;rfl
  gx:=λx v t hx=>by cases hx;exact⟨rfl,rfl,λv av=>by cases av⟩
  db:=λx e hx=>by cases hx}
 |n+1=>{
  rt:=λv t ⟨Z,ab⟩=>by
   cases v with
   |nil=>simp at Z
   |cons a l=>
    have aj:=h.rt a (iP E l++t) (ab a (by simp))
    have aC:=(el.rep h n).rt l t ⟨by simpa using Z,λv av=>ab v (by simp [av])⟩
    simp only [hA,BL,List.append_assoc,aj,aC]
  gx:=
   λx v t hx=>by
   unfold hA at hx;split at hx
   ·rename_i v0 t0 hd;split at hx
    ·rename_i l0 oq hk;cases hx;obtain⟨aj,aC⟩:=h.gx _ _ _ hd;obtain⟨aT,bP,cM⟩:=(el.rep h n).gx _ _ _ hk;refine⟨by rw [aj,aT,BL,List.append_assoc],by simp [bP],λv av=>?_⟩
     rcases List.mem_cons.1 av with rfl|av
     ·exact aC
     ·exact cM v av
    ·cases hx
   ·cases hx
  db:=λx e hx=>by
   unfold hA at hx;split at hx
   ·split at hx
    ·cases hx
    ·rename_i b4 hk;cases hx;exact(el.rep h n).db _ _ hk
   ·rename_i b4 hd;cases hx;exact h.db _ _ hd}
def mQ:Nat→eB Nat
 | 0,_=>.error 5
 |_+1,[]=>.error 6
 |k+1,c::t=>if k=0∧1<c.toNat∨c.toNat=0∧k<9 then .error 5 else if c.toNat<128 then .ok (c.toNat,t)else match mQ k t with
  |.ok (u,t)=>.ok (c.toNat % 128+128*u,t)
  |.error e=>.error e
def rY:eB Nat:=mQ 10
def acD:∀(k u:Nat) (t:aux),u<2 ^ (7*k+1)→(k<9→0<u)→mQ (k+1) (e_ u++t) = .ok (u,t)
 |k,u,t,h,h0=>by
  rw [e_];by_cases hu:u<128
  ·rw [if_pos hu];have e:(UInt8.ofNat u).toNat=u:=by simp only [UInt8.toNat_ofNat'];omega
   simp only [List.singleton_append,mQ,e];rw [if_neg,if_pos hu];intro bn;rcases bn with⟨rfl,ab⟩|⟨Z,ab⟩
   ·simp at h;omega
   ·have:=h0 ab;omega
  ·rw [if_neg hu];have e:(UInt8.ofNat (u % 128+128)).toNat=u % 128+128:=by simp only [UInt8.toNat_ofNat'];omega
   cases k with
   |zero=>simp at h;omega
   |succ k=>
    have:=acD k (u / 128) t (by rw [show 7*(k+1)+1=7*k+1+7 by omega,Nat.pow_add]at h;omega) (λ_=>by omega)
    simp only [List.cons_append,mQ,e]at this ⊢;rw [if_neg (by omega),if_neg (by omega),this]
    simp only
    rw [show(u % 128+128) % 128+128*(u / 128)=u by omega]
def Uu:∀(k:Nat) (x:aux) (u:Nat) (t:aux),k≤9→mQ (k+1) x = .ok (u,t)→x=e_ u++t∧u<2 ^ (7*k+1)∧(k<9→0<u)
 |k,[],u,t,_,h=>by simp [mQ]at h
 |k,c::x,u,t,atN,h=>by
  have hc:=c.toNat_lt;unfold mQ at h;split at h
  ·cases h
  ·rename_i Z;split at h
   ·rename_i ab;cases h;rw [e_,if_pos ab];refine⟨by simp,?_,λen=>by omega⟩
    cases k with
    |zero=>simp;omega
    |succ k=>
     rw [show 7*(k+1)+1=7*k+1+7 by omega,Nat.pow_add]
     have:=Nat.two_pow_pos (7*k+1)
     omega
   ·rename_i ab;split at h
    ·rename_i oq t0 hu;cases h;cases k with
     |zero=>simp [mQ]at hu
     |succ k=>
      obtain⟨aj,aC,aT⟩:=Uu k _ _ _ (by omega) hu
      refine⟨?_,?_,λ_=>?_⟩
      ·have G8:0<oq:=by
        by_cases en:k<9
        ·exact aT en
        ·omega
       rw [e_,if_neg (by omega),aj]
       rw [show(c.toNat % 128+128*oq) / 128=oq by omega,show(c.toNat % 128+128*oq) % 128+128=c.toNat by omega]
       simp
      ·rw [show 7*(k+1)+1=7*k+1+7 by omega,Nat.pow_add]
       generalize 2 ^ (7*k+1)=P at aC ⊢
       omega
      ·by_cases en:k<9
       ·have:=aT en;omega
       ·omega
    ·cases h
def acE:∀(k:Nat) (x:aux) (e:Int),mQ k x = .error e→e=5∨e=6
 | 0,x,e,h=>by cases h;simp
 |k+1,[],e,h=>by cases h;simp
 |k+1,c::x,e,h=>by
  unfold mQ at h;split at h
  ·cases h;simp
  ·split at h
   ·cases h
   ·split at h
    ·cases h
    ·rename_i b4 hu;cases h;exact acE k _ _ hu
def rZ:el rY e_ (λu=>u<18446744073709551616) where
 rt:=λu t h=>acD 9 u t h (by omega)
 gx:=λx u t h=>⟨(Uu 9 x u t (by omega) h).1,(Uu 9 x u t (by omega) h).2.1⟩
 db:=λx e h=>by have:=acE 10 x e h;omega
def ig:eB Int:=fV (λu:Nat=>(u:Int)) rY
def hV(z:Int):Prop:=0≤z∧z<18446744073709551616
def jx(z:Int):aux:=e_ z.toNat
def mR:el ig jx hV:=
 rZ.map _ Int.toNat hV jx (λb h=>by unfold hV at h;exact⟨by omega,by omega,rfl⟩) (λa h=>⟨by omega,by unfold hV;omega⟩)
def BM(u:Nat):Int:=if u % 2=1 then -((u / 2:Nat):Int)-1 else((u / 2:Nat):Int)
def iQ:eB Int:=fV BM rY
def kT:el iQ mO e6:=
 rZ.map _ fold e6 mO (λb h=>⟨by unfold e6 at h;unfold fold BM;split<;>(split<;>omega),Up h,rfl⟩)
  (λa h=>⟨by unfold fold BM;split<;>(split<;>omega),by unfold e6 BM;split<;>omega⟩)
def jf(bK:Nat):eB Nat:=λx=>match rY x with
 |.ok (u,t)=>if bK<u then .error 2 else if t.length<u then .error 6 else .ok (u,t)
 |.error e=>.error e
def pG{bK:Nat}{x t:aux}{u:Nat}(h:jf bK x = .ok (u,t)):x=e_ u++t∧u≤bK∧u≤t.length:=by
 unfold jf at h;split at h
 ·rename_i oq t0 hd;split at h
  ·cases h
  ·split at h
   ·cases h
   ·cases h;exact⟨(rZ.gx _ _ _ hd).1,by omega,by omega⟩
 ·cases h
def oS{bK:Nat}{x:aux}{e:Int}(h:jf bK x = .error e):e≠0:=by
 unfold jf at h;split at h
 ·split at h
  ·cases h;omega
  ·split at h
   ·cases h;omega
   ·cases h
 ·rename_i b4 hd;cases h;exact rZ.db _ _ hd
def acF{bK u:Nat}{t:aux}(h:u≤bK)(Z:bK<18446744073709551616)(ab:u≤t.length):jf bK (e_ u++t) = .ok (u,t):=by
 unfold jf;rw [rZ.rt u t (by omega)]
 simp only
 rw [if_neg (by omega),if_neg (by omega)]
def jy{α:Type}(bK:Nat)(D:eB α):eB (List α):=λx=>match jf bK x with
 |.ok (u,t)=>hA D u t
 |.error e=>.error e
def ea{α:Type}(E:α→aux)(l:List α):aux:=e_ l.length++iP E l
def MD{α:Type}{E:α→aux}:∀{l:List α},(∀v∈l,E v≠[])→l.length≤(iP E l).length
 |[],_=>by simp
 |v::l,h=>by
  have Z:(E v).length≠0:=by simpa using h v (by simp)
  have ab:=MD (E:=E) (l:=l) λw hw=>h w (by simp [hw])
  simp only [BL,auq,aum];omega
def el.vi{α:Type}{D:eB α}{E:α→aux}{ok:α→Prop}(h:el D E ok)(bK:Nat)(hm:bK<18446744073709551616)(di:∀v,ok v→E v≠[]):el (jy bK D) (ea E) (λl=>l.length≤bK∧∀v∈l,ok v) where
 rt:=λl t ⟨Z,ab⟩=>by
  have aj:=MD (E:=E) (l:=l) λv av=>di v (ab v av)
  unfold jy ea;rw [List.append_assoc,acF Z hm (by simp;omega)]
  exact(h.rep l.length).rt l t ⟨rfl,ab⟩
 gx:=λx l t hx=>by
  unfold jy at hx;split at hx
  ·rename_i oq t0 hd;obtain⟨Z,ab,aj⟩:=pG hd;obtain⟨aC,aT,bP⟩:=(h.rep oq).gx _ _ _ hx;subst aT;exact⟨by rw [Z,aC,ea,List.append_assoc],ab,bP⟩
  ·cases hx
 db:=λx e hx=>by
  unfold jy at hx;split at hx
  ·exact(h.rep _).db _ _ hx
  ·rename_i b4 hd;cases hx;exact oS hd
def f9(bK:Nat):eB aux:=λx=>match jf bK x with
 |.ok (u,t)=>.ok (t.take u,t.drop u)
 |.error e=>.error e
def BN(bK:Nat)(hm:bK<18446744073709551616):el (f9 bK) gd (λs=>s.length≤bK) where
 rt:=λs t h=>by
  unfold f9 gd;rw [List.append_assoc,acF h hm (by simp)]
  simp
 gx:=λx s t hx=>by
  unfold f9 at hx;split at hx
  ·rename_i oq t0 hd;obtain⟨Z,ab,aj⟩:=pG hd;cases hx;have:(t0.take oq).length=oq:=by simp;omega
   unfold gd;rw [this];exact⟨by rw [List.append_assoc,List.take_append_drop,Z],by omega⟩
  ·cases hx
 db:=λx e hx=>by
  unfold f9 at hx;split at hx
  ·cases hx
  ·rename_i b4 hd;cases hx;exact oS hd
def r0:eB Bool
 |[]=>.error 6
 |c::t=>if 1<c.toNat then .error 5 else .ok (decide (c.toNat=1),t)
def xY(b:Bool):aux:=if b then[1] else[0]
def Uv:el r0 xY (λ_=>True) where
 rt:=λb t _=>by cases b<;>rfl
 gx:=
  λx b t hx=>by
  cases x with
  |nil=>cases hx
  |cons c x=>
   simp only [r0]at hx;by_cases Z:1<c.toNat
   ·rw [if_pos Z]at hx;cases hx
   ·rw [if_neg Z]at hx;cases hx;refine⟨?_,trivial⟩
    unfold xY;by_cases ab:c.toNat=1
    ·rw [decide_eq_true ab];have:c=1:=UInt8.toNat_inj.1 (by simpa using ab)
     rw [this];rfl
    ·rw [decide_eq_false ab];have:c=0:=UInt8.toNat_inj.1 (by simp;omega)
     rw [this];rfl
 db:=λx e hx=>by
  cases x with
  |nil=>cases hx;omega
  |cons c x=>
   simp only [r0]at hx;by_cases Z:1<c.toNat
   ·rw [if_pos Z]at hx;cases hx;omega
   ·rw [if_neg Z]at hx;cases hx
def qO(u:Nat):e_ u≠[]:=by rw [e_];split<;>simp
def Uw{α:Type}(v:α):eB α:=λx=>.ok (v,x)
def acG{α:Type}(v:α):el (Uw v) (λ_=>[]) (λw=>w=v) where
 rt:=λw t h=>by subst h;rfl
 gx:=λx w t h=>by cases h;exact⟨rfl,rfl⟩
 db:=λx e h=>by cases h
def el.as{α:Type}{D:eB α}{E:α→aux}{ok:α→Prop}(h:el D E ok)(dg:α→aux)(BK:α→Prop)(Z:∀v,BK v↔ok v)(ab:∀v,ok v→dg v=E v):el D dg BK where
 rt:=λv t av=>by rw [ab v ((Z v).1 av)];exact h.rt v t ((Z v).1 av)
 gx:=λx v t hx=>by
  obtain⟨aj,aC⟩:=h.gx x v t hx;exact⟨by rw [ab v aC];exact aj,(Z v).2 aC⟩
 db:=h.db
def nZ(lo hi:Int):eB Int:=mP (λz=>decide (lo≤z)&&decide (z≤hi)) 5 ig
def Ux{lo hi:Int}(h0:0≤lo)(Z:hi<18446744073709551616):el (nZ lo hi) jx (λz=>lo≤z∧z≤hi):=
 (mR.chk _ 5 (by omega)).as _ _ (λv=>by simp only [Bool.and_eq_true,decide_eq_true_eq,hV];omega) (λ_ _=>rfl)
def BO(k:Int):eB bq:=if k=0 then Uw ⟨0,0,[]⟩else if k=1 then fV (λn=>⟨1,n,[]⟩) iQ else if k=2 then mP (λv=>ju v.S) 5 (fV (λs=>⟨2,0,s⟩) (f9 64))else λ_=>.error 5
def mS:eB bq:=fV Prod.snd (dO ig BO)
def qP(v:bq):Prop:=je v=true∧e6 v.N
def acH{s:aux}(h:ju s=true):s.length≤64:=by
 unfold ju at h;simp only [Bool.and_eq_true,decide_eq_true_eq]at h;exact h.2
def xZ{v:bq}(h:je v=true):v=⟨0,0,[]⟩∨(v.Kind=1∧v.S=[])∨(v.Kind=2∧v.N=0∧ju v.S=true):=by
 obtain⟨k,n,s⟩:=v;unfold je at h;simp only at h ⊢
 split at h
 ·rename_i h0;simp only [Bool.and_eq_true,decide_eq_true_eq]at h;obtain⟨rfl,rfl⟩:=h;exact .inl (by rw [h0])
 ·split at h
  ·rename_i Z;exact .inr (.inl ⟨Z,by simpa using h⟩)
  ·simp only [Bool.and_eq_true,decide_eq_true_eq]at h;exact .inr (.inr ⟨h.1.1,h.1.2,h.2⟩)
def tB:el mS bV qP:=by
 have eG:∀k,hV k→el (BO k) (λv=>if k=1 then mO v.N else if k=2 then gd v.S else[]) (λv=>qP v∧v.Kind=k):=by
  intro k hk;unfold BO;by_cases h0:k=0
  ·subst h0;rw [if_pos rfl];refine(acG _).as _ _ (λv=>⟨fun⟨⟨Z,ab⟩,aj⟩=>?_,λh=>?_⟩) (λv _=>?_)
   ·rcases xZ Z with h|h|h
    ·exact h
    ·exact absurd (h.1.symm.trans aj) (by omega)
    ·exact absurd (h.1.symm.trans aj) (by omega)
   ·subst h;exact⟨⟨rfl,by unfold e6;simp⟩,rfl⟩
   ·simp
  ·rw [if_neg h0];by_cases Z:k=1
   ·subst Z;rw [if_pos rfl];refine kT.map _ (λv=>v.N) _ _ (λv ⟨⟨ab,aj⟩,aC⟩=>⟨?_,aj,by simp⟩) (λn hn=>⟨rfl,⟨⟨by simp [je],hn⟩,rfl⟩⟩)
    rcases xZ ab with h|h|h
    ·rw [h]at aC;exact absurd aC (by simp)
    ·obtain⟨a,b,c⟩:=v;simp only at h aC ⊢;rw [aC,h.2]
    ·exact absurd (h.1.symm.trans aC) (by omega)
   ·rw [if_neg Z];by_cases ab:k=2
    ·subst ab;rw [if_pos rfl];refine(((BN 64 (by omega)).map (λs=>(⟨2,0,s⟩:bq)) (λv=>v.S) (λv=>v.Kind=2∧v.N=0∧v.S.length≤64) (λv=>gd v.S) (λv ⟨aj,aC,aT⟩=>⟨?_,aT,rfl⟩) (λs hs=>⟨rfl,rfl,rfl,hs⟩)).chk _ 5 (by omega)).as _ _ (λv=>⟨fun⟨⟨aj,aC⟩,aT⟩=>?_,fun⟨⟨aj,aC,aT⟩,bP⟩=>?_⟩) (λv _=>by simp)
     ·obtain⟨a,b,c⟩:=v;simp only at aj aC ⊢;rw [aj,aC]
     ·rcases xZ aj with h|h|h
      ·rw [h]at aT;exact absurd aT (by simp)
      ·exact absurd (h.1.symm.trans aT) (by omega)
      ·exact⟨⟨h.1,h.2.1,acH h.2.2⟩,h.2.2⟩
     ·refine⟨⟨?_,by rw [aC];unfold e6;omega⟩,aj⟩
      unfold je;rw [aj,aC];simp [bP]
    ·rw [if_neg ab]
     exact {
      rt:=λv t ⟨⟨aj,aC⟩,aT⟩=>by
       exfalso
       rcases xZ aj with h|h|h
       ·rw [h]at aT;exact h0 aT.symm
       ·exact Z (aT.symm.trans h.1)
       ·exact ab (aT.symm.trans h.1)
      gx:=λx v t h=>by cases h
      db:=λx e h=>by cases h;omega}
 refine(mR.dep eG).map Prod.snd (λv=>(v.Kind,v)) qP bV (λv av=>⟨rfl,⟨?_,av,rfl⟩,?_⟩) (fun⟨k,v⟩ ⟨Z,ab,aj⟩=>⟨congrArg (·,v) aj,ab⟩)
 ·rcases xZ av.1 with h|h|h
  ·rw [h];unfold hV;simp
  ·unfold hV;rw [h.1];omega
  ·unfold hV;rw [h.1];omega
 ·unfold bV jx;rcases xZ av.1 with h|h|h
  ·rw [h];simp
  ·simp only [h.1];rfl
  ·simp only [h.1];rfl
def aoM(v:bq):bV v≠[]:=by
 unfold bV;split
 ·simp [qO]
 ·split
  ·simp [qO]
  ·exact qO _
def res{α:Type}(z:α)(s:aux):Except Int (α×aux)→α×Int×Int
 |.ok (v,t)=>(v,((s.length-t.length:Nat):Int),0)
 |.error e=>(z,0,e)
def bu(s t:aux):Int:=((s.length-t.length:Nat):Int)
def Gj(p t:aux):bu (p++t) t=(p.length:Int):=by unfold bu;simp
def aoN(s:aux):bu s s=0:=by unfold bu;simp
def hh{α:Type}{z:α}{s t:aux}{v:α}:res z s (.ok (v,t))=(v,bu s t,0):=rfl
def fH{α:Type}{z:α}{s:aux}{e:Int}:res z s (.error e)=(z,0,e):=rfl
def Uy{α β:Type}{Gh:β}{s:aux}{f:α→β}{D:eB α}{t:aux}:res Gh s (fV f D t)=match D t with|.ok (v,t)=>(f v,bu s t,0)|.error e=>(Gh,0,e):=by
 unfold fV;cases D t<;>rfl
def acI(p x:aux)(i:Nat):(p++x).getD (p.length+i) 0=x.getD i 0:=by
 simp [List.getD_eq_getElem?_getD,List.getElem?_append_right]
def aoO:∀x:Nat,x<256→pT .u8 (x:Int) 127=((x % 128:Nat):Int):=by decide +kernel
def aoP{a b i:Nat}(h:a<2 ^ i)(hb:a+2 ^ i*b<18446744073709551616):qY .u64 (a:Int) ((2 ^ i*b:Nat):Int)=((a+2 ^ i*b:Nat):Int):=by
 unfold qY
 have e:((BitVec.ofInt (IntKind.bits .u64) (a:Int) |||BitVec.ofInt (IntKind.bits .u64) ((2 ^ i*b:Nat):Int)).toNat)=a+2 ^ i*b:=by
  rw [BitVec.toNat_or,BitVec.toNat_ofInt,BitVec.toNat_ofInt];simp only [IntKind.bits];rw [show(((a:Int) % ((2 ^ 64:Nat):Int)).toNat)=a by omega,show((((2 ^ i*b:Nat):Int) % ((2 ^ 64:Nat):Int)).toNat)=2 ^ i*b by omega]
  rw [Nat.or_comm,←Nat.two_pow_add_eq_or_of_lt h,Nat.add_comm]
 rw [e,rW hb]
def aoQ{c i:Nat}(hi:i≤63)(h:2 ^ i*c<18446744073709551616):o1 .u64 (c:Int) (i:Int)=((2 ^ i*c:Nat):Int):=by
 unfold o1
 (simp only [auo];rw [show min i (IntKind.bits .u64)=i by simp only [IntKind.bits];omega,show(c:Int)*2 ^ i=((2 ^ i*c:Nat):Int)by rw [Nat.mul_comm];norm_cast,rW h])
def aoR{i c:Nat}(hi:i≤9)(hc:c<128)(en:i=9→c≤1):2 ^ (7*i)*c<18446744073709551616∧∀a,a<2 ^ (7*i)→a+2 ^ (7*i)*c<18446744073709551616:=by
 have h:i=0∨i=1∨i=2∨i=3∨i=4∨i=5∨i=6∨i=7∨i=8∨i=9:=by omega
 rcases h with h|h|h|h|h|h|h|h|h|h<;>subst h<;>simp only [Nat.reduceMul,Nat.reducePow]<;>(try have:=en rfl)<;>exact⟨by omega,λa ha=>by omega⟩
def BP{i:Nat}(h:i≤9223372036854775807):auz (i:Int)=(i:Int):=by rw [wr]<;>omega
def aoS(n a:Nat):∀(k m i:Nat) (x pre:aux) (acc:Nat),i+k=10→pre.length=a+i→acc<2 ^ (7*i)→k<m→(pre++x).length≤4611686018427387904→
 D2 n (pre++x) (a:Int) m (i:Int) (acc:Int)=some (match mQ k x with|.ok (u,t)=>(((acc+2 ^ (7*i)*u:Nat):Int),bu (pre++x) t,0)|.error e=>(0,0,e)):=by
 intro k;induction k with
 |zero=>
  intro m i x pre acc hi hp ha hm aa;obtain⟨m,rfl⟩:∃j,m=j+1:=⟨m-1,by omega⟩
  obtain rfl:i=10:=by omega
  rfl
 |succ k aG=>
  intro m i x pre acc hi hp ha hm aa;obtain⟨m,rfl⟩:∃j,m=j+1:=⟨m-1,by omega⟩
  have atO:(pre++x).length=pre.length+x.length:=List.length_append;have e1:auz ((a:Int)+(i:Int))=((pre.length:Nat):Int):=by rw [wr]<;>omega
  have aoT:i≤9:=by omega
  simp only [D2,QG,e1];rw [show(decide ((i:Int)<10))=true from decide_eq_true (by omega)]
  simp only [aui];cases x with
  |nil=>
   simp only [List.append_nil,Int.le_refl,aug,aui,mQ]
  |cons c x=>
   have hlen:(pre++c::x).length=pre.length+(x.length+1):=by simp
   have hg:(pre++c::x).getD pre.length 0=c:=by
    have:=acI pre (c::x) 0
    simpa using this
   have hc:=c.toNat_lt;rw [show(decide ((((pre++c::x).length:Nat):Int)≤((pre.length:Nat):Int)))=false from decide_eq_false (by omega)]
   simp only [auj,bw (show pre.length<(pre++c::x).length by omega),aK,auo,hg]
   have e2:auz (7*(i:Int))=((7*i:Nat):Int):=by rw [wr]<;>omega
   have e3:auz (((pre.length:Nat):Int)+1)=((pre.length+1:Nat):Int):=bm (by omega)
   have gG:auz ((i:Int)+1)=((i+1:Nat):Int):=bm (by omega)
   have mt:bu (pre++c::x) x=((pre.length+1:Nat):Int):=by
    have:=Gj (pre++[c]) x
    simpa using this
   unfold mQ;by_cases acJ:k=0∧1<c.toNat∨c.toNat=0∧k<9
   ·rw [if_pos acJ,show(bif (bif (decide ((i:Int)=9)) then(decide (1<((c.toNat:Nat):Int)))else false)then true else(bif (decide (((c.toNat:Nat):Int)=0)) then(decide (0<(i:Int)))else false))=true by
     rw [dv,eg,eg,←Bool.decide_and,←Bool.decide_and,←Bool.decide_or];exact decide_eq_true (by omega)]
    rfl
   ·rw [if_neg acJ,show(bif (bif (decide ((i:Int)=9)) then(decide (1<((c.toNat:Nat):Int)))else false)then true else(bif (decide (((c.toNat:Nat):Int)=0)) then(decide (0<(i:Int)))else false))=false by
     rw [dv,eg,eg,←Bool.decide_and,←Bool.decide_and,←Bool.decide_or];exact decide_eq_false (by omega)]
    have hb:=aoR (c:=c.toNat % 128) aoT (by omega) (by omega)
    have vh:qY .u64 (acc:Int) (o1 .u64 (IntKind.u64.wrap (pT .u8 ((c.toNat:Nat):Int) 127)) (auz (7*(i:Int))))=((acc+2 ^ (7*i)*(c.toNat % 128):Nat):Int):=by
     rw [aoO _ hc,rW (by omega),e2,aoQ (by omega) hb.1,aoP ha (hb.2 acc ha)]
    simp only [auj,vh,e3,gG];rw [e2,show od ((7*i:Nat):Int)=true by simp only [od,decide_eq_true_eq];omega,aK]
    by_cases hs:c.toNat<128
    ·rw [if_pos hs,show(decide (((c.toNat:Nat):Int)<128))=true from decide_eq_true (by omega)]
     simp only [aui,mt,Nat.mod_eq_of_lt hs]
    ·rw [if_neg hs,show(decide (((c.toNat:Nat):Int)<128))=false from decide_eq_false (by omega)]
     have yI:2 ^ (7*(i+1))=2 ^ (7*i)*128:=by rw [show 7*(i+1)=7*i+7 by omega,Nat.pow_add]
     have pz:=aG m (i+1) x (pre++[c]) (acc+2 ^ (7*i)*(c.toNat % 128)) (by omega) (by simp;omega) (by
      rw [yI];have Z:2 ^ (7*i)*(c.toNat % 128)≤2 ^ (7*i)*127:=Nat.mul_le_mul_left _ (by omega)
      omega) (by omega) (by simp at aa ⊢;omega)
     rw [show pre++[c]++x=pre++c::x by simp]at pz
     simp only [auj];rw [pz]
     congr 1
     cases mQ k x with
     |error e=>rfl
     |ok r=>
      obtain⟨u,t⟩:=r;simp only
      rw [yI,Nat.mul_add,Nat.mul_assoc,Nat.add_assoc]
def acK{n:Nat}{s t:aux}(h:t <:+ s):D1 n s (bu s t)=some false:=by
 unfold D1 bu;have:=h.length_le
 rw [decide_eq_false (by omega),decide_eq_false (by omega)];rfl
def BQ{n:Nat}{s t:aux}(aF:t <:+ s)(hs:s.length≤4611686018427387904)(hn:12≤n):sV n s (bu s t)=some (res 0 s (ig t)):=by
 unfold sV;rw [acK (n:=n) aF];obtain⟨pre,rfl⟩:=aF;rw [Gj,ak,auj];refine(aoS n pre.length 10 n 0 t pre 0 (by omega) (by omega) (by simp) (by omega) hs).trans (congrArg some ?_)
 unfold ig rY;rw [Uy];cases mQ 10 t with
 |error e=>rfl
 |ok r=>obtain⟨u,bS⟩:=r;simp
def gK{e:Int}(h:e≠0):(!decide (e=0))=true:=by simp [h]
def acL{t bS:aux}{u:Nat}(h:rY t = .ok (u,bS)):ig t = .ok ((u:Int),bS):=by simp only [ig,fV,h]
def acM{t:aux}{e:Int}(h:rY t = .error e):ig t = .error e:=by simp only [ig,fV,h]
def aoU{u:Nat}(h:u<18446744073709551616):pT .u64 (u:Int) 1=((u % 2:Nat):Int):=by
 unfold pT
 have e:((BitVec.ofInt (IntKind.bits .u64) (u:Int) &&& BitVec.ofInt (IntKind.bits .u64) 1).toNat)=u % 2:=by
  rw [BitVec.toNat_and,BitVec.toNat_ofInt,BitVec.toNat_ofInt];simp only [IntKind.bits];rw [show(((u:Int) % ((2 ^ 64:Nat):Int)).toNat)=u by omega,show(((1:Int) % ((2 ^ 64:Nat):Int)).toNat)=1 by decide,Nat.and_one_is_mod]
 rw [e,rW (by omega)]
def aoV{u:Nat}:nq .u64 (u:Int) 1=((u / 2:Nat):Int):=by
 unfold nq;rw [show min (1:Int).toNat (IntKind.bits .u64)=1 by decide,Int.fdiv_eq_ediv_of_nonneg _ (by omega)]
 omega
def aoW{a:Nat}(h:a<9223372036854775808):mU .i64 (a:Int) 0=(a:Int):=by
 unfold mU;rw [show BitVec.ofInt (IntKind.bits .i64) 0=0#_ from rfl,BitVec.xor_zero]
 rw [show((BitVec.ofInt (IntKind.bits .i64) (a:Int)).toNat:Int)=(a:Int) by
  rw [BitVec.toNat_ofInt];simp only [IntKind.bits];omega]
 exact BP (by omega)
def aoX{a:Nat}(h:a<9223372036854775808):mU .i64 (a:Int) (-1) = -(a:Int)-1:=by
 unfold mU;rw [show BitVec.ofInt (IntKind.bits .i64) (-1)=BitVec.allOnes _ by decide,BitVec.xor_allOnes]
 rw [show((~~~ BitVec.ofInt (IntKind.bits .i64) (a:Int)).toNat:Int)=((18446744073709551615-a:Nat):Int) by
  rw [BitVec.toNat_not,BitVec.toNat_ofInt];simp only [IntKind.bits];omega]
 (try unfold auz);rw [IntKind.wrap_i64];omega
def aoY{u:Nat}(h:u<18446744073709551616):mU .i64 (auz (nq .u64 (u:Int) 1)) (auz (0-(auz (pT .u64 (u:Int) 1))))=BM u:=by
 rw [aoV,aoU h,BP (i:=u / 2) (by omega),BP (i:=u % 2) (by omega)]
 unfold BM;by_cases ab:u % 2=1
 ·rw [if_pos ab,ab,show auz (0-((1:Nat):Int)) = -1 by decide,aoX (by omega)]
 ·rw [if_neg ab,show u % 2=0 by omega,show auz (0-((0:Nat):Int))=0 by decide,aoW (by omega)]
def Uz{n:Nat}{s t:aux}(aF:t <:+ s)(hs:s.length≤4611686018427387904)(hn:12≤n):zF n s (bu s t)=some (res 0 s (iQ t)):=by
 unfold zF iQ fV;rw [BQ aF hs hn,ak];cases h:rY t with
 |error e=>
  rw [acM h,fH];simp only [gK (rZ.db _ _ h),aui,fH]
 |ok r=>
  obtain⟨u,bS⟩:=r;rw [acL h,hh];simp only [aug,auk,auj,aoY (rZ.gx _ _ _ h).2,hh]
def qQ(bK:Nat):eB Int:=fV (λu:Nat=>(u:Int)) (jf bK)
def aoZ{s t:aux}(aF:t <:+ s)(hs:s.length≤4611686018427387904):IntKind.u64.wrap (auz (((s.length:Nat):Int)-bu s t))=((t.length:Nat):Int):=by
 have:=aF.length_le
 unfold bu;rw [wr (by omega) (by omega),IntKind.wrap_u64];omega
def ao0{t bS:aux}{u:Nat}(h:rY t = .ok (u,bS)):bS <:+ t:=rZ.lR h
def ao1{n bK:Nat}{s t:aux}(aF:t <:+ s)(hs:s.length≤4611686018427387904)(hm:bK<9223372036854775808)(r:Int×Int×Int)(ai:r=res 0 s (ig t)):
 (bif (!decide (r.2.2=0))then some ((0:Int),(0:Int),r.2.2) else(bif (bif (decide ((bK:Int)<0))then true else(decide ((IntKind.u64.wrap (bK:Int))<r.1)))then some (0,0,2) else(bif (decide ((IntKind.u64.wrap (auz (((s.length:Nat):Int)-r.2.1)))<r.1))then some (0,0,6)else some ((auz r.1),r.2.1,0))))=some (res 0 s (qQ bK t)):=by
 subst ai;unfold qQ;rw [Uy];unfold jf;cases h:rY t with
 |error e=>
  rw [acM h,fH];simp only [gK (rZ.db _ _ h),aui]
 |ok r=>
  obtain⟨u,bS⟩:=r;have hu:=(rZ.gx _ _ _ h).2;have eM:bS <:+ s:=(ao0 h).trans aF;have aa:=eM.length_le;rw [acL h,hh];simp only [aug,auk,auj,aoZ eM hs,rW (show bK<18446744073709551616 by omega),show¬ ((bK:Int)<0)by omega,auh,aup]
  by_cases Z:bK<u
  ·simp only [Z,aug,aui,auv]
  ·by_cases ab:bS.length<u
   ·simp only [Z,ab,aug,auh,aui,auj,auv,auw]
   ·simp only [Z,ab,auh,auj,auw,BP (show u≤9223372036854775807 by omega)]
def vj{n bK:Nat}{s t:aux}(aF:t <:+ s)(hs:s.length≤4611686018427387904)(hm:bK<9223372036854775808)(hn:12≤n):qk n s (bu s t) (bK:Int)=some (res 0 s (qQ bK t)):=by
 unfold qk;rw [BQ aF hs hn,ak];exact ao1 (n:=n) aF hs hm _ rfl
def r4{bK u:Nat}{t bS:aux}(h:jf bK t = .ok (u,bS)):qQ bK t = .ok ((u:Int),bS):=by simp only [qQ,fV,h]
def r5{bK:Nat}{t:aux}{e:Int}(h:jf bK t = .error e):qQ bK t = .error e:=by simp only [qQ,fV,h]
def ao2{s t:aux}{u:Nat}(aF:t <:+ s)(hs:s.length≤4611686018427387904)(hu:u≤t.length):
 auz (bu s t+(u:Int))=bu s (t.drop u)∧lW (bu s t) (bu s (t.drop u)) s.length=true∧(s.take (bu s (t.drop u)).toNat).drop (bu s t).toNat=t.take u:=by
 have aa:=aF.length_le;have e:bu s (t.drop u)=bu s t+(u:Int):=by unfold bu;simp;omega
 refine⟨?_,?_,?_⟩
 ·rw [e];unfold bu;rw [wr]<;>omega
 ·rw [e];unfold bu lW;simp;omega
 ·rw [e];obtain⟨pre,rfl⟩:=aF
  (rw [Gj,show(((pre.length:Nat):Int)+(u:Int)).toNat=pre.length+u by omega];simp only [auo];rw [List.drop_take])
  simp
def Gk{n bK:Nat}{s t:aux}(aF:t <:+ s)(hs:s.length≤4611686018427387904)(hm:bK<9223372036854775808)(hn:12≤n):uz n s (bu s t) (bK:Int)=some (res [] s (f9 bK t)):=by
 unfold uz f9;rw [vj aF hs hm hn,ak];cases h:jf bK t with
 |error e=>
  rw [r5 h,fH];simp only [gK (oS h),aui,fH]
 |ok r=>
  obtain⟨u,bS⟩:=r;obtain⟨Z,ab,aj⟩:=pG h;have eM:bS <:+ s:=List.IsSuffix.trans ⟨e_ u,Z.symm⟩ aF;obtain⟨g1,g2,g3⟩:=ao2 eM hs aj;rw [r4 h,hh];simp only [aug,auk,auj,g1,g2,g3,aK,hh]
def ao3{n:Nat}{s t:aux}(aF:t <:+ s)(hs:s.length≤4611686018427387904):
 (bif (decide (bu s t=((s.length:Nat):Int)))then some (false,(0:Int),(6:Int)) else(ax (aL (bu s t) s.length)<|bif (decide (1<(((s.getD (bu s t).toNat 0).toNat:Nat):Int)))then some (false,0,5) else(ax (aL (bu s t) s.length)<|some ((decide ((((s.getD (bu s t).toNat 0).toNat:Nat):Int)=1)),(auz (bu s t+1)),0))))=some (res false s (r0 t)):=by
 obtain⟨pre,rfl⟩:=aF;rw [Gj];cases t with
 |nil=>simp [r0,res]
 |cons c t=>
  have hg:(pre++c::t).getD pre.length 0=c:=by
   have:=acI pre (c::t) 0
   simpa using this
  have hlen:(pre++c::t).length=pre.length+(t.length+1):=by simp
  have e3:auz (((pre.length:Nat):Int)+1)=((pre.length+1:Nat):Int):=bm (by omega)
  have mt:bu (pre++c::t) t=((pre.length+1:Nat):Int):=by
   have:=Gj (pre++[c]) t
   simpa using this
  rw [show decide (((pre.length:Nat):Int)=(((pre++c::t).length:Nat):Int))=false from decide_eq_false (by omega)]
  simp only [auj,bw (show pre.length<(pre++c::t).length by omega),aK,auo,hg,e3,eO,fs,r0]
  by_cases h:1<c.toNat
  ·simp only [h,aug,aui,auv,fH]
  ·simp only [h,auh,auj,auw,hh,mt]
def ao4{n:Nat}{s t:aux}(aF:t <:+ s)(hs:s.length≤4611686018427387904):Jf n s (bu s t)=some (res false s (r0 t)):=by
 unfold Jf;rw [acK aF,ak,auj];exact ao3 (n:=n) aF hs
def ao5(t:aux):mS t=match ig t with|.ok (k,bS)=>BO k bS|.error e=>.error e:=by
 unfold mS fV dO;cases ig t with
 |error e=>rfl
 |ok r=>
  obtain⟨k,bS⟩:=r;simp only
  cases BO k bS with
  |error e=>rfl
  |ok r=>rfl
def jg{α:Type}{D:eB α}{E:α→aux}{ok:α→Prop}(h:el D E ok){s x:aux}{v:α}{t:aux}(hx:D x = .ok (v,t))(hs:x <:+ s):t <:+ s:=(h.lR hx).trans hs
def acN:el (f9 64) gd (λs=>s.length≤64):=BN 64 (by omega)
def n0:el (f9 24) gd (λs=>s.length≤24):=BN 24 (by omega)
def UA{n:Nat}{s t:aux}(aF:t <:+ s)(hs:s.length≤4611686018427387904)(hn:70≤n):zG n s (bu s t)=some (res ⟨0,0,[]⟩ s (mS t)):=by
 unfold zG;rw [BQ aF hs (by omega),ak,ao5]
 cases h:ig t with
 |error e=>rw [fH];simp only [gK (mR.db _ _ h),aui,fH]
 |ok r=>
  obtain⟨k,bS⟩:=r;have eM:=jg mR h aF;rw [hh];simp only [aug,auk,auj];unfold BO;by_cases h0:k=0
  ·subst h0;rfl
  ·by_cases Z:k=1
   ·subst Z;simp only [show¬ (1:Int)=0 by omega,auh,auj,aug,aui,auw,auv]
    rw [Uz eM hs (by omega),ak,Uy]
    cases ab:iQ bS with
    |error e=>rw [fH];simp only [gK (kT.db _ _ ab),aui]
    |ok r=>obtain⟨x,nl⟩:=r;rw [hh];simp only [aug,auk,auj,QF,ak]
   ·by_cases ab:k=2
    ·subst ab;simp only [show¬ (2:Int)=0 by omega,show¬ (2:Int)=1 by omega,auh,auj,aug,aui,auw,auv]
     rw [show(64:Int)=((64:Nat):Int)from rfl,Gk eM hs (by omega) (by omega),ak]
     unfold mP fV;cases aj:f9 64 bS with
     |error e=>rw [fH];simp only [show¬ e=0 from acN.db _ _ aj,auh,auj,ak,D3,aul,aui,fH]
     |ok r=>
      obtain⟨x,nl⟩:=r;have hx:=(acN.gx _ _ _ aj).2;rw [hh];simp only [aug,aui,acw (show x.length<n by omega) (by omega),ak,D3]
      cases ju x<;>rfl
    ·simp only [h0,Z,ab,auh,auj,auw,fH]
def ao6{α β R:Type}{D:eB α}{s:aux}{u:Nat}{f:Nat→α→β}{L:Nat→Nat→aux→List β→Option R}{fin:List β→aux→Option R}{bad:Int→Option R}
 (lR:∀x v t,D x = .ok (v,t)→t <:+ x)
 (step:∀m i t acc,i<u→acc.length=i→t <:+ s→L (m+1) i t acc=match D t with|.ok (v,bS)=>L m (i+1) bS (acc++[f i v])|.error e=>bad e)
 (stop:∀m t acc,acc.length=u→t <:+ s→L (m+1) u t acc=fin acc t):
 ∀k m i t acc,i+k=u→k<m→acc.length=i→t <:+ s→L m i t acc=match hA D k t with|.ok (l,bS)=>fin (acc++(l.zipIdx i).map λp=>f p.2 p.1) bS|.error e=>bad e:=by
 intro k;induction k with
 |zero=>
  intro m i t acc hi hm ha aF;obtain⟨m,rfl⟩:∃j,m=j+1:=⟨m-1,by omega⟩
  obtain rfl:i=u:=by omega
  rw [stop m t acc ha aF];simp [hA]
 |succ k aG=>
  intro m i t acc hi hm ha aF;obtain⟨m,rfl⟩:∃j,m=j+1:=⟨m-1,by omega⟩
  rw [step m i t acc (by omega) ha aF]
  unfold hA;cases h:D t with
  |error e=>rfl
  |ok r=>
   obtain⟨v,bS⟩:=r;simp only
   rw [aG m (i+1) bS (acc++[f i v]) (by omega) (by omega) (by simp [ha]) ((lR _ _ _ h).trans aF)]
   cases hA D k bS with
   |error e=>rfl
   |ok r=>obtain⟨l,nl⟩:=r;simp
def acO{α R:Type}{D:eB α}{s:aux}{u:Nat}{L:Nat→Nat→aux→List α→Option R}{fin:List α→aux→Option R}{bad:Int→Option R}
 (lR:∀x v t,D x = .ok (v,t)→t <:+ x)
 (step:∀m i t acc,i<u→acc.length=i→t <:+ s→L (m+1) i t acc=match D t with|.ok (v,bS)=>L m (i+1) bS (acc++[v])|.error e=>bad e)
 (stop:∀m t acc,acc.length=u→t <:+ s→L (m+1) u t acc=fin acc t) {m:Nat} (hm:u<m) {t:aux} (aF:t <:+ s):
 L m 0 t []=match hA D u t with|.ok (l,bS)=>fin l bS|.error e=>bad e:=by
 have:=ao6 (f:=λ_ v=>v) (L:=L) lR step stop u m 0 t [] (by omega) hm rfl aF
 rw [this];cases hA D u t with
 |error e=>rfl
 |ok r=>
  obtain⟨l,bS⟩:=r;have e:((l.zipIdx 0).map λp:α×Nat=>p.1)=l:=by rw [List.zipIdx_map_fst]
  simp only [List.nil_append];rw [e]
def vk:∀a b:aux,(!Op.bytesLess a b)=(Op.bytesLess b a||decide (b=a))
 |[],[]=>rfl
 |[],b::y=>rfl
 |a::x,[]=>rfl
 |a::x,b::y=>by
  simp only [Op.bytesLess,vk x y,Bool.not_or,Bool.not_and];rcases Nat.lt_trichotomy a.toNat b.toNat with h|h|h
  ·have Z:a<b:=h;have ab:¬ b<a:=by show¬ b.toNat<a.toNat;omega
   have aj:a≠b:=by intro e;subst e;omega
   simp [Z,ab,Ne.symm aj]
  ·obtain rfl:a=b:=UInt8.toNat_inj.1 h;simp
  ·have Z:b<a:=h;have ab:¬ a<b:=by show¬ a.toNat<b.toNat;omega
   have aj:a≠b:=by intro e;subst e;omega
   simp [Z,ab,aj]
def acP:∀a b c:aux,Op.bytesLess a b=true→Op.bytesLess b c=true→Op.bytesLess a c=true
 |_,[],_,h,_=>by simp [Op.bytesLess]at h
 |_,b::y,[],_,h=>by simp [Op.bytesLess]at h
 |[],b::y,c::z,_,_=>rfl
 |a::x,b::y,c::z,Z,ab=>by
  simp only [Op.bytesLess,Bool.or_eq_true,Bool.and_eq_true,decide_eq_true_eq,beq_iff_eq]at Z ab ⊢;rcases Z with Z|⟨rfl,Z⟩
  ·rcases ab with ab|⟨rfl,ab⟩
   ·left;show a.toNat<c.toNat;have aj:a.toNat<b.toNat:=Z;have aC:b.toNat<c.toNat:=ab;omega
   ·exact .inl Z
  ·rcases ab with ab|⟨rfl,ab⟩
   ·exact .inl ab
   ·exact .inr ⟨rfl,acP x y z Z ab⟩
def iR{β:Type}{c k:Bool}{x y:β}(h:c = !k):(bif c then x else y)=if k then y else x:=by subst h;cases k<;>rfl
def md{i len:Nat}{b:Bool}(hi:i<len)(aa:len≤1000000000):(b||(!(decide (0<(i:Int)))||aL (auz ((i:Int)-1)) len))=true:=by
 cases i with
 |zero=>simp
 |succ i=>
  rw [show((i+1:Nat):Int)-1=(i:Int)by omega,BP (by omega),bw (by omega)];simp
def BR{i len:Nat}{b c:Bool}(hi:i<len):(b||(c||aL (i:Int) len))=true:=by rw [bw hi];simp
def ao7{i len:Nat}{b:Bool}(hi:i<len):(b||aL (i:Int) len)=true:=by rw [bw hi];simp
def allI(len:Nat)(chk:Nat→Bool):Bool:=(List.range len).all chk
def ih{len:Nat}{chk:Nat→Bool}:allI len chk=true↔∀i,i<len→chk i=true:=by
 unfold allI;simp
def me(b:Bool):(if b then true else false)=b:=by cases b<;>rfl
def r6(b c:Bool):(if b then c else false)=(b&&c):=by cases b<;>rfl
def h6{β:Type}{L:Nat→Int→Option β}{len:Nat}{chk:Nat→Bool}{no yes:β}{m:Nat}(hm:len<m)
 (step:∀m i,i<len→L (m+1) (i:Int)=if chk i then L m ((i+1:Nat):Int)else some no) (stop:∀m,L (m+1) (len:Int)=some yes):
 L m 0=some (if allI len chk then yes else no):=Ur hm step stop
abbrev pv(i:Nat):Nat:=(auz ((i:Int)-1)).toNat
def UB(i:Nat)(h:i≤1000000000):pv (i+1)=i:=by
 unfold pv;(rw [show((i+1:Nat):Int)-1=(i:Int)by omega,BP (by omega)];simp only [auo])
def ao8(len:Nat)(a b:Nat→Bool):(allI len λi=>a i&&b i)=(allI len a&&allI len b):=by
 rw [Bool.eq_iff_iff];simp only [ih,Bool.and_eq_true];exact⟨λh=>⟨λi hi=>(h i hi).1,λi hi=>(h i hi).2⟩,λh i hi=>⟨h.1 i hi,h.2 i hi⟩⟩
def ao9{L:Nat→Int→auC}{len:Nat}{p:Nat→Bool}
 (step:∀m i,i<len→L (m+1) (i:Int)=if p i then some (i:Int)else L m ((i+1:Nat):Int)) (stop:∀m,L (m+1) (len:Int)=some (-1)):
 ∀m i,len<i+m→i≤len→∃r,L m (i:Int)=some r∧decide (0≤r)=(List.range' i (len-i)).any p:=by
 intro m;induction m with
 |zero=>intro i h ab;omega
 |succ m aG=>
  intro i h ab;by_cases hi:i<len
  ·rw [step m i hi,show len-i=(len-(i+1))+1 by omega,List.range'_succ,List.any_cons]
   cases hp:p i
   ·obtain⟨r,aj,aC⟩:=aG (i+1) (by omega) (by omega)
    exact⟨r,by rw [if_neg (by simp)];exact aj,by rw [aC];simp⟩
   ·exact⟨(i:Int),by simp,by simp⟩
  ·obtain rfl:i=len:=by omega
   exact⟨-1,stop m,by simp⟩
def UC{L:Nat→Int→auC}{len:Nat}{p:Nat→Bool}{m:Nat}(hm:len<m)
 (step:∀m i,i<len→L (m+1) (i:Int)=if p i then some (i:Int)else L m ((i+1:Nat):Int)) (stop:∀m,L (m+1) (len:Int)=some (-1)):
 ∃r,L m 0=some r∧decide (0≤r) = !allI len λi=>!p i:=by
 obtain⟨r,Z,ab⟩:=ao9 step stop m 0 (by omega) (by omega)
 refine⟨r,Z,?_⟩
 rw [ab,Nat.sub_zero,←List.range_eq_range'];unfold allI;rw [List.not_all_eq_any_not];simp
section
variable {n:Nat} (hn:2000≤n) (aI:n≤1000000000)
include hn aI
def x0(l:List bo):Bool:=allI l.length λi=>jw (l.getD i default).Key&&je (l.getD i default).br&&(!decide (0<(i:Int))||Op.bytesLess (l.getD (pv i) default).Key (l.getD i default).Key)
def mf(l:List bo):Bool:=x0 l&&allI l.length λi=>!decide ((l.getD i default).br.Kind=0)
def vl(p:bo):Prop:=p.Key.length≤1000∧p.br.S.length≤1000
theorem ao'{l:List bo}(aa:l.length<n)(h:∀i,vl (l.getD i default)):I_ n l=some (x0 l):=by
 unfold I_ x0;rw [h6 (L:=zE n l) (no:=false) (yes:=true) aa,me]
 ·intro m i hi;have Z:=h i;simp only [zE,I',aup,hi,aug,aui,bw hi,aK,ak,auo,bm (show i≤4611686018427387904 by omega),Mz (show 24<n by omega),md hi (show l.length≤1000000000 by omega)]
  rw [show sR n (⟨((l.getD i default).br).Kind,((l.getD i default).br).N,((l.getD i default).br).S⟩:bq)=_ from MB (v:=(l.getD i default).br) (by have:=Z.2;omega) (by have:=Z.2;omega)]
  cases hk:jw (l.getD i default).Key
  ·simp only [aul,auk,auj,aui,ak,Bool.true_or,aK,Bool.false_and];rfl
  ·simp only [aul,auk,auj,aui,ak,md hi (show l.length≤1000000000 by omega),aK,Bool.true_and]
   exact iR (by simp only [dv,eg,Bool.not_and,Bool.not_or,Bool.not_not])
 ·intro m;simp only [zE,I',QE,aut,auh,auj]
theorem acQ{l:List bo}(aa:l.length<n)(h:∀i,vl (l.getD i default)):D0 n l=some (mf l):=by
 unfold D0 QD QC mf;rw [ao' hn aI aa h,ak]
 obtain⟨r,Z,ab⟩:=UC (L:=zD n l) (len:=l.length) (p:=λi=>decide ((l.getD i default).br.Kind=0)) aa (by
  intro m i hi;simp only [zD,I9,QA,aup,hi,aug,aui,bw hi,aK,ak,auo,bm (show i≤4611686018427387904 by omega),aus,auv]) (by
  intro m;simp only [zD,I9,QB,aut,auh,auj])
 rw [Z];simp only [ak,ab];cases x0 l<;>simp
theorem ao_{l:List bo}(aa:l.length<n)(h:∀i,vl (l.getD i default)):Lm n l=some (mf l):=by
 have e1:Li n l=some (allI l.length λi=>jw (l.getD i default).Key&&(!decide (0<(i:Int))||Op.bytesLess (l.getD (pv i) default).Key (l.getD i default).Key)):=by
  unfold Li;rw [h6 (L:=A6 n l) (no:=false) (yes:=true) aa,me]
  ·intro m i hi;have Z:=h i;simp only [A6,Lh,aup,hi,aug,aui,bw hi,aK,ak,auo,bm (show i≤4611686018427387904 by omega),MA (show(l.getD i default).Key.length<n by have:=Z.1;omega) (by have:=Z.1;omega),BR hi,md hi (show l.length≤1000000000 by omega),auu]
   exact iR (by simp only [dv,eg,Bool.not_and,Bool.not_or,Bool.not_not,←vk])
  ·intro m;simp only [A6,Lh,SG,aut,auh,auj]
 have e2:Lk n l=some ((allI l.length λi=>je (l.getD i default).br)&&allI l.length λi=>jw (l.getD i default).Key&&(!decide (0<(i:Int))||Op.bytesLess (l.getD (pv i) default).Key (l.getD i default).Key)):=by
  unfold Lk;rw [h6 (L:=A7 n l) (chk:=λi=>je (l.getD i default).br) (no:=false) (yes:=allI l.length λi=>jw (l.getD i default).Key&&(!decide (0<(i:Int))||Op.bytesLess (l.getD (pv i) default).Key (l.getD i default).Key)) aa,r6]
  ·intro m i hi;have Z:=h i;simp only [A7,Lj,aup,hi,aug,aui,bw hi,aK,ak,auo,bm (show i≤4611686018427387904 by omega),MC (show(l.getD i default).br.S.length<n by have:=Z.2;omega) (by have:=Z.2;omega)]
   exact iR rfl
  ·intro m;simp only [A7,Lj,SH,aut,auh,auj,e1,ak]
 unfold Lm;rw [h6 (L:=A8 n l) (chk:=λi=>!decide ((l.getD i default).br.Kind=0)) (no:=false) (yes:=(allI l.length λi=>je (l.getD i default).br)&&allI l.length λi=>jw (l.getD i default).Key&&(!decide (0<(i:Int))||Op.bytesLess (l.getD (pv i) default).Key (l.getD i default).Key)) aa,r6]
 ·unfold mf x0;simp only [ao8]
  congr 1
  generalize (allI l.length λi=>jw (l.getD i default).Key)=a
  generalize (allI l.length λi=>je (l.getD i default).br)=b
  cases a<;>cases b<;>simp [Bool.and_comm]
 ·intro m i hi;simp only [A8,Ll,aup,hi,aug,aui,bw hi,aK,ak,auo,bm (show i≤4611686018427387904 by omega)]
  exact iR (by simp)
 ·intro m;simp only [A8,Ll,SI,aut,auh,auj,e2,ak]
def r7(l:List bh):Bool:=(allI l.length λi=>jw (l.getD i default).Key && !decide ((l.getD i default).Count<1) && !decide (1099511627776<(l.getD i default).Count)&&(!decide (0<(i:Int))||Op.bytesLess (l.getD (pv i) default).Key (l.getD i default).Key))&&decide (((l.length:Nat):Int)≤32)
theorem apa{l:List bh}(aa:l.length<n):I1 n l=some (r7 l):=by
 unfold I1 r7;rw [h6 (L:=zy n l) (no:=false) (yes:=decide (((l.length:Nat):Int)≤32)) aa,r6]
 ·intro m i hi;simp only [zy,I0,aup,hi,aug,aui,bw hi,aK,ak,auo,bm (show i≤4611686018427387904 by omega),Mz (show 24<n by omega),md hi (show l.length≤1000000000 by omega)]
  exact iR (by simp only [dv,eg,Bool.not_and,Bool.not_or,Bool.not_not])
 ·intro m;simp only [zy,I0,Qq,aut,auh,auj]
theorem apb{l:List bh}(aa:l.length<n)(h:∀i,(l.getD i default).Key.length≤1000):Kl n l=some (r7 l):=by
 unfold Kl r7;rw [h6 (L:=AH n l) (no:=false) (yes:=decide (((l.length:Nat):Int)≤32)) aa,r6]
 ·intro m i hi;have Z:=h i;simp only [AH,Kk,aup,hi,aug,aui,bw hi,aK,ak,auo,bm (show i≤4611686018427387904 by omega),MA (show(l.getD i default).Key.length<n by omega) (by omega),BR hi,ao7 hi,md hi (show l.length≤1000000000 by omega),auu]
  exact iR (by simp only [dv,eg,Bool.not_and,Bool.not_or,Bool.not_not,←vk])
 ·intro m;simp only [AH,Kk,Rv,aut,auh,auj]
def qR(l:List aux):Bool:=(allI l.length λi=>jw (l.getD i default)&&(!decide (0<(i:Int))||Op.bytesLess (l.getD (pv i) default) (l.getD i default)))
theorem acR{l:List aux}(aa:l.length<n):Dm n l=some (qR l&&decide (((l.length:Nat):Int)≤64)):=by
 unfold Dm qR;rw [h6 (L:=y5 n l) (no:=false) (yes:=decide (((l.length:Nat):Int)≤64)) aa,r6]
 ·intro m i hi;simp only [y5,H5,aup,hi,aug,aui,bw hi,aK,ak,auo,bm (show i≤4611686018427387904 by omega),Mz (show 24<n by omega),md hi (show l.length≤1000000000 by omega)]
  exact iR (by simp only [dv,eg,Bool.not_and,Bool.not_or,Bool.not_not,←vk])
 ·intro m;simp only [y5,H5,Pp,aut,auh,auj]
theorem acS{l:List aux}(aa:l.length<n)(h:∀i,(l.getD i default).length≤1000):E0 n l=some (qR l):=by
 unfold E0 qR;rw [h6 (L:=AU n l) (no:=false) (yes:=true) aa,me]
 ·intro m i hi;have Z:=h i;simp only [AU,KS,aup,hi,aug,aui,bw hi,aK,ak,auo,bm (show i≤4611686018427387904 by omega),MA (show(l.getD i default).length<n by omega) (by omega),BR hi,md hi (show l.length≤1000000000 by omega),auu]
  exact iR (by simp only [dv,eg,Bool.not_and,Bool.not_or,Bool.not_not])
 ·intro m;simp only [AU,KS,Sj,aut,auh,auj]
def r8(f:fc):Bool:=bif f.dH then decide (f.Reads.length=0)&&decide (f.cm.length=0) else(qR f.Reads&&decide (f.Reads.length≤64))&&(qR f.cm&&decide (f.cm.length≤64))
theorem apc{f:fc}(Z:f.Reads.length<n)(ab:f.cm.length<n):Dn n f=some (r8 f):=by
 unfold Dn r8;rw [acR hn aI Z,acR hn aI ab];simp only [ak,fs,jG,eg];cases f.dH
 ·simp only [auj];cases qR f.Reads&&decide (f.Reads.length≤64)<;>rfl
 ·rfl
theorem apd{f:fc}(Z:f.Reads.length<n)(ab:f.cm.length<n)(aj:∀i,(f.Reads.getD i default).length≤1000)(aC:∀i,(f.cm.getD i default).length≤1000):E1 n f=some (r8 f):=by
 unfold E1 r8;rw [acS hn aI Z aj,acS hn aI ab aC];simp only [fs,jG,eg];cases f.dH
 ·simp only [auj];cases decide (f.Reads.length≤64)<;>cases decide (f.cm.length≤64)<;>cases qR f.Reads<;>cases qR f.cm<;>rfl
 ·rfl
end
def oT(c b:Bool):(bif c then some b else some default)=some (c&&b):=by cases c<;>rfl
def acT{l:Nat}{b:Bool}:(b||decide (l<1)||decide (16<l)||aL 0 l)=true:=by
 by_cases h:l<1
 ·rw [decide_eq_true h];simp
 ·rw [ma (by omega)];simp
def acU{α:Type}(l:List α)(d:α){i k:Nat}(h:k<i):(l.take i).getD k d=l.getD k d:=by
 simp [List.getD_eq_getElem?_getD,List.getElem?_take,h]
section
variable {n:Nat} (hn:2000≤n) (aI:n≤1000000000)
include hn aI
def pH(l:List bq):Bool:=allI l.length λi=>je (l.getD i default) && !decide ((l.getD i default).Kind=0)
def pI(r:Request):Int:=
 bif (((decide (r.Client<1)||decide (32<r.Client))||decide (r.Seq<1))||decide (1099511627776<r.Seq))then 1 else
 bif !gv r.bb then 7 else
 bif decide (6<r.ar.length)then 2 else
 bif !pH r.ar then 1 else
 bif ((!r8 r.bk||r.bk.dH)||(!r.ez&&decide (0<r.bk.Reads.length+r.bk.cm.length)))then 1 else 0
structure qS(n:Nat)(r:Request):Prop where
 proc:r.bb.length≤1000
 args:r.ar.length<n
 vals:∀i,(r.ar.getD i default).S.length≤1000
 BS:r.bk.Reads.length<n
 BT:r.bk.cm.length<n
 rd:∀i,(r.bk.Reads.getD i default).length≤1000
 wr:∀i,(r.bk.cm.getD i default).length≤1000
theorem ME{r:Request}(h:qS n r):oE n r=some (pI r):=by
 have Z:=h.proc;have ab:=h.args
 obtain⟨c,e1,e2⟩:=UC (L:=y6 n r.ar) (len:=r.ar.length) (p:=λi=>!(je (r.ar.getD i default) && !decide ((r.ar.getD i default).Kind=0))) ab (by
  intro m i hi;have:=h.vals i
  simp only [y6,H6,Ps,aup,hi,aug,aui,bw hi,aK,auo,bm (show i≤4611686018427387904 by omega),MB (show(r.ar.getD i default).S.length<n by omega) (by omega),oT,ak]
  cases je (r.ar.getD i default)<;>cases decide ((r.ar.getD i default).Kind=0)<;>rfl) (by
  intro m;simp only [y6,H6,Pt,aut,auh,auj])
 have e3:(allI r.ar.length λi=>!!(je (r.ar.getD i default) && !decide ((r.ar.getD i default).Kind=0)))=pH r.ar:=by simp only [Bool.not_not];rfl
 rw [e3]at e2;unfold oE Pv Pu pI;rw [Bn n _ (by omega),e1,show Dn n ⟨r.bk.dH,r.bk.Reads,r.bk.cm⟩=_ from apc hn aI (f:=r.bk) h.BS h.BT]
 have aj:=h.BS;have aC:=h.BT;have gG:auz (((r.bk.Reads.length:Nat):Int)+((r.bk.cm.length:Nat):Int))=((r.bk.Reads.length+r.bk.cm.length:Nat):Int):=by rw [wr]<;>omega
 simp only [ak,e2,gG,dv,eg,eO];cases ((decide (r.Client<1)||decide (32<r.Client))||decide (r.Seq<1))||decide (1099511627776<r.Seq)<;>cases gv r.bb<;>cases decide (6<r.ar.length)<;>cases pH r.ar<;>cases ((!r8 r.bk||r.bk.dH)||(!r.ez&&decide (0<r.bk.Reads.length+r.bk.cm.length)))<;>rfl
theorem ape{r:Request}(h:qS n r):KU n r=some (pI r):=by
 have Z:=h.proc;have ab:=h.args;have aj:=h.BS;have aC:=h.BT;have gG:auz (((r.bk.Reads.length:Nat):Int)+((r.bk.cm.length:Nat):Int))=((r.bk.Reads.length+r.bk.cm.length:Nat):Int):=by rw [wr]<;>omega
 have e1:xq n r n 0=some (if pH r.ar then(bif ((!r8 r.bk||r.bk.dH)||(!r.ez&&decide (0<r.bk.Reads.length+r.bk.cm.length)))then 1 else 0)else 1):=by
  refine h6 (L:=xq n r) ab ?_ ?_
  ·intro m i hi;have:=h.vals i
   simp only [xq,KT,aup,hi,aug,aui,bw hi,aK,auo,bm (show i≤4611686018427387904 by omega),MC (show(r.ar.getD i default).S.length<n by omega) (by omega),ak,auu]
   exact iR (by simp only [dv,eg,Bool.not_and,Bool.not_or,Bool.not_not])
  ·intro m;simp only [xq,KT,Sk,aut,auh,auj];rw [show E1 n ⟨r.bk.dH,r.bk.Reads,r.bk.cm⟩=_ from apd hn aI (f:=r.bk) h.BS h.BT h.rd h.wr]
   simp only [ak,gG,dv,eg,eO];cases ((!r8 r.bk||r.bk.dH)||(!r.ez&&decide (0<r.bk.Reads.length+r.bk.cm.length)))<;>rfl
 unfold KU pI;rw [Bm _ (by omega) (by omega) (by omega),e1]
 simp only [ak,dv,eg,eO];cases ((decide (r.Client<1)||decide (32<r.Client))||decide (r.Seq<1))||decide (1099511627776<r.Seq)<;>cases gv r.bb<;>cases decide (6<r.ar.length)<;>cases pH r.ar<;>rfl
def MF(c:UInt8):Bool:=!(decide (c.toNat<33)||decide (126<c.toNat))
def nm(s:aux):Bool:=(allI s.length λi=>MF (s.getD i 0))&&decide (s.length≤24)
theorem acV{s:aux}(hs:s.length<n):DX n s=some (nm s):=by
 unfold DX nm;rw [h6 (L:=zA n s) (no:=false) (yes:=decide (s.length≤24)) hs,r6]
 ·intro m i hi;simp only [zA,I4,aup,hi,aug,aui,bw hi,aK,auo,bm (show i≤4611686018427387904 by omega),auu,pu,eO]
  exact iR (by simp only [dv,MF,Bool.not_not])
 ·intro m;simp only [zA,I4,Qs,aut,auh,auj,jG]
theorem acW{s:aux}(hs:s.length<n):EG n s=some (nm s):=by
 unfold EG nm;rw [h6 (L:=AE n s) (chk:=λi=>MF (s.getD i 0)) (no:=false) (yes:=true) hs,me]
 ·simp only [eO];by_cases h:s.length≤24
  ·simp only [h,show¬ 24<s.length by omega,aug,auh,auj,Bool.and_true]
  ·simp only [h,show 24<s.length by omega,aug,auh,aui,Bool.and_false]
 ·intro m i hi;simp only [AE,Kf,aup,hi,aug,aui,bw hi,aK,auo,bm (show i≤4611686018427387904 by omega),auu,pu,eO]
  exact iR (by simp only [dv,MF,Bool.not_not])
 ·intro m;simp only [AE,Kf,Rs,aut,auh,auj]
def r9(n:Int):Bool:=decide (1≤n)&&decide (n≤16)
def UD(n:Int):Bool:=decide (1≤n)&&decide (n≤1099511627776)
def r'(l:List Part)(i:Nat):Bool:=
 let x:=l.getD i default
 bif decide (x.ft=0)then decide (x.gI=[]) else((((r9 x.ft && !decide (x.ft=x.Node))&&nm x.gI) && !Op.bytesLess x.gI x.dY)&&(decide (i+1=l.length)||Op.bytesLess x.gI (l.getD (i+1) default).dY))
def vm(l:List Part)(i:Nat):Bool:=
 let x:=l.getD i default
 (!decide (0<(i:Int))||(nm x.dY&&Op.bytesLess (l.getD (pv i) default).dY x.dY))&&(((UD x.Id&&r9 x.Node)&&r' l i)&&allI i λk=>!decide ((l.getD k default).Id=x.Id))
def nn(p:b7):Bool:=!((((decide (p.Version<0)||decide (1099511627776<p.Version))||decide (p.aD.length<1))||decide (16<p.aD.length)) || !decide ((p.aD.getD 0 default).dY=[]))&&allI p.aD.length (vm p.aD)
def r_(x:Part):Prop:=x.dY.length≤1000∧x.gI.length≤1000
theorem apf{l:List Part}(aa:l.length<n){i:Nat}(hi:i<l.length)(h:∀i,r_ (l.getD i default)):I6 n l (i:Int)=some (r' l i):=by
 unfold I6 DY r';have Z:=(h i).2
 (rw [bw hi,aK];simp only [auo];rw [acV hn aI (by omega),bm (by omega)])
 simp only [ak,eg,dv,oT,Int.ofNat_inj,show(decide (1≤(l.getD i default).ft)&&decide ((l.getD i default).ft≤16))=r9 (l.getD i default).ft from rfl]
 cases decide ((l.getD i default).ft=0)
 ·simp only [auj];by_cases e:i+1=l.length
  ·simp only [e,aug,Bool.true_or,auu,aK];cases r9 (l.getD i default).ft<;>cases decide ((l.getD i default).ft=(l.getD i default).Node)<;>rfl
  ·rw [bw (show i+1<l.length by omega)]
   simp only [e,auo,auh,Bool.false_or,auu,aK];cases r9 (l.getD i default).ft<;>cases decide ((l.getD i default).ft=(l.getD i default).Node)<;>rfl
 ·rfl
theorem acX{p:b7}(aa:p.aD.length<n)(h:∀i,r_ (p.aD.getD i default)):DZ n p=some (nn p):=by
 have e1:wV n p n 0=some (allI p.aD.length (vm p.aD)):=by
  rw [h6 (L:=wV n p) (chk:=vm p.aD) (no:=false) (yes:=true) aa,me]
  ·intro m i hi;have Z:=h i;have ab:=Z.1;have cZ:(p.aD.take i).length<n:=by simp;omega
   obtain⟨c,f1,f2⟩:=UC (L:=zB n (p.aD.take i) (p.aD.getD i default).Id) (len:=(p.aD.take i).length) (p:=λk=>decide (((p.aD.take i).getD k default).Id=(p.aD.getD i default).Id)) cZ (by
    intro m k hk;have pc:k≤4611686018427387904:=by omega
    simp only [zB,I5,Qt,aup,hk,aug,aui,bw hk,aK,ak,auo,bm pc];cases decide (((p.aD.take i).getD k default).Id=(p.aD.getD i default).Id)<;>rfl) (by
    intro m;simp only [zB,I5,Qu,aut,auh,auj])
   have f3:(allI (p.aD.take i).length λk=>!decide (((p.aD.take i).getD k default).Id=(p.aD.getD i default).Id))=allI i λk=>!decide ((p.aD.getD k default).Id=(p.aD.getD i default).Id):=by
    rw [show(p.aD.take i).length=i by simp;omega,Bool.eq_iff_iff,ih,ih]
    constructor
    ·intro g k hk;have:=g k hk;rwa [acU _ _ hk]at this
    ·intro g k hk;have:=g k hk;rwa [acU _ _ hk]
   rw [f3]at f2;simp only [wV,I7,Qw,Qv,Qx,DY,aup,hi,aug,aui,bw hi,aK,ak,auo,bm (show i≤4611686018427387904 by omega),acV hn aI (show(p.aD.getD i default).dY.length<n by omega),oT,f1,apf hn aI aa hi h,xI (Nat.le_of_lt hi),auu]
   have g1:(!decide (0<(i:Int))||(!(decide (0<(i:Int))&&nm (p.aD.getD i default).dY)||aL (auz ((i:Int)-1)) p.aD.length))=true:=by
    have:=md (b:=!(decide (0<(i:Int))&&nm (p.aD.getD i default).dY)) hi (show p.aD.length≤1000000000 by omega)
    rw [←this];cases decide (0<(i:Int))<;>simp
   simp only [g1,aK,←vk,dv,eg];unfold vm UD r9;simp only
   cases hd:decide (0<(i:Int))
   ·simp only [Bool.false_and,auj,aul,Bool.true_or,Bool.true_and];cases (decide (1≤(p.aD.getD i default).Id)&&decide ((p.aD.getD i default).Id≤1099511627776))
    ·rfl
    ·cases (decide (1≤(p.aD.getD i default).Node)&&decide ((p.aD.getD i default).Node≤16))
     ·rfl
     ·cases r' p.aD i
      ·rfl
      ·simp only [auk,Bool.or_self,aul,aui,ak,f2,Bool.false_or,Bool.true_and];exact iR rfl
   ·simp only [Bool.true_and,aui,auk,Bool.false_or];cases nm (p.aD.getD i default).dY
    ·rfl
    ·cases Op.bytesLess (p.aD.getD (pv i) default).dY (p.aD.getD i default).dY
     ·rfl
     ·cases (decide (1≤(p.aD.getD i default).Id)&&decide ((p.aD.getD i default).Id≤1099511627776))
      ·rfl
      ·cases (decide (1≤(p.aD.getD i default).Node)&&decide ((p.aD.getD i default).Node≤16))
       ·rfl
       ·cases r' p.aD i
        ·rfl
        ·simp only [auk,Bool.or_self,aul,aui,auj,ak,f2,Bool.false_or,Bool.true_and];exact iR rfl
  ·intro m;simp only [wV,I7,Qy,aut,auh,auj]
 unfold DZ nn;rw [e1];simp only [dv,pu,eO,acT,aK];cases (((decide (p.Version<0)||decide (1099511627776<p.Version))||decide (p.aD.length<1))||decide (16<p.aD.length)) || !decide ((p.aD.getD 0 default).dY=[])<;>rfl
end
def apg{β:Type}{L:Nat→Int→Option β}{len:Nat}{chk:Nat→Bool}{no:β}{yes:Option β}
 (step:∀m i,i<len→L (m+1) (i:Int)=if chk i then L m ((i+1:Nat):Int)else some no) (stop:∀m,L (m+1) (len:Int)=yes):
 ∀m i,len<i+m→i≤len→L m (i:Int)=if(List.range' i (len-i)).all chk then yes else some no:=by
 intro m;induction m with
 |zero=>intro i h ab;omega
 |succ m aG=>
  intro i h ab;by_cases hi:i<len
  ·rw [step m i hi,aG (i+1) (by omega) (by omega),show len-i=(len-(i+1))+1 by omega,List.range'_succ,List.all_cons]
   cases chk i
   ·rfl
   ·rw [if_pos rfl,Bool.true_and]
  ·obtain rfl:i=len:=by omega
   rw [stop m];simp
def UE{β:Type}{L:Nat→Int→Option β}{len:Nat}{chk:Nat→Bool}{no:β}{yes:Option β}{m:Nat}(hm:len<m)
 (step:∀m i,i<len→L (m+1) (i:Int)=if chk i then L m ((i+1:Nat):Int)else some no) (stop:∀m,L (m+1) (len:Int)=yes):
 L m 0=if allI len chk then yes else some no:=by
 have:=apg step stop m 0 (by omega) (by omega)
 rwa [Nat.sub_zero,←List.range_eq_range']at this
section
variable {n:Nat} (hn:2000≤n) (aI:n≤1000000000)
include hn aI
theorem aph{l:List Part}{i:Nat}(hi:i<l.length)(h:∀i,r_ (l.getD i default))(eS:aux)(hnx:i+1<l.length→eS=(l.getD (i+1) default).dY):
 Kg n (l.getD i default) eS (decide (((i+1:Nat):Int)=((l.length:Nat):Int)))=some (r' l i):=by
 unfold Kg r';have Z:=(h i).2;rw [acW hn aI (by omega)]
 simp only [oT,ak,eg,dv,Int.ofNat_inj,show(decide (1≤(l.getD i default).ft)&&decide ((l.getD i default).ft≤16))=r9 (l.getD i default).ft from rfl]
 cases decide ((l.getD i default).ft=0)
 ·simp only [auj];by_cases e:i+1=l.length
  ·simp only [e,aug,Bool.true_or];cases r9 (l.getD i default).ft<;>cases decide ((l.getD i default).ft=(l.getD i default).Node)<;>cases nm (l.getD i default).gI<;>rfl
  ·rw [hnx (by omega)]
   simp only [e,auh,Bool.false_or];cases r9 (l.getD i default).ft<;>cases decide ((l.getD i default).ft=(l.getD i default).Node)<;>cases nm (l.getD i default).gI<;>rfl
 ·rfl
theorem acY{p:b7}(aa:p.aD.length<n)(h:∀i,r_ (p.aD.getD i default))(h0:(p.aD.getD 0 default).dY=[])(al:Int→auB){i:Nat}(hi:i<p.aD.length)(eS:aux)(hnx:i+1<p.aD.length→eS=(p.aD.getD (i+1) default).dY):
 EH n al p (i:Int) eS=if vm p.aD i then al ((i+1:Nat):Int)else some false:=by
 have Z:=(h i).1
 have mt:xl n al p (i:Int) n 0=if(allI i λk=>!decide ((p.aD.getD k default).Id=(p.aD.getD i default).Id))then al ((i+1:Nat):Int)else some false:=by
  refine UE (L:=xl n al p (i:Int)) (by omega) ?_ ?_
  ·intro m k hk;have pc:k<p.aD.length:=by omega
   simp only [xl,Kh,aup,hk,aug,aui,bw pc,aK,auo,bm (show k≤4611686018427387904 by omega)]
   exact iR (by rw [Bool.not_not])
  ·intro m;simp only [xl,Kh,Ru,aut,auh,auj,bm (show i≤4611686018427387904 by omega)]
 unfold EH
 (simp only [auo];rw [acW hn aI (by omega),ak,md hi (by omega),aK,bm (by omega),aph hn aI hi h eS hnx,oT,ak,mt])
 simp only [dv,eg,←vk];unfold vm UD r9;simp only
 have g0:(decide (0<(i:Int)))=false→nm (p.aD.getD i default).dY=true:=by
  intro e;obtain rfl:i=0:=by have:=of_decide_eq_false e;omega
  rw [h0];rfl
 have c1:decide ((p.aD.getD i default).Id<1) = !decide (1≤(p.aD.getD i default).Id):=by
  by_cases g:(p.aD.getD i default).Id<1
  ·rw [decide_eq_true g,decide_eq_false (by omega)];rfl
  ·rw [decide_eq_false g,decide_eq_true (by omega)];rfl
 have c2:decide (1099511627776<(p.aD.getD i default).Id) = !decide ((p.aD.getD i default).Id≤1099511627776):=by
  by_cases g:(1099511627776<(p.aD.getD i default).Id)
  ·rw [decide_eq_true g,decide_eq_false (by omega)];rfl
  ·rw [decide_eq_false g,decide_eq_true (by omega)];rfl
 have c3:decide ((p.aD.getD i default).Node<1) = !decide (1≤(p.aD.getD i default).Node):=by
  by_cases g:(p.aD.getD i default).Node<1
  ·rw [decide_eq_true g,decide_eq_false (by omega)];rfl
  ·rw [decide_eq_false g,decide_eq_true (by omega)];rfl
 have c4:decide (16<(p.aD.getD i default).Node) = !decide ((p.aD.getD i default).Node≤16):=by
  by_cases g:(16<(p.aD.getD i default).Node)
  ·rw [decide_eq_true g,decide_eq_false (by omega)];rfl
  ·rw [decide_eq_false g,decide_eq_true (by omega)];rfl
 rw [c1,c2,c3,c4,←aus,←aus];generalize (allI i λk=>!decide ((p.aD.getD k default).Id=(p.aD.getD i default).Id))=z
 cases hd:decide (0<(i:Int))
 ·rw [g0 hd];cases decide (1≤(p.aD.getD i default).Id)<;>cases decide ((p.aD.getD i default).Id≤1099511627776)<;>cases decide (1≤(p.aD.getD i default).Node)<;>cases decide ((p.aD.getD i default).Node≤16)<;>cases r' p.aD i<;>cases z<;>rfl
 ·cases nm (p.aD.getD i default).dY<;>cases Op.bytesLess (p.aD.getD (pv i) default).dY (p.aD.getD i default).dY<;>cases decide (1≤(p.aD.getD i default).Id)<;>cases decide ((p.aD.getD i default).Id≤1099511627776)<;>cases decide (1≤(p.aD.getD i default).Node)<;>cases decide ((p.aD.getD i default).Node≤16)<;>cases r' p.aD i<;>cases z<;>rfl
theorem api{p:b7}(aa:p.aD.length<n)(h:∀i,r_ (p.aD.getD i default)):Kj n p=some (nn p):=by
 unfold Kj nn;simp only [dv,pu,eO,acT,aK];cases h0:(((decide (p.Version<0)||decide (1099511627776<p.Version))||decide (p.aD.length<1))||decide (16<p.aD.length)) || !decide ((p.aD.getD 0 default).dY=[])
 ·have acZ:(p.aD.getD 0 default).dY=[]:=by
   simp only [Bool.or_eq_false_iff,Bool.not_eq_false',decide_eq_true_eq]at h0;exact h0.2
  rw [auj];rw [h6 (L:=AG n p) (chk:=vm p.aD) (no:=false) (yes:=true) aa,me]
  ·rfl
  ·intro m i hi;simp only [AG,Ki,aup,hi,aug,aui,bw hi,aK,bm (show i≤4611686018427387904 by omega)]
   by_cases e:i+1<p.aD.length
   ·rw [bw e];simp only [e,aug,aui,aK,auo];exact acY hn aI aa h acZ _ hi _ (λ_=>rfl)
   ·simp only [e,auh,auj];exact acY hn aI aa h acZ _ hi _ (λg=>absurd g e)
  ·intro m;simp only [AG,Ki,Rt,aut,auh,auj]
 ·rfl
def vn(o:Outcome):Bool:=bif decide (o.Status=1) then(decide (o.Code=0)&&decide (o.Out.length≤16))&&pH o.Out else((decide (o.Status=2)&&decide (0≤o.Code))&&decide (o.Code≤1009))&&decide (o.Out.length=0)
structure x1(n:Nat)(o:Outcome):Prop where
 out:o.Out.length<n
 vals:∀i,(o.Out.getD i default).S.length≤1000
theorem apj{o:Outcome}(h:x1 n o):DO n o=some (vn o):=by
 have Z:=h.out
 have e1:wP n o n 0=some (pH o.Out):=by
  rw [h6 (L:=wP n o) (no:=false) (yes:=true) Z,me]
  ·rfl
  ·intro m i hi;have:=h.vals i
   simp only [wP,IJ,aup,hi,aug,aui,bw hi,aK,auo,bm (show i≤4611686018427387904 by omega),MB (show(o.Out.getD i default).S.length<n by omega) (by omega),ak]
   exact iR (by simp only [dv,Bool.not_and,Bool.not_not])
  ·intro m;simp only [wP,IJ,Qh,aut,auh,auj]
 unfold DO Qg vn;rw [e1];simp only [dv,eg,eO,fs];cases decide (o.Status=1)
 ·simp only [auj];cases decide (o.Status=2)<;>rfl
 ·simp only [aui];by_cases g:o.Out.length≤16
  ·simp only [show¬ 16<o.Out.length by omega,g,aug,auh]
   cases decide (o.Code=0)<;>rfl
  ·simp only [show 16<o.Out.length by omega,g,aug,auh,auu,aui,Bool.and_false,Bool.false_and]
theorem apk{o:Outcome}(h:x1 n o):EI n o=some (vn o):=by
 have Z:=h.out
 have e1:xm n o.Out n 0=some (pH o.Out&&decide (o.Out.length≤16)):=by
  rw [h6 (L:=xm n o.Out) (chk:=λi=>je (o.Out.getD i default) && !decide ((o.Out.getD i default).Kind=0)) (no:=false) (yes:=decide (o.Out.length≤16)) Z,r6]
  ·rfl
  ·intro m i hi;have:=h.vals i
   simp only [xm,Km,aup,hi,aug,aui,bw hi,aK,auo,bm (show i≤4611686018427387904 by omega),MC (show(o.Out.getD i default).S.length<n by omega) (by omega),ak,auu]
   exact iR (by simp only [dv,Bool.not_and,Bool.not_not])
  ·intro m;simp only [xm,Km,Rw,aut,auh,auj,jG]
 unfold EI Rx vn;rw [e1,oT,ak];simp only [eg,fs];cases decide (o.Status=1)
 ·rfl
 ·simp only [aui];cases decide (o.Code=0)<;>cases decide (o.Out.length≤16)<;>cases pH o.Out<;>rfl
def kt(eS:Int):Int:=bif (decide ((auz (eS-1))<8)) then(auz (eS-1))else 8
def x2(s:bL):Bool:=((decide (s.Client<1)||decide (32<s.Client))||decide (s.Next<1))||decide (1099511627776<s.Next)
omit hn aI in
theorem UF{s:bL}(h:x2 s=false):1≤s.Client∧s.Client≤32∧1≤s.Next∧s.Next≤1099511627776:=by
 simp only [x2,Bool.or_eq_false_iff,decide_eq_false_iff_not]at h;omega
def BU(s:bL)(i:Nat):Bool:=(decide ((s.bJ.getD i default).Client=s.Client)&&decide ((s.bJ.getD i default).Seq=s.Next-(s.bJ.length:Int)+(i:Int)))&&vn (s.bJ.getD i default).Outcome
def x3(s:bL):Bool:=(!x2 s&&decide ((s.bJ.length:Int)=kt s.Next))&&allI s.bJ.length (BU s)
structure pJ(n:Nat)(s:bL):Prop where
 rep:s.bJ.length<n
 out:∀i,x1 n (s.bJ.getD i default).Outcome
theorem apl{s:bL}(h:pJ n s):IL n s=some (x3 s):=by
 have Z:=h.rep;unfold IL DN x3;simp only [dv];rw [show(((decide (s.Client<1)||decide (32<s.Client))||decide (s.Next<1))||decide (1099511627776<s.Next))=x2 s from rfl]
 cases aO:x2 s
 ·have hb:=UF aO;simp only [aul,aui,ak,Bool.false_or,Bool.true_and];rw [show(bif (decide ((auz (s.Next-1))<8)) then(auz (s.Next-1))else 8)=kt s.Next from rfl]
  rw [h6 (L:=zo n s) (chk:=BU s) (no:=false) (yes:=true) Z,me]
  ·cases decide ((s.bJ.length:Int)=kt s.Next)<;>rfl
  ·intro m i hi;simp only [zo,IK,aup,hi,aug,aui,bw hi,aK,auo,bm (show i≤4611686018427387904 by omega)]
   rw [show DO n (⟨((s.bJ.getD i default).Outcome).Status,((s.bJ.getD i default).Outcome).Code,((s.bJ.getD i default).Outcome).Out⟩:Outcome)=_ from apj hn aI (h.out i),oT,ak,wr (x:=s.Next-((s.bJ.length:Nat):Int)) (by omega) (by omega),wr (x:=s.Next-((s.bJ.length:Nat):Int)+(i:Int)) (by omega) (by omega)]
   refine iR ?_;unfold BU;simp only [dv,Bool.and_true,Bool.not_not];cases decide ((s.bJ.getD i default).Client=s.Client)<;>cases decide ((s.bJ.getD i default).Seq=s.Next-(s.bJ.length:Int)+(i:Int))<;>rfl
  ·intro m;simp only [zo,IK,Qi,aut,auh,auj]
 ·rfl
theorem apm{s:bL}(h:pJ n s):Ko n s=some (x3 s):=by
 have Z:=h.rep;unfold Ko Ry x3;simp only [dv];rw [show(((decide (s.Client<1)||decide (32<s.Client))||decide (s.Next<1))||decide (1099511627776<s.Next))=x2 s from rfl]
 cases aO:x2 s
 ·have hb:=UF aO;simp only [aul,aui,ak,Bool.false_or,Bool.true_and];rw [show(bif (decide ((auz (s.Next-1))<8)) then(auz (s.Next-1))else 8)=kt s.Next from rfl]
  rw [h6 (L:=AI n s) (chk:=BU s) (no:=false) (yes:=true) Z,me]
  ·cases decide ((s.bJ.length:Int)=kt s.Next)<;>rfl
  ·intro m i hi;simp only [AI,Kn,aup,hi,aug,aui,bw hi,aK,auo,bm (show i≤4611686018427387904 by omega)]
   rw [show EI n (⟨((s.bJ.getD i default).Outcome).Status,((s.bJ.getD i default).Outcome).Code,((s.bJ.getD i default).Outcome).Out⟩:Outcome)=_ from apk hn aI (h.out i),oT,ak,wr (x:=((s.bJ.length:Nat):Int)-(i:Int)) (by omega) (by omega),show s.Next-(((s.bJ.length:Nat):Int)-(i:Int))=s.Next-((s.bJ.length:Nat):Int)+(i:Int)by omega,wr (x:=s.Next-((s.bJ.length:Nat):Int)+(i:Int)) (by omega) (by omega)]
   refine iR ?_;unfold BU;simp only [dv,Bool.and_true,Bool.not_not];cases decide ((s.bJ.getD i default).Client=s.Client)<;>cases decide ((s.bJ.getD i default).Seq=s.Next-(s.bJ.length:Int)+(i:Int))<;>rfl
  ·intro m;simp only [AI,Kn,Rz,aut,auh,auj]
 ·rfl
def n1(l:List bL):Bool:=allI l.length λi=>x3 (l.getD i default)&&(!decide (0<(i:Int)) || !decide ((l.getD i default).Client≤(l.getD (pv i) default).Client))
theorem MG{l:List bL}(aa:l.length<n)(h:∀i,pJ n (l.getD i default)):sT n l=some (n1 l):=by
 unfold sT n1;rw [h6 (L:=zp n l) (no:=false) (yes:=true) aa,me]
 ·intro m i hi;simp only [zp,IM,aup,hi,aug,aui,bw hi,aK,auo,bm (show i≤4611686018427387904 by omega),apl hn aI (h i),ak,md hi (show l.length≤1000000000 by omega)]
  exact iR (by simp only [dv,eg,Bool.not_and,Bool.not_or,Bool.not_not])
 ·intro m;simp only [zp,IM,Qj,aut,auh,auj]
theorem apn{l:List bL}(aa:l.length<n)(h:∀i,pJ n (l.getD i default)):Kq n l=some (n1 l):=by
 unfold Kq n1;rw [h6 (L:=AJ n l) (no:=false) (yes:=true) aa,me]
 ·intro m i hi;simp only [AJ,Kp,aup,hi,aug,aui,bw hi,aK,auo,bm (show i≤4611686018427387904 by omega),apm hn aI (h i),ak,BR hi,md hi (show l.length≤1000000000 by omega),auu]
  exact iR (by simp only [dv,eg,Bool.not_and,Bool.not_or,Bool.not_not])
 ·intro m;simp only [AJ,Kp,RA,aut,auh,auj]
end
def ac0{β:Type}{c d k:Bool}{x y:β}(h:k=(!c && !d)):(bif c then x else(bif d then x else y))=if k then y else x:=by subst h;cases c<;>cases d<;>rfl
def apo{α σ R:Type}[Inhabited α]{l:List α}{g:σ→α→σ}{I:Nat→σ→Prop}{L:Nat→σ→Int→Option R}{fin:σ→Option R}
 (step:∀m acc i,i<l.length→I i acc→L (m+1) acc (i:Int)=L m (g acc (l.getD i default)) ((i+1:Nat):Int)∧I (i+1) (g acc (l.getD i default)))
 (stop:∀m acc,I l.length acc→L (m+1) acc (l.length:Int)=fin acc):
 ∀m i acc,l.length<i+m→i≤l.length→I i acc→L m acc (i:Int)=fin ((l.drop i).foldl g acc):=by
 intro m;induction m with
 |zero=>intro i acc h ab;omega
 |succ m aG=>
  intro i acc h ab mu;by_cases hi:i<l.length
  ·obtain⟨aj,aC⟩:=step m acc i hi mu;rw [aj,aG (i+1) _ (by omega) (by omega) aC,e9 l i default hi,List.foldl_cons]
  ·obtain rfl:i=l.length:=by omega
   rw [stop m acc mu,List.drop_of_length_le (Nat.le_refl _)];rfl
def ac1{α σ R:Type}[Inhabited α]{l:List α}{g:σ→α→σ}{I:Nat→σ→Prop}{L:Nat→σ→Int→Option R}{fin:σ→Option R}{m:Nat}(hm:l.length<m){acc:σ}(h0:I 0 acc)
 (step:∀m acc i,i<l.length→I i acc→L (m+1) acc (i:Int)=L m (g acc (l.getD i default)) ((i+1:Nat):Int)∧I (i+1) (g acc (l.getD i default)))
 (stop:∀m acc,I l.length acc→L (m+1) acc (l.length:Int)=fin acc):L m acc 0=fin (l.foldl g acc):=
 apo step stop m 0 acc (by omega) (by omega) h0
def fold_map{α β:Type}(f:α→β):∀(l:List α) (acc:List β),l.foldl (λa x=>a++[f x]) acc=acc++l.map f
 |[],acc=>by simp
 |x::l,acc=>by rw [List.foldl_cons,fold_map f l];simp
def lj{m k:Nat}(h:m*k≤140737488355328):room m k=true:=by simp [room];exact h
def MH{α:Type}[Inhabited α]{l:List α}{i:Nat}(h:i<l.length):l.getD i default∈l:=by
 rw [List.getD_eq_getElem?_getD,List.getElem?_eq_getElem h];exact List.getElem_mem h
section
variable {n:Nat} (hn:2000≤n) (aI:n≤1000000000)
include hn aI
def UG(a b:bq):Bool:=decide (a.Kind=b.Kind)&&(decide (a.N=b.N)&&(decide (a.S=b.S)&&true))
def tC(r:Row)(floor last:Int)(i:Nat):Bool:=
 ((!decide ((r.bj.getD i default).cl<floor) && !decide (last<(r.bj.getD i default).cl))&&je (r.bj.getD i default).br) &&
 !(decide (0<(i:Int))&&(decide ((r.bj.getD i default).cl≤(r.bj.getD (pv i) default).cl)||UG (r.bj.getD i default).br (r.bj.getD (pv i) default).br))
def pK(r:Row)(floor last:Int):Bool:=!(decide (r.bj.length=0)||decide ((r.bj.getD 0 default).br.Kind=0))&&allI r.bj.length (tC r floor last)
structure MI(n:Nat)(r:Row):Prop where
 key:r.Key.length≤1000
 BV:r.bj.length<n
 val:∀i,(r.bj.getD i default).br.S.length≤1000
omit hn aI in
theorem ac2{i len:Nat}{b:Bool}(hi:i<len)(aa:len≤1000000000):(!(decide (0<(i:Int)))||(b||aL (auz ((i:Int)-1)) len))=true:=by
 have:=md (b:=b) hi aa
 rw [←this];cases decide (0<(i:Int))<;>cases b<;>simp
omit hn aI in
theorem ac3{i len:Nat}(hi:i<len)(aa:len≤1000000000):(!(decide (0<(i:Int)))||aL (auz ((i:Int)-1)) len)=true:=by
 have:=md (b:=false) hi aa
 rw [Bool.false_or]at this;exact this
omit hn aI in
theorem ac4{l:Nat}:(decide (l=0)||aL 0 l)=true:=by
 by_cases h:l=0
 ·rw [decide_eq_true h];rfl
 ·rw [ma (by omega)];simp
theorem apq{r:Row}(h:MI n r)(floor last:Int):Ib n r floor last=some (pK r floor last):=by
 have Z:=h.BV;unfold Ib pK;rw [h6 (L:=y_ n floor last r) (chk:=tC r floor last) (no:=false) (yes:=true) Z,me]
 ·simp only [fs,ac4,aK,dv];cases decide (r.bj.length=0)||decide ((r.bj.getD 0 default).br.Kind=0)<;>rfl
 ·intro m i hi;have ab:=h.val i;simp only [y_,Ia,aup,hi,aug,aui,bw hi,aK,auo,bm (show i≤4611686018427387904 by omega),ac2 hi (show r.bj.length≤1000000000 by omega),ac3 hi (show r.bj.length≤1000000000 by omega)]
  rw [show sR n (⟨((r.bj.getD i default).br).Kind,((r.bj.getD i default).br).N,((r.bj.getD i default).br).S⟩:bq)=_ from MB (v:=(r.bj.getD i default).br) (by omega) (by omega),oT,ak]
  refine ac0 ?_;unfold tC;simp only [UG,dv,eg,Bool.not_and,Bool.not_or,Bool.not_not];cases decide ((r.bj.getD i default).cl<floor)<;>cases decide (last<(r.bj.getD i default).cl)<;>cases je (r.bj.getD i default).br<;>rfl
 ·intro m;simp only [y_,Ia,PB,aut,auh,auj]
theorem apr{r:Row}(h:MI n r)(floor last:Int):Kd n r floor last=some (jw r.Key&&pK r floor last):=by
 have Z:=h.BV;have h0:=h.key;unfold Kd pK;rw [MA (by omega) (by omega),ak]
 rw [h6 (L:=AB n floor last r) (chk:=tC r floor last) (no:=false) (yes:=true) Z,me]
 ·have g:∀b:Bool,(b||decide (r.bj.length=0)||aL 0 r.bj.length)=true:=λb=>by rw [Bool.or_assoc,ac4];simp
  simp only [fs,dv,g,aK];cases jw r.Key<;>cases decide (r.bj.length=0)<;>cases decide ((r.bj.getD 0 default).br.Kind=0)<;>rfl
 ·intro m i hi;have ab:=h.val i;simp only [AB,Kc,Rp,aup,hi,aug,aui,bw hi,aK,auo,bm (show i≤4611686018427387904 by omega),ac2 hi (show r.bj.length≤1000000000 by omega),ac3 hi (show r.bj.length≤1000000000 by omega)]
  rw [show uR n (⟨((r.bj.getD i default).br).Kind,((r.bj.getD i default).br).N,((r.bj.getD i default).br).S⟩:bq)=_ from MC (v:=(r.bj.getD i default).br) (by omega) (by omega),ak,ak]
  refine ac0 ?_;unfold tC;simp only [UG,dv,eg,Bool.not_and,Bool.not_or,Bool.not_not];cases decide ((r.bj.getD i default).cl<floor)<;>cases decide (last<(r.bj.getD i default).cl)<;>cases je (r.bj.getD i default).br<;>rfl
 ·intro m;simp only [AB,Kc,Rq,aut,auh,auj]
def lk(s:az):Bool:=!((decide (s.cd<0)||decide (s.b2<s.cd))||decide (1099511627776<s.b2)) &&
 allI s.Rows.length λi=>(jw (s.Rows.getD i default).Key&&(!decide (0<(i:Int))||Op.bytesLess (s.Rows.getD (pv i) default).Key (s.Rows.getD i default).Key))&&pK (s.Rows.getD i default) s.cd s.b2
structure BW(n:Nat)(s:az):Prop where
 rows:s.Rows.length<n
 row:∀i,MI n (s.Rows.getD i default)
theorem UH{s:az}(h:BW n s):wG n s=some (lk s):=by
 have Z:=h.rows;unfold wG lk;rw [h6 (L:=za n s) (chk:=λi=>(jw (s.Rows.getD i default).Key&&(!decide (0<(i:Int))||Op.bytesLess (s.Rows.getD (pv i) default).Key (s.Rows.getD i default).Key))&&pK (s.Rows.getD i default) s.cd s.b2) (no:=false) (yes:=true) Z,me]
 ·simp only [dv];cases (decide (s.cd<0)||decide (s.b2<s.cd))||decide (1099511627776<s.b2)<;>rfl
 ·intro m i hi;have ab:=(h.row i).key;simp only [za,Ic,aup,hi,aug,aui,bw hi,aK,ak,auo,bm (show i≤4611686018427387904 by omega),Mz (show 24<n by omega),md hi (show s.Rows.length≤1000000000 by omega),apq hn aI (h.row i),oT,←vk]
  refine iR ?_;simp only [dv,eg];cases jw (s.Rows.getD i default).Key<;>cases decide (0<(i:Int))<;>cases Op.bytesLess (s.Rows.getD (pv i) default).Key (s.Rows.getD i default).Key<;>rfl
 ·intro m;simp only [za,Ic,PC,aut,auh,auj]
theorem ac5{s:az}(h:BW n s):AD n s=some (lk s):=by
 have Z:=h.rows;unfold AD lk;rw [h6 (L:=AC n s) (chk:=λi=>(jw (s.Rows.getD i default).Key&&(!decide (0<(i:Int))||Op.bytesLess (s.Rows.getD (pv i) default).Key (s.Rows.getD i default).Key))&&pK (s.Rows.getD i default) s.cd s.b2) (no:=false) (yes:=true) Z,me]
 ·simp only [dv];cases (decide (s.cd<0)||decide (s.b2<s.cd))||decide (1099511627776<s.b2)<;>rfl
 ·intro m i hi;simp only [AC,Ke,aup,hi,aug,aui,bw hi,aK,ak,auo,bm (show i≤4611686018427387904 by omega),apr hn aI (h.row i),BR hi,md hi (show s.Rows.length≤1000000000 by omega),auu]
  refine iR ?_;simp only [dv,eg];cases jw (s.Rows.getD i default).Key<;>cases decide (0<(i:Int))<;>cases Op.bytesLess (s.Rows.getD (pv i) default).Key (s.Rows.getD i default).Key<;>cases pK (s.Rows.getD i default) s.cd s.b2<;>rfl
 ·intro m;simp only [AC,Ke,Rr,aut,auh,auj]
def ii(l:List bo)(at_:Int):az:=⟨at_,at_,l.map λp=>⟨p.Key,[⟨at_,p.br⟩]⟩⟩
def BX(l:List bo)(at_:Int):az×Int:=bif ((!mf l||decide (at_<0))||decide (1099511627776<at_)) then(⟨0,0,[]⟩,1) else(ii l at_,0)
theorem aps{l:List bo}(aa:l.length<n)(h:∀i,vl (l.getD i default))(at_:Int):Af n l at_=some (BX l at_):=by
 unfold Af BX;rw [acQ hn aI aa h,ak,ac1 (L:=Ae n at_ l) (g:=λa p=>a++[⟨p.Key,[⟨at_,p.br⟩]⟩]) (I:=λi acc=>acc.length=i) (fin:=λv=>some (⟨at_,at_,v⟩,0)) aa rfl,fold_map]
 ·simp only [dv,List.nil_append];cases (!mf l||decide (at_<0))||decide (1099511627776<at_)<;>rfl
 ·intro m acc i hi mu;have:room (acc.length+1) 40=true:=lj (by omega)
  simp only [Ae,JV,aup,hi,aug,aui,bw hi,aK,auo,bm (show i≤4611686018427387904 by omega),aur,this]
  exact⟨trivial,by simp [mu]⟩
 ·intro m acc mu;simp only [Ae,JV,Rm,aut,auh,auj]
theorem apt{l:List bo}(aa:l.length<n)(h:∀i,vl (l.getD i default))(at_:Int):E' n l at_=some (BX l at_):=by
 unfold E' BX;rw [ao_ hn aI aa h,ak,ac1 (L:=A9 n l at_) (g:=λa p=>a++[⟨p.Key,[⟨at_,p.br⟩]⟩]) (I:=λi acc=>acc.length=i) (fin:=λv=>some (⟨at_,at_,v⟩,0)) aa rfl,fold_map]
 ·simp only [dv,List.nil_append];cases (!mf l||decide (at_<0))||decide (1099511627776<at_)<;>rfl
 ·intro m acc i hi mu;have:room (acc.length+1) 40=true:=lj (by omega)
  simp only [A9,Ln,aup,hi,aug,aui,bw hi,aK,auo,bm (show i≤4611686018427387904 by omega),aur,this]
  exact⟨trivial,by simp [mu]⟩
 ·intro m acc mu;simp only [A9,Ln,SJ,aut,auh,auj]
end
def sa{α:Type}[Inhabited α]{P:α→Prop}{l:List α}(h:∀x∈l,P x)(h0:P default)(i:Nat):P (l.getD i default):=by
 by_cases hi:i<l.length
 ·exact h _ (MH hi)
 ·rw [List.getD_eq_getElem?_getD,List.getElem?_eq_none (by omega)];exact h0
def tD{v:bq}(h:qP v):v.S.length≤64:=by
 rcases xZ h.1 with h|h|h
 ·rw [h];simp
 ·rw [h.2];simp
 ·exact acH h.2.2
def BY:eB bo:=fV (λp=>⟨p.1,p.2⟩) (dO (f9 24) λ_=>mS)
def ll(p:bo):aux:=gd p.Key++bV p.br
def sb(p:bo):Prop:=p.Key.length≤24∧qP p.br
def UI:el BY ll sb:=
 (n0.dep λ_ _=>tB).map _ (λp=>(p.Key,p.br)) sb ll (λb h=>⟨rfl,⟨h.1,h.2⟩,rfl⟩) (λa h=>⟨rfl,⟨h.1,h.2⟩⟩)
def BZ:eB (List bo):=mP mf 5 (jy 2147483647 BY)
def apu:el (jy 2147483647 BY) (ea ll) (λl=>l.length≤2147483647∧∀v∈l,sb v):=UI.vi _ (by omega) (λv _=>by unfold ll gd;simp [qO])
def MJ:el BZ (ea ll) (λl=>(l.length≤2147483647∧∀v∈l,sb v)∧mf l=true):=apu.chk _ _ (by omega)
def ac6{p:bo}(h:sb p):vl p:=⟨by have:=h.1;omega,by have:=tD h.2;omega⟩
def UJ{l:List bo}(h:∀p∈l,sb p)(i:Nat):vl (l.getD i default):=sa (P:=vl) (λx hx=>ac6 (h x hx)) ⟨by show([]:aux).length≤1000;simp,by show([]:aux).length≤1000;simp⟩ i
section
variable {n:Nat} (hn:2000≤n) (aI:n≤1000000000) {s:aux} (hs:s.length<n)
include hn aI hs
theorem apv{t:aux}(aF:t <:+ s):Jc n s (bu s t)=some (res [] s (BZ t)):=by
 unfold Jc BZ mP jy;rw [show(2147483647:Int)=((2147483647:Nat):Int)from rfl,vj aF (by omega) (by omega) (by omega),ak]
 cases h:jf 2147483647 t with
 |error e=>rw [r5 h,fH];simp only [gK (oS h),aui,fH]
 |ok r=>
  obtain⟨u,bS⟩:=r;obtain⟨Z,ab,aj⟩:=pG h;have eM:bS <:+ s:=List.IsSuffix.trans ⟨e_ u,Z.symm⟩ aF;have hu:=eM.length_le;rw [r4 h,hh];simp only [aug,auk,auj];rw [show wX n s ((u:Int),bu s bS,0) n (bu s bS) 0 []=_ from acO (L:=λm i t acc=>wX n s ((u:Int),bu s bS,0) m (bu s t) (i:Int) acc) (D:=BY) (u:=u) (s:=s) (fin:=λacc t=>Ja n (bu s t) acc) (bad:=λe=>some ([],0,e)) (λx v t hx=>UI.lR hx) ?_ ?_ (by omega) eM]
  ·cases ai:hA BY u bS with
   |error e=>rfl
   |ok r=>
    obtain⟨l,nl⟩:=r;obtain⟨g1,g2,g3⟩:=(UI.rep u).gx _ _ _ ai;simp only [Ja];rw [acQ hn aI (by omega) (UJ g3),ak]
    cases mf l<;>rfl
  ·intro m i t acc hi ha aF;simp only [wX,Jb,aup,hi,aug,aui];rw [show(24:Int)=((24:Nat):Int)from rfl,Gk aF (by omega) (by omega) (by omega),ak]
   unfold BY fV dO;cases aC:f9 24 t with
   |error e=>rw [fH];simp only [gK (n0.db _ _ aC),aui]
   |ok r=>
    obtain⟨k,t1⟩:=r;rw [hh];simp only [aug,auk,auj];rw [UA (jg n0 aC aF) (by omega) (by omega),ak]
    cases aT:mS t1 with
    |error e=>rw [fH];simp only [gK (tB.db _ _ aT),aui]
    |ok r=>
     obtain⟨v,t2⟩:=r;rw [hh];simp only [aug,auk,auj,aur];rw [lj (by omega),aK,bm (by omega)]
  ·intro m t acc ha aF;simp only [wX,Jb,aut,auh,auj]
end
def vo{α β R:Type}{D:eB α}{s:aux}{u:Nat}{f:Nat→α→β}{L:Nat→Nat→aux→List β→Option R}{fin:List β→aux→Option R}{bad:Int→Option R→Prop}
 (lR:∀x v t,D x = .ok (v,t)→t <:+ x)
 (step:∀m i t acc,u<i+1+m→i<u→acc.length=i→t <:+ s→match D t with|.ok (v,bS)=>L (m+1) i t acc=L m (i+1) bS (acc++[f i v])|.error e=>bad e (L (m+1) i t acc))
 (stop:∀m t acc,acc.length=u→t <:+ s→L (m+1) u t acc=fin acc t):
 ∀k m i t acc,i+k=u→k<m→acc.length=i→t <:+ s→match hA D k t with|.ok (l,bS)=>L m i t acc=fin (acc++(l.zipIdx i).map λp=>f p.2 p.1) bS|.error e=>bad e (L m i t acc):=by
 intro k;induction k with
 |zero=>
  intro m i t acc hi hm ha aF;obtain⟨m,rfl⟩:∃j,m=j+1:=⟨m-1,by omega⟩
  obtain rfl:i=u:=by omega
  rw [stop m t acc ha aF];simp [hA]
 |succ k aG=>
  intro m i t acc hi hm ha aF;obtain⟨m,rfl⟩:∃j,m=j+1:=⟨m-1,by omega⟩
  have dy:=step m i t acc (by omega) (by omega) ha aF
  unfold hA;cases h:D t with
  |error e=>rw [h]at dy;exact dy
  |ok r=>
   obtain⟨v,bS⟩:=r;rw [h]at dy;simp only at dy ⊢
   have:=aG m (i+1) bS (acc++[f i v]) (by omega) (by omega) (by simp [ha]) ((lR _ _ _ h).trans aF)
   cases ab:hA D k bS with
   |error e=>rw [ab]at this;simp only at this ⊢;rw [dy];exact this
   |ok r=>
    obtain⟨l,nl⟩:=r;rw [ab]at this;simp only at this ⊢
    rw [dy,this];simp
def vp{α:Type}(l:List α)(i:Nat):((l.zipIdx i).map λp=>p.1)=l:=List.zipIdx_map_fst i l
def lS{α:Type}(e:Int)(x:Option (α×Int×Int)):Prop:=∃v a,x=some (v,a,e)
def B0:eB Part:=fV (λp=>⟨p.1,p.2.1,p.2.2.1,p.2.2.2.1,p.2.2.2.2⟩) (dO iQ λ_=>dO (f9 24) λ_=>dO iQ λ_=>dO iQ λ_=>f9 24)
def sc(x:Part):aux:=mO x.Id++(gd x.dY++(mO x.Node++(mO x.ft++gd x.gI)))
def qT(x:Part):Prop:=e6 x.Id∧x.dY.length≤24∧e6 x.Node∧e6 x.ft∧x.gI.length≤24
def UK:el B0 sc qT:=
 (kT.dep λ_ _=>n0.dep λ_ _=>kT.dep λ_ _=>kT.dep λ_ _=>n0).map _ (λx=>(x.Id,x.dY,x.Node,x.ft,x.gI)) qT sc
  (λb h=>⟨rfl,⟨h.1,h.2.1,h.2.2.1,h.2.2.2.1,h.2.2.2.2⟩,rfl⟩) (λa h=>⟨rfl,⟨h.1,h.2.1,h.2.2.1,h.2.2.2.1,h.2.2.2.2⟩⟩)
def vq:eB b7:=mP nn 5 (fV (λp=>⟨p.1,p.2⟩) (dO iQ λ_=>jy 16 B0))
def oU(p:b7):aux:=mO p.Version++ea sc p.aD
def apw:el (jy 16 B0) (ea sc) (λl=>l.length≤16∧∀v∈l,qT v):=UK.vi _ (by omega) (λv _=>by unfold sc mO;simp [qO])
def MK:el vq oU (λp=>(e6 p.Version∧p.aD.length≤16∧∀v∈p.aD,qT v)∧nn p=true):=
 ((kT.dep λ_ _=>apw).map (λp=>(⟨p.1,p.2⟩:b7)) (λp:b7=>(p.Version,p.aD)) (λp=>e6 p.Version∧p.aD.length≤16∧∀v∈p.aD,qT v) oU (λb h=>⟨rfl,⟨h.1,h.2⟩,rfl⟩) (λa h=>⟨rfl,⟨h.1,h.2⟩⟩)).chk _ _ (by omega)
def apx{p:Part}(h:qT p):r_ p:=⟨by have:=h.2.1;omega,by have:=h.2.2.2.2;omega⟩
def ac7{l:List Part}(h:∀p∈l,qT p)(i:Nat):r_ (l.getD i default):=sa (P:=r_) (λx hx=>apx (h x hx)) ⟨by show([]:aux).length≤1000;simp,by show([]:aux).length≤1000;simp⟩ i
section
variable {n:Nat} (hn:2000≤n) (aI:n≤1000000000) {s:aux} (hs:s.length<n)
theorem Gl{a e:Int}(he:e≠0):sW n ⟨s,a,e⟩=some (0,a,e):=by
 unfold sW;simp only [gK he,aui]
theorem Gm{a e:Int}(he:e≠0):wY n ⟨s,a,e⟩=some ([],a,e):=by
 unfold wY;simp only [gK he,aui]
include hn aI hs
theorem ML{t:aux}(aF:t <:+ s):sW n ⟨s,bu s t,0⟩=some (res 0 s (iQ t)):=by
 unfold sW;simp only [aug,auk,auj];rw [Uz aF (by omega) (by omega),ak]
theorem ac8{t:aux}(aF:t <:+ s):wY n ⟨s,bu s t,0⟩=some (res [] s (f9 24 t)):=by
 unfold wY;simp only [aug,auk,auj];rw [show(24:Int)=((24:Nat):Int)from rfl,Gk aF (by omega) (by omega) (by omega),ak]
theorem B1{u:Nat}(hu:u<n){r1:Int×Int×Int}{b:Int}{c:Int}:∀(k m i:Nat) (a e:Int) (acc:List Part),e≠0→i+k=u→k<m→acc.length=i→sX n ((u:Int),b,c) s r1 m a e acc (i:Int)=some (⟨0,[]⟩,0,e):=by
 intro k;induction k with
 |zero=>
  intro m i a e acc he hi hm ha;obtain⟨m,rfl⟩:∃j,m=j+1:=⟨m-1,by omega⟩
  obtain rfl:i=u:=by omega
  simp only [sX,zI,aut,auh,auj,D4,Jd,he,ak,aul,aui]
 |succ k aG=>
  intro m i a e acc he hi hm ha;obtain⟨m,rfl⟩:∃j,m=j+1:=⟨m-1,by omega⟩
  simp only [sX,zI,aup,show i<u by omega,aug,aui,Gl he,Gm he,ak,aur]
  rw [lj (by omega),aK,bm (by omega)]
  exact aG m (i+1) a e _ he (by omega) (by omega) (by simp [ha])
theorem apy{t:aux}(aF:t <:+ s):Je n s (bu s t)=some (res ⟨0,[]⟩ s (vq t)):=by
 unfold Je vq mP fV dO jy;rw [ML hn aI hs aF,ak];cases h0:iQ t with
 |error e=>rw [fH];simp only [gK (kT.db _ _ h0),aui,fH]
 |ok r=>
  obtain⟨v,t0⟩:=r;have ac9:=jg kT h0 aF;rw [hh];simp only [aug,auk,auj];rw [show(16:Int)=((16:Nat):Int)from rfl,vj ac9 (by omega) (by omega) (by omega),ak]
  cases h:jf 16 t0 with
  |error e=>
   rw [r5 h,fH];exact B1 hn aI hs (u:=0) (by omega) 0 n 0 0 e [] (oS h) rfl (by omega) rfl
  |ok r=>
   obtain⟨u,bS⟩:=r;obtain⟨Z,ab,aj⟩:=pG h;have eM:bS <:+ s:=List.IsSuffix.trans ⟨e_ u,Z.symm⟩ ac9;have hu:=eM.length_le;rw [r4 h,hh]
   have c8:=vo (L:=λm i t acc=>sX n ((u:Int),bu s bS,0) s (v,bu s t0,0) m (bu s t) 0 acc (i:Int)) (f:=λ_ v=>v) (D:=B0) (u:=u) (s:=s) (fin:=λacc t=>D4 n s (v,bu s t0,0) (bu s t) 0 acc) (bad:=λe x=>x=some (⟨0,[]⟩,0,e)) (λx v t hx=>UK.lR hx) (by
    intro m i t acc hm hi ha aF;simp only [sX,zI,aup,hi,aug,aui];rw [ML hn aI hs aF,ak];unfold B0 fV dO;have gm:room (acc.length+1) 56=true:=lj (by omega)
    cases g1:iQ t with
    |error e=>
     have he:=kT.db _ _ g1;rw [fH];simp only [Gl he,Gm he,ak,aur,gm,aK];rw [bm (by omega)]
     exact B1 hn aI hs (by omega) (u-(i+1)) m (i+1) _ e _ he (by omega) (by omega) (by simp [ha])
    |ok r=>
     obtain⟨dA,t1⟩:=r;have ku:=jg kT g1 aF;rw [hh];simp only
     rw [ac8 hn aI hs ku,ak];cases g2:f9 24 t1 with
     |error e=>
      have he:=n0.db _ _ g2;rw [fH];simp only [Gl he,Gm he,ak,aur,gm,aK];rw [bm (by omega)]
      exact B1 hn aI hs (by omega) (u-(i+1)) m (i+1) _ e _ he (by omega) (by omega) (by simp [ha])
     |ok r=>
      obtain⟨ey,t2⟩:=r;have jR:=jg n0 g2 ku;rw [hh];simp only
      rw [ML hn aI hs jR,ak];cases g3:iQ t2 with
      |error e=>
       have he:=kT.db _ _ g3;rw [fH];simp only [Gl he,Gm he,ak,aur,gm,aK];rw [bm (by omega)]
       exact B1 hn aI hs (by omega) (u-(i+1)) m (i+1) _ e _ he (by omega) (by omega) (by simp [ha])
      |ok r=>
       obtain⟨jb,t3⟩:=r;have Gn:=jg kT g3 jR;rw [hh];simp only
       rw [ML hn aI hs Gn,ak];cases g4:iQ t3 with
       |error e=>
        have he:=kT.db _ _ g4;rw [fH];simp only [Gl he,Gm he,ak,aur,gm,aK];rw [bm (by omega)]
        exact B1 hn aI hs (by omega) (u-(i+1)) m (i+1) _ e _ he (by omega) (by omega) (by simp [ha])
       |ok r=>
        obtain⟨fr,t4⟩:=r;have MM:=jg kT g4 Gn;rw [hh];simp only
        rw [ac8 hn aI hs MM,ak];cases g5:f9 24 t4 with
        |error e=>
         have he:=n0.db _ _ g5;rw [fH];simp only [aur,gm,aK];rw [bm (by omega)]
         exact B1 hn aI hs (by omega) (u-(i+1)) m (i+1) _ e _ he (by omega) (by omega) (by simp [ha])
        |ok r=>
         obtain⟨kL,t5⟩:=r;rw [hh];simp only [aur,gm,aK];rw [bm (by omega)]) (by
    intro m t acc ha aF;simp only [sX,zI,aut,auh,auj]) u n 0 bS [] (by omega) (by omega) rfl eM
   cases ai:hA B0 u bS with
   |error e=>rw [ai]at c8;simp only [ai]at c8 ⊢;exact c8
   |ok r=>
    obtain⟨l,nl⟩:=r;rw [ai]at c8;simp only [List.nil_append,vp,ai]at c8 ⊢;refine c8.trans ?_;obtain⟨g1,g2,g3⟩:=(UK.rep u).gx _ _ _ ai;simp only [D4,aug,aui];rw [acX hn aI (p:=⟨v,l⟩) (by show l.length<n;omega) (ac7 g3),ak]
    cases nn ⟨v,l⟩<;>rfl
end
def x4:eB Outcome:=fV (λp=>⟨p.1,p.2.1,p.2.2⟩) (dO (nZ 0 9999) λ_=>dO (nZ 0 9999) λ_=>jy 16 mS)
def sd(o:Outcome):aux:=jx o.Status++(jx o.Code++ea bV o.Out)
def pL(o:Outcome):Prop:=(0≤o.Status∧o.Status≤9999)∧(0≤o.Code∧o.Code≤9999)∧o.Out.length≤16∧∀v∈o.Out,qP v
def n99:el (nZ 0 9999) jx (λz=>0≤z∧z≤9999):=Ux (by omega) (by omega)
def UL:el (nZ 1 32) jx (λz=>1≤z∧z≤32):=Ux (by omega) (by omega)
def MN:el (nZ 1 1099511627776) jx (λz=>1≤z∧z≤1099511627776):=Ux (by omega) (by omega)
def ac'(k:Nat)(hk:k<18446744073709551616):el (jy k mS) (ea bV) (λl=>l.length≤k∧∀v∈l,qP v):=tB.vi _ hk (λv _=>aoM v)
def UM:el x4 sd pL:=
 (n99.dep λ_ _=>n99.dep λ_ _=>ac' 16 (by omega)).map (λp=>(⟨p.1,p.2.1,p.2.2⟩:Outcome)) (λo:Outcome=>(o.Status,o.Code,o.Out)) pL sd
  (λb h=>⟨rfl,⟨h.1,h.2.1,h.2.2⟩,rfl⟩) (λa h=>⟨rfl,⟨h.1,h.2.1,h.2.2⟩⟩)
def vr(c eS k:Int)(l:List Outcome):List eN:=(l.zipIdx 0).map λp=>⟨c,auz (eS-auz (k-(p.2:Int))),p.1⟩
def MO(c eS k:Int)(l:List Outcome):(vr c eS k l).map (·.Outcome)=l:=by
 unfold vr;rw [List.map_map];exact vp l 0
def Gp{eS:Int}(h:1≤eS∧eS≤1099511627776):0≤kt eS∧kt eS≤8∧kt eS≤eS-1:=by
 unfold kt;rw [wr (x:=eS-1) (by omega) (by omega)]
 by_cases dj:eS-1<8
 ·rw [decide_eq_true dj,aui];omega
 ·rw [decide_eq_false dj,auj];omega
def vt:eB bL:=fV (λp=>⟨p.1,p.2.1,vr p.1 p.2.1 (kt p.2.1) p.2.2⟩) (dO (nZ 1 32) λ_=>dO (nZ 1 1099511627776) λeS=>hA x4 (kt eS).toNat)
def lm(s:bL):aux:=jx s.Client++(jx s.Next++iP sd (s.bJ.map (·.Outcome)))
def qU(s:bL):Prop:=(1≤s.Client∧s.Client≤32)∧(1≤s.Next∧s.Next≤1099511627776)∧s.bJ=vr s.Client s.Next (kt s.Next) (s.bJ.map (·.Outcome))∧(s.bJ.map (·.Outcome)).length=(kt s.Next).toNat∧∀o∈s.bJ.map (·.Outcome),pL o
def MP:el vt lm qU:=
 (UL.dep λ_ _=>MN.dep λeS _=>UM.rep (kt eS).toNat).map (λp=>(⟨p.1,p.2.1,vr p.1 p.2.1 (kt p.2.1) p.2.2⟩:bL)) (λs:bL=>(s.Client,s.Next,s.bJ.map (·.Outcome))) qU lm
  (λb h=>⟨by simp only;rw [←h.2.2.1],⟨h.1,h.2.1,h.2.2.2.1,h.2.2.2.2⟩,rfl⟩) (λa h=>⟨by simp only [MO],⟨h.1,h.2.1,by simp only [MO],by simp only [MO];exact h.2.2.1,by simp only [MO];exact h.2.2.2⟩⟩)
def vu:eB (List bL):=mP n1 5 (jy 32 vt)
def apz:el (jy 32 vt) (ea lm) (λl=>l.length≤32∧∀v∈l,qU v):=MP.vi _ (by omega) (λv _=>by unfold lm jx;simp [qO])
def MQ:el vu (ea lm) (λl=>(l.length≤32∧∀v∈l,qU v)∧n1 l=true):=apz.chk _ _ (by omega)
def ac_{n:Nat}(hn:2000≤n){o:Outcome}(h:pL o):x1 n o:=
 ⟨by have:=h.2.2.1;omega,λi=>sa (P:=λv:bq=>v.S.length≤1000) (λx hx=>by have:=tD (h.2.2.2 x hx);omega) (by show([]:aux).length≤1000;simp) i⟩
def apA{n:Nat}(hn:2000≤n){s:bL}(h:qU s):pJ n s:=by
 have hk:=Gp h.2.1;have aa:s.bJ.length=(kt s.Next).toNat:=by have:=h.2.2.2.1;simpa using this
 refine⟨by omega,λi=>sa (P:=λr:eN=>x1 n r.Outcome) (λx hx=>ac_ hn (h.2.2.2.2 _ (List.mem_map_of_mem hx))) ?_ i⟩
 refine ac_ hn ?_;refine⟨by show(0:Int)≤0∧(0:Int)≤9999;omega,by show(0:Int)≤0∧(0:Int)≤9999;omega,by show([]:List bq).length≤16;simp,λv av=>by cases av⟩
def MR{n:Nat}(hn:2000≤n){l:List bL}(h:∀s∈l,qU s)(i:Nat):pJ n (l.getD i default):=by
 refine sa (P:=pJ n) (λx hx=>apA hn (h x hx)) ⟨by show([]:List eN).length<n;simp;omega,λi=>⟨?_,λi=>?_⟩⟩ i
 ·show((([]:List eN).getD i default).Outcome).Out.length<n
  show([]:List bq).length<n
  simp;omega
 ·show((((([]:List eN).getD _ default).Outcome).Out).getD i default).S.length≤1000
  show([]:aux).length≤1000
  simp
section
variable {n:Nat} (hn:2000≤n) (aI:n≤1000000000) {s:aux} (hs:s.length<n)
theorem ada{lo hi a e:Int}(he:e≠0):s1 n lo hi ⟨s,a,e⟩=some (0,a,e):=by
 unfold s1;simp only [gK he,aui]
include hn aI hs
theorem MS{lo hi:Int}(h0:0≤lo)(Z:hi≤9223372036854775807){t:aux}(aF:t <:+ s):s1 n lo hi ⟨s,bu s t,0⟩=some (match nZ lo hi t with|.ok (v,bS)=>(v,bu s bS,0)|.error e=>(0,bu s t,e)):=by
 unfold s1 nZ mP;simp only [aug,auk,auj];rw [BQ aF (by omega) (by omega),ak]
 cases h:ig t with
 |error e=>
  have he:¬ e=0:=mR.db _ _ h;rw [fH];simp only [he,auh,auj,zQ,aul,aui]
 |ok r=>
  obtain⟨u,bS⟩:=r;have hu:=(mR.gx _ _ _ h).2;unfold hV at hu;rw [hh];simp only [aug,aui];by_cases hb:lo≤u∧u≤hi
  ·simp only [show¬ u<lo by omega,show¬ hi<u by omega,hb.1,hb.2,aug,auh,auj,Bool.and_self,auv,zQ,auk,wr (x:=u) (by omega) (by omega)]
  ·have:(bif (decide (u<lo))then true else(decide (hi<u)))=true:=by
    rw [dv,←Bool.decide_or];exact decide_eq_true (by omega)
   have ab:(decide (lo≤u)&&decide (u≤hi))=false:=by
    rw [←Bool.decide_and];exact decide_eq_false hb
   simp only [this,aui,ab,Bool.false_eq_true,auw,zQ,show¬ (5:Int)=0 by omega,auh,aul]
theorem apB{t:aux}(aF:t <:+ s):match x4 t with|.ok (o,bS)=>D6 n ⟨s,bu s t,0⟩=some (o,bu s bS,0)|.error e=>lS e (D6 n ⟨s,bu s t,0⟩):=by
 unfold D6 x4 fV dO;rw [MS hn aI hs (by omega) (by omega) aF,ak]
 cases g1:nZ 0 9999 t with
 |error e=>
  have he:=n99.db _ _ g1;simp only [ada he,ak];rw [show(!decide (e=0))=true from gK he]
  exact⟨_,_,rfl⟩
 |ok r=>
  obtain⟨dA,t1⟩:=r;have ku:=jg n99 g1 aF;simp only
  rw [MS hn aI hs (by omega) (by omega) ku,ak]
  cases g2:nZ 0 9999 t1 with
  |error e=>
   have he:=n99.db _ _ g2;simp only
   rw [show(!decide (e=0))=true from gK he]
   exact⟨_,_,rfl⟩
  |ok r=>
   obtain⟨ey,t2⟩:=r;have jR:=jg n99 g2 ku;simp only [aug,auk,auj];rw [show(16:Int)=((16:Nat):Int)from rfl,vj jR (by omega) (by omega) (by omega),ak]
   unfold jy;obtain⟨se,rfl⟩:∃k,n=k+1:=⟨n-1,by omega⟩
   cases h:jf 16 t2 with
   |error e=>
    have he:=oS h;rw [r5 h,fH];simp only [uB,zR,aut,auh,auj,D5];exact⟨_,_,rfl⟩
   |ok r=>
    obtain⟨u,bS⟩:=r;obtain⟨Z,ab,aj⟩:=pG h;have eM:bS <:+ s:=List.IsSuffix.trans ⟨e_ u,Z.symm⟩ jR;have hu:=eM.length_le;rw [r4 h,hh];generalize bu s t=A
    have c8:=vo (L:=λm i t acc=>uB (se+1) ((u:Int),bu s bS,0) ⟨s,A,0⟩ (dA,bu s t1,0) (ey,bu s t2,0) m (bu s t) 0 acc (i:Int)) (f:=λ_ v=>v) (D:=mS) (u:=u) (s:=s) (fin:=λacc t=>some (⟨dA,ey,acc⟩,bu s t,0)) (bad:=λe x=>lS e x) (λx v t hx=>tB.lR hx) (by
     intro m i t acc hm hi ha aF;simp only [uB,zR,aup,hi,aug,aui];rw [UA aF (by omega) (by omega),ak]
     have gm:room (acc.length+1) 32=true:=lj (by omega)
     cases g3:mS t with
     |error e=>
      have he:¬ e=0:=tB.db _ _ g3;rw [fH];simp only [aur,gm,aK];obtain⟨m,rfl⟩:∃j,m=j+1:=⟨m-1,by omega⟩
      simp only [uB,zR,he,auh,eg,Bool.and_false,auj,D5];exact⟨_,_,rfl⟩
     |ok r=>
      obtain⟨v,t3⟩:=r;rw [hh];simp only [aur,gm,aK];rw [bm (by omega)]) (by
     intro m t acc ha aF;simp only [uB,zR,aut,auh,auj,D5]) u (se+1) 0 bS [] (by omega) (by omega) rfl eM
    cases ai:hA mS u bS with
    |error e=>rw [ai]at c8;simp only [ai]at c8 ⊢;exact c8
    |ok r=>
     obtain⟨l,nl⟩:=r;rw [ai]at c8;simp only [List.nil_append,vp,ai]at c8 ⊢;exact c8
theorem apC{t:aux}(aF:t <:+ s):match vt t with|.ok (o,bS)=>D8 n ⟨s,bu s t,0⟩=some (o,bu s bS,0)|.error e=>lS e (D8 n ⟨s,bu s t,0⟩):=by
 unfold D8 vt fV dO;rw [MS hn aI hs (by omega) (by omega) aF,ak]
 cases g1:nZ 1 32 t with
 |error e=>
  have he:=UL.db _ _ g1;simp only [ada he,ak];rw [show(!decide (e=0))=true from gK he]
  exact⟨_,_,rfl⟩
 |ok r=>
  obtain⟨dA,t1⟩:=r;have ku:=jg UL g1 aF;simp only
  rw [MS hn aI hs (by omega) (by omega) ku,ak]
  cases g2:nZ 1 1099511627776 t1 with
  |error e=>
   have he:=MN.db _ _ g2;simp only
   rw [show(!decide (e=0))=true from gK he]
   exact⟨_,_,rfl⟩
  |ok r=>
   obtain⟨ey,t2⟩:=r;have jR:=jg MN g2 ku;have q5:=(MN.gx _ _ _ g2).2;have hk:=Gp q5;simp only [aug,auk,auj];rw [show DN n ey=some (kt ey)from rfl,ak]
   obtain⟨u,hu⟩:=Int.eq_ofNat_of_zero_le hk.1
   (rw [hu];simp only [auo])
   generalize bu s t=A
   have c8:=vo (L:=λm i t acc=>w3 n (u:Int) ⟨s,A,0⟩ (dA,bu s t1,0) (ey,bu s t2,0) m (bu s t) 0 acc (i:Int)) (f:=λi v=>(⟨dA,auz (ey-auz ((u:Int)-(i:Int))),v⟩:eN)) (D:=x4) (u:=u) (s:=s) (fin:=λacc t=>some (⟨dA,ey,acc⟩,bu s t,0)) (bad:=λe x=>lS e x) (λx v t hx=>UM.lR hx) (by
    intro m i t acc hm hi ha aF;have aw:=apB hn aI hs aF;simp only [w3,D7,aup,hi,aug,aui];have gm:room (acc.length+1) 56=true:=lj (by omega)
    cases g3:x4 t with
    |error e=>
     have he:¬ e=0:=UM.db _ _ g3;rw [g3]at aw;obtain⟨v,a,aw⟩:=aw;rw [aw,ak];simp only [aur,gm,aK];obtain⟨m,rfl⟩:∃j,m=j+1:=⟨m-1,by omega⟩
     simp only [w3,D7,he,auh,eg,Bool.and_false,auj,Jk];exact⟨_,_,rfl⟩
    |ok r=>
     obtain⟨v,t3⟩:=r;rw [g3]at aw;simp only at aw ⊢
     rw [aw,ak];simp only [aur,gm,aK];rw [bm (by omega)]) (by
    intro m t acc ha aF;simp only [w3,D7,aut,auh,auj,Jk]) u n 0 t2 [] (by omega) (by omega) rfl jR
   cases ai:hA x4 u t2 with
   |error e=>rw [ai]at c8;simp only [ai]at c8 ⊢;exact c8
   |ok r=>
    obtain⟨l,nl⟩:=r;rw [ai]at c8;simp only [List.nil_append,ai]at c8 ⊢;simp only [vr,hu];exact c8
theorem apD{t:aux}(aF:t <:+ s):Jl n s (bu s t)=some (res [] s (vu t)):=by
 unfold Jl vu mP jy;rw [show(32:Int)=((32:Nat):Int)from rfl,vj aF (by omega) (by omega) (by omega),ak]
 cases h:jf 32 t with
 |error e=>rw [r5 h,fH];simp only [gK (oS h),aui,fH]
 |ok r=>
  obtain⟨u,bS⟩:=r;obtain⟨Z,ab,aj⟩:=pG h;have eM:bS <:+ s:=List.IsSuffix.trans ⟨e_ u,Z.symm⟩ aF;have hu:=eM.length_le;rw [r4 h,hh];simp only [aug,auk,auj]
  have c8:=vo (L:=λm i t acc=>w4 n ((u:Int),bu s bS,0) s m (bu s t) 0 acc (i:Int)) (f:=λ_ v=>v) (D:=vt) (u:=u) (s:=s) (fin:=λacc t=>D9 n s (bu s t) 0 acc) (bad:=λe x=>x=some ([],0,e)) (λx v t hx=>MP.lR hx) (by
   intro m i t acc hm hi ha aF;have aw:=apC hn aI hs aF;simp only [w4,D',aup,hi,aug,aui];have gm:room (acc.length+1) 40=true:=lj (by omega)
   cases g3:vt t with
   |error e=>
    have he:¬ e=0:=MP.db _ _ g3;rw [g3]at aw;obtain⟨v,a,aw⟩:=aw;rw [aw,ak];simp only [aur,gm,aK];obtain⟨m,rfl⟩:∃j,m=j+1:=⟨m-1,by omega⟩
    simp only [w4,D',he,auh,eg,Bool.and_false,auj,D9,aul,aui]
   |ok r=>
    obtain⟨v,t3⟩:=r;rw [g3]at aw;simp only at aw ⊢
    rw [aw,ak];simp only [aur,gm,aK];rw [bm (by omega)]) (by
   intro m t acc ha aF;simp only [w4,D',aut,auh,auj]) u n 0 bS [] (by omega) (by omega) rfl eM
  cases ai:hA vt u bS with
  |error e=>rw [ai]at c8;simp only [ai]at c8 ⊢;exact c8
  |ok r=>
   obtain⟨l,nl⟩:=r;rw [ai]at c8;simp only [List.nil_append,vp,ai]at c8 ⊢;refine c8.trans ?_;obtain⟨g1,g2,g3⟩:=(MP.rep u).gx _ _ _ ai;simp only [D9,aug,auk,auj];rw [MG hn aI (by omega) (MR hn g3),ak]
   cases n1 l<;>rfl
end
abbrev jI:=List aux
def x5:eB jI:=jy 64 (f9 24)
def adb(s:aux):gd s≠[]:=by unfold gd;simp [qO]
def x6:el x5 (ea gd) (λl=>l.length≤64∧∀v∈l,v.length≤24):=n0.vi _ (by omega) (λv _=>adb v)
def UN(b:Bool):eB (jI×jI):=if b then dO x5 λ_=>x5 else Uw ([],[])
def sf(b:Bool)(p:jI×jI):aux:=if b then ea gd p.1++ea gd p.2 else[]
def Gq(b:Bool)(p:jI×jI):Prop:=if b then(p.1.length≤64∧∀v∈p.1,v.length≤24)∧(p.2.length≤64∧∀v∈p.2,v.length≤24)else p=([],[])
def apE:∀b,el (UN b) (sf b) (Gq b)
 |true=>x6.dep λ_ _=>x6
 |false=>acG ([],[])
abbrev adc:=Int×Int×aux×List bq×Bool×(jI×jI)
def UO:eB adc:=dO ig λ_=>dO ig λ_=>dO (f9 16) λ_=>dO (jy 6 mS) λ_=>dO r0 λb=>UN b
def n2(p:adc):Request:=⟨p.1,p.2.1,p.2.2.1,p.2.2.2.1,p.2.2.2.2.1,⟨false,p.2.2.2.2.2.1,p.2.2.2.2.2.2⟩⟩
def n3(r:Request):Prop:=hV r.Client∧hV r.Seq∧r.bb.length≤16∧(r.ar.length≤6∧∀v∈r.ar,qP v)∧Gq r.ez (r.bk.Reads,r.bk.cm)∧r.bk.dH=false
def jJ(r:Request):aux:=jx r.Client++(jx r.Seq++(gd r.bb++(ea bV r.ar++(xY r.ez++sf r.ez (r.bk.Reads,r.bk.cm)))))
def MT:el (f9 16) gd (λs=>s.length≤16):=BN 16 (by omega)
def apF:el (fV n2 UO) jJ n3:=
 (mR.dep λ_ _=>mR.dep λ_ _=>MT.dep λ_ _=>(ac' 6 (by omega)).dep λ_ _=>Uv.dep λb _=>apE b).map n2 (λr=>(r.Client,r.Seq,r.bb,r.ar,r.ez,(r.bk.Reads,r.bk.cm))) n3 jJ
  (λr h=>⟨by obtain⟨a,b,c,d,e,f,g,i⟩:=r;have:f=false:=h.2.2.2.2.2;subst this;rfl,⟨h.1,h.2.1,h.2.2.1,h.2.2.2.1,trivial,h.2.2.2.2.1⟩,rfl⟩) (λa h=>⟨rfl,⟨h.1,h.2.1,h.2.2.1,h.2.2.2.1,h.2.2.2.2.2,rfl⟩⟩)
def tE(r:Request):Bool:=(decide (r.Client≤32)&&decide (r.Seq≤1099511627776))&&decide (pI r=0)
def x7:eB Request:=mP tE 5 (fV n2 UO)
def UP:el x7 jJ (λr=>n3 r∧tE r=true):=apF.chk _ _ (by omega)
def pM:eB (List Request):=jy 64 x7
def MU:el pM (ea jJ) (λl=>l.length≤64∧∀v∈l,n3 v∧tE v=true):=UP.vi _ (by omega) (λv _=>by unfold jJ jx;simp [qO])
def x8:eB (List bh):=jy 32 (fV (λp=>⟨p.1,p.2⟩) (dO (f9 24) λ_=>iQ))
def n4(h:bh):aux:=gd h.Key++mO h.Count
def UQ:el (fV (λp=>(⟨p.1,p.2⟩:bh)) (dO (f9 24) λ_=>iQ)) n4 (λh=>h.Key.length≤24∧e6 h.Count):=
 (n0.dep λ_ _=>kT).map (λp=>(⟨p.1,p.2⟩:bh)) (λh:bh=>(h.Key,h.Count)) _ n4 (λb h=>⟨rfl,⟨h.1,h.2⟩,rfl⟩) (λa h=>⟨rfl,⟨h.1,h.2⟩⟩)
def apG:el x8 (ea n4) (λl=>l.length≤32∧∀h∈l,h.Key.length≤24∧e6 h.Count):=UQ.vi _ (by omega) (λv _=>by unfold n4 gd;simp [qO])
def MV:el (f9 16384) gd (λs=>s.length≤16384):=BN 16384 (by omega)
def UR:eB jI:=jy 16 (f9 16384)
def apH:el UR (ea gd) (λl=>l.length≤16∧∀s∈l,s.length≤16384):=MV.vi _ (by omega) (λv _=>adb v)
def US{n:Nat}(hn:2000≤n){r:Request}(h:n3 r):qS n r:=by
 have aT:=h.2.2.2.2.1
 have hk:(r.bk.Reads.length≤64∧∀v∈r.bk.Reads,v.length≤24)∧(r.bk.cm.length≤64∧∀v∈r.bk.cm,v.length≤24):=by
  unfold Gq at aT;cases hd:r.ez
  ·rw [hd]at aT;simp only [Bool.false_eq_true,auw,Prod.mk.injEq]at aT;rw [aT.1,aT.2];simp
  ·rw [hd]at aT;exact aT
 have hd:∀l:jI,(∀v∈l,v.length≤24)→∀i,(l.getD i default).length≤1000:=λl aa i=>sa (P:=λv:aux=>v.length≤1000) (λx hx=>by have:=aa x hx;omega) (by show([]:aux).length≤1000;simp) i
 exact⟨by have:=h.2.2.1;omega,by have:=h.2.2.2.1.1;omega,λi=>sa (P:=λv:bq=>v.S.length≤1000) (λx hx=>by have:=tD (h.2.2.2.1.2 x hx);omega) (by show([]:aux).length≤1000;simp) i,by have:=hk.1.1;omega,by have:=hk.2.1;omega,hd _ hk.1.2,hd _ hk.2.2⟩
abbrev Gr:Request:=⟨0,0,[],[],false,⟨false,[],[]⟩⟩
section
variable {n:Nat} (hn:2000≤n) (aI:n≤1000000000) {s:aux} (hs:s.length<n)
theorem UT{a e:Int}(he:e≠0):w1 n ⟨s,a,e⟩=some (0,a,e):=by unfold w1;simp only [gK he,aui]
theorem MW{k a e:Int}(he:e≠0):wZ n k ⟨s,a,e⟩=some (0,a,e):=by unfold wZ;simp only [gK he,aui]
theorem apI{a e:Int}(he:e≠0):zK n ⟨s,a,e⟩=some (false,a,e):=by unfold zK;simp only [gK he,aui]
theorem MX{k a e:Int}(he:e≠0):w0 n k ⟨s,a,e⟩=some ([],a,e):=by unfold w0;simp only [gK he,aui]
theorem apJ{a e:Int}(he:e≠0):zM n ⟨s,a,e⟩=some (⟨0,0,[]⟩,a,e):=by unfold zM;simp only [gK he,aui]
include hn aI hs
theorem ade{t:aux}(aF:t <:+ s):w1 n ⟨s,bu s t,0⟩=some (res 0 s (ig t)):=by
 unfold w1 ql;simp only [aug,auk,auj];rw [BQ aF (by omega) (by omega),ak,ak]
theorem adf{k:Nat}(hk:k≤1000){t:aux}(aF:t <:+ s):wZ n (k:Int) ⟨s,bu s t,0⟩=some (res 0 s (qQ k t)):=by
 unfold wZ ql;simp only [aug,auk,auj];rw [vj aF (by omega) (by omega) (by omega),ak,ak]
theorem apK{t:aux}(aF:t <:+ s):zK n ⟨s,bu s t,0⟩=some (res false s (r0 t)):=by
 unfold zK ql;simp only [aug,auk,auj];rw [ao4 aF (by omega),ak,ak]
theorem adg{k:Nat}(hk:k≤1000){t:aux}(aF:t <:+ s):w0 n (k:Int) ⟨s,bu s t,0⟩=some (res [] s (f9 k t)):=by
 unfold w0 ql;simp only [aug,auk,auj];rw [Gk aF (by omega) (by omega) (by omega),ak,ak]
theorem apL{t:aux}(aF:t <:+ s):zM n ⟨s,bu s t,0⟩=some (res ⟨0,0,[]⟩ s (mS t)):=by
 unfold zM ql;simp only [aug,auk,auj];rw [UA aF (by omega) (by omega),ak,ak]
theorem UU{u:Nat}(hu:u<n){b c:Int}{B:hZ}(cN:B.s=s):∀(k m i:Nat) (a e:Int) (acc:jI),e≠0→i+k=u→k<m→acc.length=i→lS e (sY n ((u:Int),b,c) B m a e acc (i:Int)):=by
 intro k;induction k with
 |zero=>
  intro m i a e acc he hi hm ha;obtain⟨m,rfl⟩:∃j,m=j+1:=⟨m-1,by omega⟩
  obtain rfl:i=u:=by omega
  simp only [sY,zL,aut,auh,auj,Jg];exact⟨_,_,rfl⟩
 |succ k aG=>
  intro m i a e acc he hi hm ha;obtain⟨m,rfl⟩:∃j,m=j+1:=⟨m-1,by omega⟩
  simp only [sY,zL,aup,show i<u by omega,aug,aui,MX he,ak,aur]
  rw [lj (by omega),aK,bm (by omega)]
  exact aG m (i+1) a e _ he (by omega) (by omega) (by simp [ha])
theorem adh{t:aux}(aF:t <:+ s):match x5 t with|.ok (l,bS)=>uA n ⟨s,bu s t,0⟩=some (l,bu s bS,0)|.error e=>lS e (uA n ⟨s,bu s t,0⟩):=by
 unfold uA x5 jy;rw [show(64:Int)=((64:Nat):Int)from rfl,adf hn aI hs (by omega) aF,ak]
 generalize bu s t=A
 cases h:jf 64 t with
 |error e=>
  rw [r5 h,fH];exact UU hn aI hs (u:=0) (by omega) (B:=⟨s,A,0⟩) rfl 0 n 0 0 e [] (oS h) rfl (by omega) rfl
 |ok r=>
  obtain⟨u,bS⟩:=r;obtain⟨Z,ab,aj⟩:=pG h;have eM:bS <:+ s:=List.IsSuffix.trans ⟨e_ u,Z.symm⟩ aF;have hu:=eM.length_le;rw [r4 h,hh]
  have c8:=vo (L:=λm i t acc=>sY n ((u:Int),bu s bS,0) ⟨s,A,0⟩ m (bu s t) 0 acc (i:Int)) (f:=λ_ v=>v) (D:=f9 24) (u:=u) (s:=s) (fin:=λacc t=>some (acc,bu s t,0)) (bad:=λe x=>lS e x) (λx v t hx=>n0.lR hx) (by
   intro m i t acc hm hi ha aF;simp only [sY,zL,aup,hi,aug,aui];rw [show(24:Int)=((24:Nat):Int)from rfl,adg hn aI hs (by omega) aF,ak]
   have gm:room (acc.length+1) 16=true:=lj (by omega)
   cases g3:f9 24 t with
   |error e=>
    have he:=n0.db _ _ g3;rw [fH];simp only [aur,gm,aK];rw [bm (by omega)]
    exact UU hn aI hs (by omega) (B:=⟨s,A,0⟩) rfl (u-(i+1)) m (i+1) _ e _ he (by omega) (by omega) (by simp [ha])
   |ok r=>
    obtain⟨v,t3⟩:=r;rw [hh];simp only [aur,gm,aK];rw [bm (by omega)]) (by
   intro m t acc ha aF;simp only [sY,zL,aut,auh,auj,Jg]) u n 0 bS [] (by omega) (by omega) rfl eM
  cases ai:hA (f9 24) u bS with
  |error e=>rw [ai]at c8;simp only [ai]at c8 ⊢;exact c8
  |ok r=>
   obtain⟨l,nl⟩:=r;rw [ai]at c8;simp only [List.nil_append,vp,ai]at c8 ⊢;exact c8
theorem apM{a e:Int}(he:e≠0):lS e (uA n ⟨s,a,e⟩):=by
 unfold uA;rw [MW he,ak];exact UU hn aI hs (u:=0) (by omega) (B:=⟨s,a,e⟩) rfl 0 n 0 a e [] he rfl (by omega) rfl
theorem apN{r1 r2:Int×Int×Int}{r3:aux×Int×Int}{a e:Int}{l:List bq}(he:e≠0):zN n r1 r2 s r3 a e l=some (Gr,0,e):=by
 unfold zN;rw [apI he,ak];simp only [auj,sZ,gK he,aui]
theorem Gs{u:Nat}(hu:u<n){b c:Int}{r1 r2:Int×Int×Int}{r3:aux×Int×Int}:∀(k m i:Nat) (a e:Int) (acc:List bq),e≠0→i+k=u→k<m→acc.length=i→s0 n r1 r2 ((u:Int),b,c) s r3 m a e acc (i:Int)=some (Gr,0,e):=by
 intro k;induction k with
 |zero=>
  intro m i a e acc he hi hm ha;obtain⟨m,rfl⟩:∃j,m=j+1:=⟨m-1,by omega⟩
  obtain rfl:i=u:=by omega
  simp only [s0,zO,aut,auh,auj];exact apN hn aI hs he
 |succ k aG=>
  intro m i a e acc he hi hm ha;obtain⟨m,rfl⟩:∃j,m=j+1:=⟨m-1,by omega⟩
  simp only [s0,zO,aup,show i<u by omega,aug,aui,apJ he,ak,aur]
  rw [lj (by omega),aK,bm (by omega)]
  exact aG m (i+1) a e _ he (by omega) (by omega) (by simp [ha])
theorem adi{r1 r2:Int×Int×Int}{r3:aux×Int×Int}{l:List bq}{r24:Bool×Int×Int}{t:aux}{ks ws:jI}(Z:hV r1.1)(ab:hV r2.1)(ao:qS n (n2 (r1.1,r2.1,r3.1,l,r24.1,(ks,ws)))):
 sZ n r1 r2 s r3 l r24 (bu s t) 0 ks ws=some (res Gr s (if tE (n2 (r1.1,r2.1,r3.1,l,r24.1,(ks,ws)))then .ok (n2 (r1.1,r2.1,r3.1,l,r24.1,(ks,ws)),t)else .error 5)):=by
 unfold sZ tE;unfold hV at Z ab;simp only [aug,auk,auj];by_cases hb:r1.1≤32∧r2.1≤1099511627776
 ·simp only [show¬ 32<r1.1 by omega,show¬ 1099511627776<r2.1 by omega,auh,auj,wr (x:=r1.1) (by omega) (by omega),wr (x:=r2.1) (by omega) (by omega)]
  rw [show oE n ⟨r1.1,r2.1,r3.1,l,r24.1,⟨false,ks,ws⟩⟩=some (pI (n2 (r1.1,r2.1,r3.1,l,r24.1,(ks,ws))))from ME hn aI ao,ak]
  rw [show decide ((n2 (r1.1,r2.1,r3.1,l,r24.1,(ks,ws))).Client≤32)=true from decide_eq_true hb.1,show decide ((n2 (r1.1,r2.1,r3.1,l,r24.1,(ks,ws))).Seq≤1099511627776)=true from decide_eq_true hb.2]
  by_cases av:pI (n2 (r1.1,r2.1,r3.1,l,r24.1,(ks,ws)))=0
  ·simp only [av,aug,auk,auj,Bool.and_self,auv];rfl
  ·simp only [av,auh,aul,aui,Bool.and_false,Bool.false_eq_true,auw];rfl
 ·have aj:(bif (decide (32<r1.1))then true else(decide (1099511627776<r2.1)))=true:=by
   rw [dv,←Bool.decide_or];exact decide_eq_true (by omega)
  have aC:(decide ((n2 (r1.1,r2.1,r3.1,l,r24.1,(ks,ws))).Client≤32)&&decide ((n2 (r1.1,r2.1,r3.1,l,r24.1,(ks,ws))).Seq≤1099511627776))=false:=by
   rw [←Bool.decide_and];exact decide_eq_false hb
  simp only [aj,aC,aui,Bool.false_and,Bool.false_eq_true,auw];rfl
theorem apO{t:aux}(aF:t <:+ s):Jh n s (bu s t)=some (res Gr s (x7 t)):=by
 unfold Jh x7 mP fV UO dO;rw [ade hn aI hs aF,ak];cases g1:ig t with
 |error e=>
  have he:=mR.db _ _ g1;rw [fH];simp only [UT he,MX he,MW he,ak];exact Gs hn aI hs (u:=0) (by omega) 0 n 0 _ e [] he rfl (by omega) rfl
 |ok r=>
  obtain⟨dA,t1⟩:=r;have ku:=jg mR g1 aF;have Cq:=(mR.gx _ _ _ g1).2;rw [hh];simp only
  rw [ade hn aI hs ku,ak];cases g2:ig t1 with
  |error e=>
   have he:=mR.db _ _ g2;rw [fH];simp only [UT he,MX he,MW he,ak];exact Gs hn aI hs (u:=0) (by omega) 0 n 0 _ e [] he rfl (by omega) rfl
  |ok r=>
   obtain⟨ey,t2⟩:=r;have jR:=jg mR g2 ku;have q5:=(mR.gx _ _ _ g2).2;rw [hh];simp only
   rw [show(16:Int)=((16:Nat):Int)from rfl,adg hn aI hs (by omega) jR,ak]
   cases g3:f9 16 t2 with
   |error e=>
    have he:=MT.db _ _ g3;rw [fH];simp only [UT he,MX he,MW he,ak];exact Gs hn aI hs (u:=0) (by omega) 0 n 0 _ e [] he rfl (by omega) rfl
   |ok r=>
    obtain⟨jb,t3⟩:=r;have Gn:=jg MT g3 jR;have adj:=(MT.gx _ _ _ g3).2;rw [hh];simp only
    rw [show(6:Int)=((6:Nat):Int)from rfl,adf hn aI hs (by omega) Gn,ak]
    unfold jy;cases h:jf 6 t3 with
    |error e=>
     have he:=oS h;rw [r5 h,fH];exact Gs hn aI hs (u:=0) (by omega) 0 n 0 _ e [] he rfl (by omega) rfl
    |ok r=>
     obtain⟨u,bS⟩:=r;obtain⟨Z,ab,aj⟩:=pG h;have eM:bS <:+ s:=List.IsSuffix.trans ⟨e_ u,Z.symm⟩ Gn;have hu:=eM.length_le;rw [r4 h,hh]
     have c8:=vo (L:=λm i t acc=>s0 n (dA,bu s t1,0) (ey,bu s t2,0) ((u:Int),bu s bS,0) s (jb,bu s t3,0) m (bu s t) 0 acc (i:Int)) (f:=λ_ v=>v) (D:=mS) (u:=u) (s:=s) (fin:=λacc t=>zN n (dA,bu s t1,0) (ey,bu s t2,0) s (jb,bu s t3,0) (bu s t) 0 acc) (bad:=λe x=>x=some (Gr,0,e)) (λx v t hx=>tB.lR hx) (by
      intro m i t acc hm hi ha aF;simp only [s0,zO,aup,hi,aug,aui];rw [apL hn aI hs aF,ak];have gm:room (acc.length+1) 32=true:=lj (by omega)
      cases g3:mS t with
      |error e=>
       have he:=tB.db _ _ g3;rw [fH];simp only [aur,gm,aK];rw [bm (by omega)]
       exact Gs hn aI hs (by omega) (u-(i+1)) m (i+1) _ e _ he (by omega) (by omega) (by simp [ha])
      |ok r=>
       obtain⟨v,t3⟩:=r;rw [hh];simp only [aur,gm,aK];rw [bm (by omega)]) (by
      intro m t acc ha aF;simp only [s0,zO,aut,auh,auj]) u n 0 bS [] (by omega) (by omega) rfl eM
     cases ai:hA mS u bS with
     |error e=>rw [ai]at c8;simp only [ai]at c8 ⊢;exact c8
     |ok r=>
      obtain⟨l,t4⟩:=r;obtain⟨aN,bp,cn⟩:=(tB.rep u).gx _ _ _ ai;have MM:t4 <:+ s:=jg (tB.rep u) ai eM;rw [ai]at c8;simp only [List.nil_append,vp,ai]at c8 ⊢;refine c8.trans ?_;unfold zN;rw [apK hn aI hs MM,ak];cases g5:r0 t4 with
      |error e=>
       have he:=Uv.db _ _ g5;rw [fH];simp only [auj,sZ,gK he,aui,fH]
      |ok r=>
       obtain⟨b,t5⟩:=r;have adk:=jg Uv g5 MM;rw [hh];cases b with
       |false=>
        simp only [auj];have ao:n3 (n2 (dA,ey,jb,l,false,([],[]))):=⟨Cq,q5,adj,⟨by show l.length≤6;omega,cn⟩,rfl,rfl⟩
        exact adi hn aI hs (r1:=(dA,bu s t1,0)) (r2:=(ey,bu s t2,0)) (r3:=(jb,bu s t3,0)) (l:=l) (r24:=(false,bu s t5,0)) (t:=t5) (ks:=[]) (ws:=[]) Cq q5 (US hn ao)
       |true=>
        have hk:=adh hn aI hs adk;simp only [aui,UN,auv,dO];cases g6:x5 t5 with
        |error e=>
         have he:=x6.db _ _ g6;rw [g6]at hk;obtain⟨v,a,hk⟩:=hk;rw [hk,ak];obtain⟨m6,eb,sI⟩:=apM hn aI hs (a:=a) he;simp only [sI,ak,sZ,gK he,aui,fH]
        |ok r=>
         obtain⟨ks,t6⟩:=r;have apP:=jg x6 g6 adk;have apQ:=(x6.gx _ _ _ g6).2;rw [g6]at hk;simp only at hk ⊢
         rw [hk,ak];have hk:=adh hn aI hs apP;simp only
         cases g7:x5 t6 with
         |error e=>
          have he:=x6.db _ _ g7;rw [g7]at hk;obtain⟨v,a,hk⟩:=hk;rw [hk,ak];simp only [sZ,gK he,aui,fH]
         |ok r=>
          obtain⟨ws,t7⟩:=r;have apR:=(x6.gx _ _ _ g7).2;rw [g7]at hk;simp only at hk ⊢
          rw [hk,ak];simp only
          have ao:n3 (n2 (dA,ey,jb,l,true,(ks,ws))):=⟨Cq,q5,adj,⟨by show l.length≤6;omega,cn⟩,⟨apQ,apR⟩,rfl⟩
          exact adi hn aI hs (r1:=(dA,bu s t1,0)) (r2:=(ey,bu s t2,0)) (r3:=(jb,bu s t3,0)) (l:=l) (r24:=(true,bu s t5,0)) (t:=t7) (ks:=ks) (ws:=ws) Cq q5 (US hn ao)
theorem apS{t:aux}(aF:t <:+ s):Jj n s (bu s t)=some (res [] s (pM t)):=by
 unfold Jj pM jy;rw [show(64:Int)=((64:Nat):Int)from rfl,vj aF (by omega) (by omega) (by omega),ak]
 cases h:jf 64 t with
 |error e=>rw [r5 h,fH];simp only [gK (oS h),aui,fH]
 |ok r=>
  obtain⟨u,bS⟩:=r;obtain⟨Z,ab,aj⟩:=pG h;have eM:bS <:+ s:=List.IsSuffix.trans ⟨e_ u,Z.symm⟩ aF;have hu:=eM.length_le;rw [r4 h,hh];simp only [aug,auk,auj];rw [show w2 n s ((u:Int),bu s bS,0) n [] 0 (bu s bS)=_ from acO (L:=λm i t acc=>w2 n s ((u:Int),bu s bS,0) m acc (i:Int) (bu s t)) (D:=x7) (u:=u) (s:=s) (fin:=λacc t=>some (acc,bu s t,0)) (bad:=λe=>some ([],0,e)) (λx v t hx=>UP.lR hx) ?_ ?_ (by omega) eM]
  ·cases ai:hA x7 u bS with
   |error e=>rfl
   |ok r=>rfl
  ·intro m i t acc hi ha aF;simp only [w2,Ji,aup,hi,aug,aui];rw [apO hn aI hs aF,ak];cases aC:x7 t with
   |error e=>rw [fH];simp only [gK (UP.db _ _ aC),aui]
   |ok r=>
    obtain⟨x,t1⟩:=r;rw [hh];simp only [aug,auk,auj,aur];rw [lj (by omega),aK,bm (by omega)]
  ·intro m t acc ha aF;simp only [w2,Ji,aut,auh,auj,QH]
end
section
variable {n:Nat} (hn:2000≤n) (aI:n≤1000000000) {s:aux} (hs:s.length<n)
include hn aI hs
end
structure adl(p:bb):Prop where
 v:mF p=0
 i:qJ p
 w:aml p≤125000
def gL(p:bb):aux:=if mF p=0 then kS p else[]
structure mT(p:bb):Prop where
 i:qJ p
 n:p.Name.length≤300000
 f:h4 p.Params≤300000
 b:dq p.Body≤300000
def adl.fW{p:bb}(h:adl p):mT p:=by
 have hw:p.Name.length+h4 p.Params+dq p.Body≤125000:=h.w;exact⟨h.i,by omega,by omega,by omega⟩
def UV{n:Nat}{p:bb}(h:mT p)(hn:3000000≤n):uw n p=some (gL p):=by
 have Z:=h.n;have ab:=h.f;have aj:=h.b;unfold gL;by_cases av:mF p=0
 ·rw [if_pos av];exact an_ p h.i av hn h.f h.b
 ·rw [if_neg av];unfold uw;rw [TM p (by omega) (by omega) (by omega) (by omega) (by omega)]
  simp only [ak,av,auh,aul,aui]
def apT{n:Nat}{p:bb}(h:mT p)(hn:3000000≤n):AS n p=some (gL p):=by
 have Z:=h.n;have ab:=h.f;have aj:=h.b;unfold gL;by_cases av:mF p=0
 ·rw [if_pos av];exact aoE p h.i av hn h.f h.b
 ·rw [if_neg av];unfold AS;rw [abo p (by omega) (by omega) (by omega) (by omega) (by omega) (by omega) (by omega)]
  simp only [ak,av,auh,aul,aui]
def apU{p:bb}(h:mT p):(gL p).length≤1300000:=by
 unfold gL;by_cases av:mF p=0
 ·rw [if_pos av];have:=acf (Mq h.i av)
  have aj:=h.b;omega
 ·rw [if_neg av];simp
def x9(x:az):(⟨x.cd,x.b2,x.Rows⟩:az)=x:=rfl
def B2(x:b7):(⟨x.Version,x.aD⟩:b7)=x:=rfl
def UW(x:Request):(⟨x.Client,x.Seq,x.bb,x.ar,x.ez,(⟨x.bk.dH,x.bk.Reads,x.bk.cm⟩:fc)⟩:Request)=x:=rfl
def B3(x:bU):(⟨x.Pos,(⟨x.az.cd,x.az.b2,x.az.Rows⟩:az),x.cc,x.cJ,(⟨x.Place.Version,x.Place.aD⟩:b7),x.bh,x.Queue,x.de⟩:bU)=x:=rfl
def tF(l:List bb):Bool:=(allI l.length λi=>!(decide (gL (l.getD i default)=[])||decide (16384<(((gL (l.getD i default)).length:Nat):Int)))&&(!decide (0<(i:Int))||Op.bytesLess (l.getD (pv i) default).Name (l.getD i default).Name))&&decide (l.length≤16)
def x'(l:List Request):Bool:=(allI l.length λi=>decide (pI (l.getD i default)=0))&&decide (l.length≤64)
def gy(r:bU):Bool:=((((((((decide (0≤r.Pos)&&decide (r.Pos≤1099511627776))&&lk r.az)&&decide (r.az.b2=r.Pos))&&tF r.cc)&&n1 r.cJ)&&nn r.Place)&&r7 r.bh)&&x' r.Queue)
structure tG(n:Nat)(r:bU):Prop where
 st:BW n r.az
 x_:r.cc.length<n
 kU:∀i,mT (r.cc.getD i default)
 tH:r.cJ.length<n
 n5:∀i,pJ n (r.cJ.getD i default)
 pl:r.Place.aD.length<n
 B4:∀i,r_ (r.Place.aD.getD i default)
 aF:r.bh.length<n
 ky:∀i,(r.bh.getD i default).Key.length≤1000
 n6:r.Queue.length<n
 tI:∀i,qS n (r.Queue.getD i default)
def adm:mT default:=by
 refine⟨⟨by show([]:aux).length≤_;simp,by show([]:List Param).length≤_;simp,λi hi=>by exact absurd hi (by show¬ i<([]:List Param).length;simp),trivial⟩,by show([]:aux).length≤_;simp,by show h4 []≤_;simp [h4],by show dq []≤_;simp [dq]⟩
section
variable {n:Nat} (hn:3000000≤n) (aI:n≤1000000000)
include hn aI
theorem apV{l:List bb}(aa:l.length<n)(h:∀i,mT (l.getD i default)):I3 n l=some (tF l):=by
 unfold I3 tF;rw [h6 (L:=zz n l) (chk:=λi=>!(decide (gL (l.getD i default)=[])||decide (16384<(((gL (l.getD i default)).length:Nat):Int)))&&(!decide (0<(i:Int))||Op.bytesLess (l.getD (pv i) default).Name (l.getD i default).Name)) (no:=false) (yes:=true) aa,me]
 ·simp only [eO];by_cases ao:l.length≤16
  ·simp only [ao,show¬ 16<l.length by omega,aug,auh,auj,Bool.and_true]
  ·simp only [ao,show 16<l.length by omega,aug,auh,aui,Bool.and_false]
 ·intro m i hi;simp only [zz,I2,aup,hi,aug,aui,bw hi,aK,ak,auo,bm (show i≤4611686018427387904 by omega),UV (h i) hn,md hi (show l.length≤1000000000 by omega)]
  exact iR (by simp only [dv,eg,Bool.not_and,Bool.not_or,Bool.not_not,←vk])
 ·intro m;simp only [zz,I2,Qr,aut,auh,auj]
theorem apW{l:List bb}(aa:l.length<n)(h:∀i,mT (l.getD i default)):KR n l=some (tF l):=by
 unfold KR tF;rw [h6 (L:=AT n l) (chk:=λi=>!(decide (gL (l.getD i default)=[])||decide (16384<(((gL (l.getD i default)).length:Nat):Int)))&&(!decide (0<(i:Int))||Op.bytesLess (l.getD (pv i) default).Name (l.getD i default).Name)) (no:=false) (yes:=decide (l.length≤16)) aa,r6]
 ·intro m i hi;simp only [AT,KQ,aup,hi,aug,aui,bw hi,aK,ak,auo,bm (show i≤4611686018427387904 by omega),apT (h i) hn,BR hi,md hi (show l.length≤1000000000 by omega),auu]
  exact iR (by simp only [dv,eg,Bool.not_and,Bool.not_or,Bool.not_not])
 ·intro m;simp only [AT,KQ,Si,aut,auh,auj,jG]
theorem adn(x y:Int):decide (x<y) = !decide (y≤x):=by
 by_cases h:y≤x
 ·rw [decide_eq_true h,decide_eq_false (by omega)];rfl
 ·rw [decide_eq_false h,decide_eq_true (by omega)];rfl
theorem MY{r:bU}(h:tG n r):rz n r=some (gy r):=by
 have e1:wW n r n 0=some (if(allI r.Queue.length λi=>decide (pI (r.Queue.getD i default)=0)) then((n1 r.cJ&&nn r.Place)&&r7 r.bh)else false):=by
  refine h6 (L:=wW n r) h.n6 ?_ ?_
  ·intro m i hi;simp only [wW,I8,aup,hi,aug,aui,bw hi,aK,auo,bm (show i≤4611686018427387904 by have:=h.n6;omega)]
   rw [ME (by omega) aI (h.tI i),ak]
   exact iR rfl
  ·intro m;simp only [wW,I8,Qz,aut,auh,auj];rw [MG (by omega) aI h.tH h.n5,acX (by omega) aI h.pl h.B4,apa (by omega) aI h.aF]
   simp only [ak,oT,eg];cases n1 r.cJ<;>cases nn r.Place<;>rfl
 unfold rz;rw [e1,UH (by omega) aI h.st,apV hn aI h.x_ h.kU]
 simp only [ak,oT,dv,eg,eO];unfold gy x';rw [show decide (r.Pos<0) = !decide (0≤r.Pos)from adn hn aI _ _,show decide (1099511627776<r.Pos) = !decide (r.Pos≤1099511627776)from adn hn aI _ _]
 by_cases ao:r.Queue.length≤64
 ·simp only [ao,show¬ 64<r.Queue.length by omega,aug,auh,Bool.and_true,Bool.or_false,r6]
  cases decide (0≤r.Pos)<;>cases decide (r.Pos≤1099511627776)<;>cases lk r.az<;>cases decide (r.az.b2=r.Pos)<;>cases tF r.cc<;>cases n1 r.cJ<;>cases nn r.Place<;>cases r7 r.bh<;>simp
 ·simp only [ao,show 64<r.Queue.length by omega,aug,auh,Bool.and_false,auu,aui]
theorem apX{l:List Request}(aa:l.length<n)(h:∀i,qS n (l.getD i default)):KW n l=some (x' l):=by
 unfold KW x';rw [h6 (L:=AV n l) (chk:=λi=>decide (pI (l.getD i default)=0)) (no:=false) (yes:=decide (l.length≤64)) aa,r6]
 ·intro m i hi;simp only [AV,KV,aup,hi,aug,aui,bw hi,aK,ak,auo,bm (show i≤4611686018427387904 by omega),ape (show 2000≤n by omega) aI (h i)]
  exact iR rfl
 ·intro m;simp only [AV,KV,Sl,aut,auh,auj,jG]
theorem apY{r:bU}(h:tG n r):KX n r=some (gy r):=by
 unfold KX gy;rw [ac5 (by omega) aI h.st,apW hn aI h.x_ h.kU,apn (by omega) aI h.tH h.n5,api (by omega) aI h.pl h.B4,apb (by omega) aI h.aF h.ky,apX hn aI h.n6 h.tI]
 simp only [ak,oT,eg];cases decide (0≤r.Pos)<;>cases decide (r.Pos≤1099511627776)<;>cases lk r.az<;>cases decide (r.az.b2=r.Pos)<;>cases tF r.cc<;>cases n1 r.cJ<;>cases nn r.Place<;>cases r7 r.bh<;>rfl
omit hn aI in
theorem sg{L:Nat→Int→auB}{len:Nat}{m:Nat}(hm:len<m)(step:∀m i,i<len→L (m+1) (i:Int)=L m ((i+1:Nat):Int))(stop:∀m,L (m+1) (len:Int)=some true):L m 0=some true:=by
 have:=h6 (chk:=λ_=>true) (no:=false) (yes:=true) hm (λm i hi=>by rw [step m i hi,if_pos rfl]) stop
 rw [this,me]
 congr 1
 rw [ih];exact λ_ _=>rfl
theorem apZ{s:az}(h:BW n s):Am n s s=some true:=by
 have Z:=h.rows;unfold Am;simp only [aug,auk,auj];refine sg (L:=pq n s s) Z (λm i hi=>?_) (λm=>?_)
 ·have ab:=(h.row i).BV;simp only [pq,Al,aup,hi,aug,aui,bw hi,aK,auo,auk,auj]
  have:=UE (L:=s5 n (pq n s s m) (i:Int) s s) (len:=(s.Rows.getD i default).bj.length) (chk:=λ_=>true) (no:=false) (yes:=pq n s s m ((i+1:Nat):Int)) (m:=n) ab (λap0 k hk=>by
   simp only [s5,Ak,aup,auo,hk,aug,aui,bw hk,aK,Bool.and_self,auk,auj,auv,bm (show k≤4611686018427387904 by omega)]) (λap0=>by
   simp only [s5,Ak,J2,auo,aut,auh,auj,bm (show i≤4611686018427387904 by omega)])
  rw [this,if_pos];rw [ih];exact λ_ _=>rfl
 ·simp only [pq,Al,J1,aut,auh,auj]
theorem ap1{l:List bb}(aa:l.length<n)(h:∀i,mT (l.getD i default)):Aj n l l=some true:=by
 unfold Aj;simp only [aug,auk,auj];refine sg (L:=uK n l l) aa (λm i hi=>?_) (λm=>?_)
 ·have Z:=h i;have ab:=Z.f;have aj:=Z.b;have aC:=xN (l.getD i default).Params;simp only [uK,Ai,aup,hi,aug,aui,bw hi,aK,auo,amL (n:=n) (l.getD i default) (by omega) (by omega) (by omega) (by omega),ak,auk,auj,bm (show i≤4611686018427387904 by omega)]
 ·simp only [uK,Ai,J0,aut,auh,auj]
theorem ap2{o:Outcome}(h:x1 n o):s6 n o o=some true:=by
 have Z:=h.out;unfold s6;simp only [aug,auk,auj];refine sg (L:=uP n o o) Z (λm i hi=>?_) (λm=>?_)
 ·simp only [uP,Au,aup,hi,aug,aui,bw hi,aK,auo,Bool.and_self,auk,auj,bm (show i≤4611686018427387904 by omega)]
 ·simp only [uP,Au,J7,aut,auh,auj]
theorem ap3{s:bL}(h:pJ n s):Aw n s.bJ s.bJ=some true:=by
 have Z:=h.rep;unfold Aw;simp only [aug,auk,auj];refine sg (L:=uQ n s.bJ s.bJ) Z (λm i hi=>?_) (λm=>?_)
 ·have:=ap2 hn aI (h.out i)
  simp only [uQ,Av,EE,aup,hi,aug,aui,bw hi,aK,auo];rw [show s6 n ⟨(s.bJ.getD i default).Outcome.Status,(s.bJ.getD i default).Outcome.Code,(s.bJ.getD i default).Outcome.Out⟩ ⟨(s.bJ.getD i default).Outcome.Status,(s.bJ.getD i default).Outcome.Code,(s.bJ.getD i default).Outcome.Out⟩=some true from this]
  simp only [ak,aui,auk,auj,bm (show i≤4611686018427387904 by omega)]
 ·simp only [uQ,Av,J8,aut,auh,auj]
theorem ap4{l:List bL}(aa:l.length<n)(h:∀i,pJ n (l.getD i default)):Ay n l l=some true:=by
 unfold Ay;simp only [aug,auk,auj];refine sg (L:=s7 n l l) aa (λm i hi=>?_) (λm=>?_)
 ·simp only [s7,Ax,aup,hi,aug,aui,bw hi,aK,auo,ap3 hn aI (h i),ak,auk,aul,auj,Bool.false_or,bm (show i≤4611686018427387904 by omega)]
 ·simp only [s7,Ax,J9,aut,auh,auj]
theorem ap5{p:b7}(aa:p.aD.length<n):Ao n p p=some true:=by
 unfold Ao;simp only [aug,auk,auj];refine sg (L:=uL n p p) aa (λm i hi=>?_) (λm=>?_)
 ·simp only [uL,An,aup,hi,aug,aui,bw hi,aK,auo,Bool.and_self,auk,auj,bm (show i≤4611686018427387904 by omega)]
 ·simp only [uL,An,J3,aut,auh,auj]
theorem ap6{l:List bh}(aa:l.length<n):Aq n l l=some true:=by
 unfold Aq;simp only [aug,auk,auj];refine sg (L:=uM n l l) aa (λm i hi=>?_) (λm=>?_)
 ·simp only [uM,Ap,aup,hi,aug,aui,bw hi,aK,auo,Bool.and_self,auk,auj,bm (show i≤4611686018427387904 by omega)]
 ·simp only [uM,Ap,J4,aut,auh,auj]
theorem ado{l:jI}(aa:l.length<n):xi n l l=some true:=by
 unfold xi;simp only [aug,auk,auj];refine sg (L:=uN n l l) aa (λm i hi=>?_) (λm=>?_)
 ·simp only [uN,Ar,aup,hi,aug,aui,bw hi,aK,auo,auk,auj,bm (show i≤4611686018427387904 by omega)]
 ·simp only [uN,Ar,J5,aut,auh,auj]
theorem ap7{r:Request}(h:qS n r):At n r r=some true:=by
 have Z:=h.args;unfold At xj;rw [ado hn aI h.BS,ado hn aI h.BT];simp only [aug,auk,auj,beq_self_eq_true,aul,aui,ak];refine sg (L:=uO n r r) Z (λm i hi=>?_) (λm=>?_)
 ·simp only [uO,As,aup,hi,aug,aui,bw hi,aK,auo,Bool.and_self,auk,auj,bm (show i≤4611686018427387904 by omega)]
 ·simp only [uO,As,J6,aut,auh,auj]
theorem ap8{r:bU}(h:tG n r):s9 n r r=some true:=by
 have Z:=h.n6;unfold s9;rw [apZ hn aI h.st,ap1 hn aI h.x_ h.kU,ap4 hn aI h.tH h.n5,ap5 hn aI h.pl,ap6 hn aI h.aF];simp only [aug,auk,aul,auj,aui,ak];refine sg (L:=s8 n r r) Z (λm i hi=>?_) (λm=>?_)
 ·simp only [s8,Az,aup,hi,aug,aui,bw hi,aK,auo,ap7 hn aI (h.tI i),ak,auk,auj,bm (show i≤4611686018427387904 by omega)]
 ·simp only [s8,Az,J',aut,auh,auj]
end
end Go.Ab.Y

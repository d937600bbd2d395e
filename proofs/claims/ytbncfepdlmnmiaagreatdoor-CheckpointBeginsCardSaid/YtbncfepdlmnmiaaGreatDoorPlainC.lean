/- The plain law: what the functions compute answers as the statement says. -/
import Derived.Test.YtbncfepdlmnmiaaGreatDoorPlainB
set_option linter.all false
namespace Go.Ab.Y
open Go Go.Ab Go.Proofs
def aqx(n:Nat)(t:Int):Tg n t=some (n0 t):=adY n t
def aeg(x:av3):∀l:List av3,Lib.joinTail [44,32] (l++[x])=Lib.joinTail [44,32] l++([44,32]++x)
 |[]=>by simp [Lib.joinTail]
 |y::l=>by rw [List.cons_append,FR,FR,aeg x l];simp
def aqy(x:av3)(l:List av3):Lib.join (l++[x]) [44,32]=(if l.length=0 then Lib.join l [44,32]else Lib.join l [44,32]++[44,32])++x:=by
 cases l with
 |nil=>simp [Lib.join,Lib.joinTail]
 |cons y l=>rw [List.cons_append,Lib.join_cons,Lib.join_cons,aeg,if_neg (by simp)];simp
def aqz{n:Nat}(p:bg)(hi:rK p)(av:mI p=0)(hn:3000000≤n)(ba:h8 p.Params≤300000)(cW:dC p.Body≤300000):AK n p=some (kY p):=by
 have hp:=Mc hi av;obtain⟨Z,ab,aj⟩:=hp;obtain⟨aD,aX⟩:=FQ ab;have cZ:=pB Z;have dr:=oL p.Body 1 aj;unfold AK;rw [ada p (by omega) (by omega) (by omega) (by omega) (by omega) (by omega) (by omega),av]
 simp only [an,avM,avQ,avP];rw [gG (by simp only [avS,avT];omega),gG (by simp only [avW,avS,avT];omega)]
 simp only [aT]
 have gS:∀m i,p.Params.length<i+m→i≤p.Params.length→EL n p m ((([112,114,111,99,32]++p.Name)++[40])++nj (p.Params.take i)) (i:Int)=some (kY p):=by
  intro m;induction m with
  |zero=>intro i g1 g2;omega
  |succ m aJ=>
   intro i g1 g2;have aeh:(nj (p.Params.take i)).length≤24*(p.Params.take i).length:=Vd λx hx=>aX x (List.mem_of_mem_take hx)
   have aqA:(p.Params.take i).length≤6:=by simp;omega
   simp only [EL,Tj,K2,Ti,avV,avU];by_cases hi:i<p.Params.length
   ·have hx:=aX (p.Params.getD i default) (by rw [List.getD_eq_getElem?_getD,List.getElem?_eq_getElem hi];exact List.getElem_mem hi)
    have hnx:=pB hx.1;have ad5:=Vc (p.Params.getD i default).fy;have gt:=aJ (i+1) (by omega) (by omega)
    unfold nj at gt aeh ⊢;rw [xC p.Params i hi,List.map_append]at gt;simp only [List.map_cons,List.map_nil]at gt;rw [aqy]at gt;generalize m5:p.Params.getD i default=x at gt hnx ad5
    simp only [hi,avM,avO,b1 hi,aT,aqx,an,eb (show i≤4611686018427387904 by omega),fp]
    by_cases h0:i=0
    ·subst h0;simp (disch:=first|omega|(simp only [avW,avS,avT];omega)) only [Nat.lt_irrefl,decide_false,cond_false,gG,aT]
     rw [←gt];simp [mP]
    ·simp (disch:=first|omega|(simp only [avW,avS,avT];omega)) only [show 0<i by omega,decide_true,cond_true,gG,aT]
     rw [←gt,if_neg (by rw [List.length_map,List.length_take];omega)];simp [mP]
   ·simp only [hi,avN,avP];obtain rfl:i=p.Params.length:=by omega
    unfold Th;rw [List.take_length]at aeh aqA ⊢;rw [show(1:Int)=((1:Nat):Int)from rfl,aqu n p.Body 1 aj cW (by omega)]
    simp (disch:=first|omega|(simp only [avW,avS,avT];omega)) only [an,gG,aT]
    simp [kY,dA,cat,ind]
 have:=gS n 0 (by omega) (by omega)
 rw [show nj (p.Params.take 0)=[]from rfl,List.append_nil]at this
 exact this
def aqB{β:Type}{L:Nat→Int→Option β}{len:Nat}{chk:Nat→Bool}{no yes:β}
 (step:∀m i,i<len→L (m+1) (i:Int)=if chk i then L m ((i+1:Nat):Int)else some no) (stop:∀m,L (m+1) (len:Int)=some yes):
 ∀m i,len<i+m→i≤len→L m (i:Int)=some (if(List.range' i (len-i)).all chk then yes else no):=by
 intro m;induction m with
 |zero=>intro i h ab;omega
 |succ m aJ=>
  intro i h ab;by_cases hi:i<len
  ·rw [step m i hi,aJ (i+1) (by omega) (by omega),show len-i=(len-(i+1))+1 by omega,List.range'_succ,List.all_cons]
   cases chk i
   ·rfl
   ·rw [if_pos rfl,Bool.true_and]
  ·obtain rfl:i=len:=by omega
   rw [stop m];simp
def Vm{β:Type}{L:Nat→Int→Option β}{len:Nat}{chk:Nat→Bool}{no yes:β}{m:Nat}(hm:len<m)
 (step:∀m i,i<len→L (m+1) (i:Int)=if chk i then L m ((i+1:Nat):Int)else some no) (stop:∀m,L (m+1) (len:Int)=some yes):
 L m 0=some (if(List.range len).all chk then yes else no):=by
 have:=aqB step stop m 0 (by omega) (by omega)
 rwa [Nat.sub_zero,←List.range_eq_range']at this
def qD(c:UInt8):Bool:=decide (97≤c.toNat∧c.toNat≤122)||decide (48≤c.toNat∧c.toNat≤57)||decide (c.toNat=47)||decide (c.toNat=46)||decide (c.toNat=95)||decide (c.toNat=45)
def jx(k:av3):Bool:=decide (1≤k.length)&&decide (k.length≤24)&&(List.range k.length).all λi=>qD (k.getD i 0)
def aqC{n:Nat}{s:av3}(h:24<n):HO n s=some (decide (s.length≤24)&&(List.range s.length).all λi=>qD (s.getD i 0)):=by
 unfold HO;by_cases aa:s.length≤24
 ·simp only [fp,show¬ 24<s.length by omega,avN,avP,aa,avM,Bool.true_and]
  rw [Vm (L:=yV n s) (len:=s.length) (chk:=λi=>qD (s.getD i 0)) (no:=false) (yes:=true) (by omega)]
  ·cases (List.range s.length).all λi=>qD (s.getD i 0)<;>rfl
  ·intro m i hi;simp only [yV,HN,Pl,avV,hi,avM,avO,b1 hi,aT,an,avU,eb (show i≤4611686018427387904 by omega),s',lR,fx,dH,el]
   have:(((((decide (97≤(s.getD i 0).toNat)&&decide ((s.getD i 0).toNat≤122)||(decide (48≤(s.getD i 0).toNat)&&decide ((s.getD i 0).toNat≤57)))||decide ((s.getD i 0).toNat=47))||decide ((s.getD i 0).toNat=46))||decide ((s.getD i 0).toNat=95))||decide ((s.getD i 0).toNat=45))=qD (s.getD i 0):=by
    simp [qD,Bool.decide_and]
   rw [this];cases qD (s.getD i 0)<;>rfl
  ·intro m;simp only [yV,HN,Pm,avZ,avN,avP]
 ·simp only [fp,show 24<s.length by omega,avM,avO,aa,avN,Bool.false_and]
def Mm{n:Nat}{k:av3}(h:24<n):wv n k=some (jx k):=by
 unfold wv jx;rw [aqC h];cases k with
 |nil=>rfl
 |cons c l=>simp [an]
def aqD(c:Nat):(((((decide (c<97)||decide (122<c))&&(decide (c<48)||decide (57<c))) && !decide (c=47)) && !decide (c=46)) && !decide (c=95) && !decide (c=45)) = !(decide (97≤c∧c≤122)||decide (48≤c∧c≤57)||decide (c=47)||decide (c=46)||decide (c=95)||decide (c=45)):=by
 rw [Bool.eq_iff_iff];simp only [Bool.and_eq_true,Bool.or_eq_true,decide_eq_true_eq,Bool.not_eq_true',Bool.or_eq_false_iff,decide_eq_false_iff_not];omega
def Mn{n:Nat}{k:av3}(h:k.length<n)(hk:k.length≤9223372036854775807):xb n k=some (jx k):=by
 unfold xb;rw [Vm (L:=Ac n k) (len:=k.length) (chk:=λi=>qD (k.getD i 0)) (no:=false) (yes:=decide (1≤k.length)&&decide (k.length≤24)) h]
 ·unfold jx;cases (List.range k.length).all λi=>qD (k.getD i 0)<;>simp
 ·intro m i hi;simp only [Ac,JX,avV,hi,avM,avO,b1 hi,aT,avU,cR (show i≤9223372036854775806 by omega),ps,fp,fx,dH,el]
  have:=aqD (k.getD i 0).toNat
  rw [show(decide (97≤(k.getD i 0).toNat∧(k.getD i 0).toNat≤122)||decide (48≤(k.getD i 0).toNat∧(k.getD i 0).toNat≤57)||decide ((k.getD i 0).toNat=47)||decide ((k.getD i 0).toNat=46)||decide ((k.getD i 0).toNat=95)||decide ((k.getD i 0).toNat=45))=qD (k.getD i 0)from rfl]at this
  rw [this];cases qD (k.getD i 0)<;>rfl
 ·intro m;simp only [Ac,JX,RQ,avZ,avN,avP,s',lR,el]
def aei(n:Nat)(s:av3):∀m,C4 n s m=y8 n s m
 | 0=>rfl
 |m+1=>by
  show Pp n s (C4 n s m)=_
  rw [aei n s m];rfl
def aej{n:Nat}{s:av3}(h:s.length<n)(hs:s.length≤9223372036854775807):C5 n s=some (jv s):=by
 unfold C5;rw [aei];exact acs h hs
def aek(n:Nat)(s:av3):∀m,Ei n s m=AG n s m
 | 0=>rfl
 |m+1=>by
  show RP n s (Ei n s m)=_
  rw [aek n s m];rfl
def aqE{n:Nat}{s:av3}(h:s.length<n)(hs:s.length≤9223372036854775807):JW n s=some (jv s):=by
 unfold JW jv;by_cases aa:s.length≤64
 ·simp only [fp,show¬ 64<s.length by omega,avN,avP,aa,avM,Bool.and_true]
  rw [aek];exact aee s h hs
 ·simp only [fp,show 64<s.length by omega,avM,avO,aa,avN,Bool.and_false]
def ja(v:bH):Bool:=if v.Kind=0 then decide (v.N=0)&&decide (v.S=[])else if v.Kind=1 then decide (v.S=[])else decide (v.Kind=2)&&decide (v.N=0)&&jv v.S
def Mo{n:Nat}{v:bH}(h:v.S.length<n)(hs:v.S.length≤9223372036854775807):sJ n v=some (ja v):=by
 unfold sJ ja;by_cases h0:v.Kind=0
 ·simp [h0]
 ·by_cases Z:v.Kind=1
  ·simp [Z]
  ·by_cases ab:v.Kind=2
   ·by_cases aj:v.N=0
    ·simp [ab,aj,aej h hs]
    ·simp [ab,aj]
   ·simp [h0,Z,ab]
def Mp{n:Nat}{v:bH}(h:v.S.length<n)(hs:v.S.length≤9223372036854775807):uw n v=some (ja v):=by
 unfold uw ja;by_cases h0:v.Kind=0
 ·by_cases aj:v.N=0<;>simp [h0,aj]
 ·by_cases Z:v.Kind=1
  ·simp [Z]
  ·by_cases ab:v.Kind=2
   ·by_cases aj:v.N=0
    ·simp [ab,aj,aqE h hs]
    ·simp [ab,aj]
   ·simp [h0,Z,ab]
def bV(v:bH):av3:=if v.Kind=1 then fc 1++mQ v.N else if v.Kind=2 then fc 2++gk v.S else fc 0
def Vn{n:Nat}{v:bH}(hn:10≤n)(aV:e0 v.N)(hs:v.S.length≤4611686018427387904):ww n v=some (bV v):=by
 have Z:=rQ aV;have ab:=Mk hs;have hL:=nk (u:=1) (by omega)
 have kp:=nk (u:=2) (by omega)
 have bG:hQ n 0=some (fc 0):=u0 (u:=0) hn (by omega)
 have e1:hQ n 1=some (fc 1):=u0 (u:=1) hn (by omega)
 have e2:hQ n 2=some (fc 2):=u0 (u:=2) hn (by omega)
 unfold ww bV;by_cases dt:v.Kind=1
 ·simp (disch:=omega) only [dt,decide_true,cond_true,e1,an,xK hn aV,gG,aT,if_true]
 ·by_cases ak:v.Kind=2
  ·simp (disch:=omega) only [ak,show¬ (2:Int)=1 by omega,decide_true,decide_false,cond_true,cond_false,e2,an,u1 hn hs,gG,aT,if_true,if_false]
  ·simp only [dt,ak,avN,avP,bG,an,av2]
def ael{v:bH}(aV:e0 v.N)(hs:v.S.length≤4611686018427387904):(bV v).length≤v.S.length+20:=by
 have Z:=rQ aV;have ab:=Mk hs;have l0:=nk (u:=0) (by omega)
 have hL:=nk (u:=1) (by omega)
 have kp:=nk (u:=2) (by omega)
 unfold bV;split
 ·simp;omega
 ·split
  ·simp;omega
  ·omega
def kz:List Token→Nat
 |[]=>0
 |t::l=>(spell t).length+kz l
def aem:∀l m:List Token,kz (l++m)=kz l+kz m
 |[],m=>by simp [kz]
 |t::l,m=>by simp only [List.cons_append,kz,aem l m];omega
def ca(l:List Token)(i:Nat):Nat:=kz (l.take i)
def iU{α β:Type}(Q:α→β→Prop)(p:Option (aG α β)):Prop:=∀a z,p=some (.ret a z)→Q a z
def iU.ret{α β:Type}{Q:α→β→Prop}{a:α}{z:β}(h:Q a z):iU Q (some (.ret a z)):=λdS FT e=>by cases e;exact h
def iU.bl{α β:Type}{Q:α→β→Prop}{x:V}{z:β}:iU Q (some (.bl x z)):=λdS FT e=>by cases e
def iU.none{α β:Type}{Q:α→β→Prop}:iU Q none:=λdS FT e=>by cases e
def iU.bind{α β dO hP:Type}{Q:α→β→Prop}{R:dO→hP→Prop}{p:Option (aG α β)}{f:α→β→Option (aG dO hP)}{h:V→β→Option (aG dO hP)}(hp:iU Q p)(ba:∀a z,Q a z→iU R (f a z))(bm:∀x z,iU R (h x z)):
 iU R (Option.bind p λr=>aG.on r f h):=by
 match p,hp with
 |.none,_=>exact .none
 |some (.ret a z),hp=>exact ba a z (hp a z rfl)
 |some (.bl x z),_=>exact bm x z
def iU.bif{dO hP:Type}{R:dO→hP→Prop}{c:Bool}{p q:Option (aG dO hP)}(Z:c=true→iU R p)(ab:c=false→iU R q):iU R (bif c then p else q):=by cases c;exact ab rfl;exact Z rfl
def iU.ay{dO hP:Type}{R:dO→hP→Prop}{c:Bool}{p:Option (aG dO hP)}(Z:iU R p):iU R (Go.Ab.ay c p):=by cases c;exact .none;exact Z
section
variable {l:List Token}
theorem aen(e:Expr)(k:Nat):kz (eZ e k)=kz (fQ e)+if cd e.Op<k then 2 else 0:=by
 unfold eZ fD;split
 ·have Z:(spell (bh [40])).length=1:=rfl;have ab:(spell (bh [41])).length=1:=rfl;have aj:kz (fQ e)=kz (df (bX e)):=rfl;simp only [df,tf,kz,aem,Z,ab,aj];omega
 ·rfl
theorem aqF(e:Expr){j k:Nat}(h:j≤k):kz (eZ e j)≤kz (eZ e k):=by
 rw [aen,aen];split<;>split<;>omega
def Vo(l:List Token)(i lv:Nat)(e:Expr)(z:Int):Prop:=∃k:Nat,z=(k:Int)∧i≤k∧k≤l.length∧mN e∧ca l i+kz (eZ e lv)≤ca l k
theorem Vo.mono{i j lv aeo:Nat}{e:Expr}{z:Int}(h:Vo l j lv e z)(hi:i≤j)(hp:ca l i≤ca l j)(f7:aeo≤lv):Vo l i aeo e z:=by
 obtain⟨k,Z,ab,aj,aD,aX⟩:=h;have:=aqF e f7
 exact⟨k,Z,by omega,aj,aD,by omega⟩
end
section
variable {l:List Token}
end
section
variable {l:List Token}
end
section
variable {l:List Token}
end
section
variable {l:List Token}
end
abbrev eC(α:Type):=av3→Except Int (α×av3)
structure er{α:Type}(D:eC α)(E:α→av3)(ok:α→Prop):Prop where
 rt:∀v t,ok v→D (E v++t) = .ok (v,t)
 gA:∀x v t,D x = .ok (v,t)→x=E v++t∧ok v
 dd:∀x e,D x = .error e→e≠0
def er.lY{α:Type}{D:eC α}{E:α→av3}{ok:α→Prop}(h:er D E ok){x:av3}{v:α}{t:av3}(hx:D x = .ok (v,t)):t <:+ x:=⟨E v,(h.gA x v t hx).1.symm⟩
def dU{α β:Type}(D:eC α)(k:α→eC β):eC (α×β):=λx=>match D x with
 |.ok (v,t)=>match k v t with
  |.ok (w,u)=>.ok ((v,w),u)
  |.error e=>.error e
 |.error e=>.error e
def er.dep{α β:Type}{D:eC α}{E:α→av3}{ok:α→Prop}{k:α→eC β}{ea:α→β→av3}{aep:α→β→Prop}(h:er D E ok)(ab:∀a,ok a→er (k a) (ea a) (aep a)):
 er (dU D k) (λp=>E p.1++ea p.1 p.2) (λp=>ok p.1∧aep p.1 p.2) where
 rt:=fun⟨v,w⟩ t ⟨aj,aD⟩=>by simp only [dU,List.append_assoc,h.rt v _ aj,(ab v aj).rt w t aD]
 gA:=
  λx ⟨v,w⟩ t hx=>by
  unfold dU at hx;split at hx
  ·rename_i v0 t0 hd;obtain⟨aj,aD⟩:=h.gA _ _ _ hd;split at hx
   ·rename_i FU ol hk;obtain⟨aX,bW⟩:=(ab v0 aD).gA _ _ _ hk;cases hx;exact⟨by rw [aj,aX,List.append_assoc],aD,bW⟩
   ·cases hx
  ·cases hx
 dd:=
  λx e hx=>by
  unfold dU at hx;split at hx
  ·rename_i v0 t0 hd;split at hx
   ·cases hx
   ·rename_i bG hk;cases hx;exact(ab v0 (h.gA _ _ _ hd).2).dd _ _ hk
  ·rename_i bG hd;cases hx;exact h.dd _ _ hd
def fY{α β:Type}(f:α→β)(D:eC α):eC β:=λx=>match D x with
 |.ok (v,t)=>.ok (f v,t)
 |.error e=>.error e
def er.map{α β:Type}{D:eC α}{E:α→av3}{ok:α→Prop}(h:er D E ok)(f:α→β)(g:β→α)(Bs:β→Prop)(dm:β→av3)(Z:∀b,Bs b→f (g b)=b∧ok (g b)∧dm b=E (g b))(ab:∀a,ok a→g (f a)=a∧Bs (f a)):
 er (fY f D) dm Bs where
 rt:=λv t av=>by
  obtain⟨aj,aD,aX⟩:=Z v av;simp only [fY,aX,h.rt _ t aD,aj]
 gA:=λx v t hx=>by
  unfold fY at hx;split at hx
  ·rename_i v0 t0 hd;cases hx;obtain⟨aj,aD⟩:=h.gA _ _ _ hd;obtain⟨aX,bW⟩:=ab _ aD;obtain⟨_,_,cZ⟩:=Z _ bW;exact⟨by rw [cZ,aX,aj],bW⟩
  ·cases hx
 dd:=λx e hx=>by
  unfold fY at hx;split at hx
  ·cases hx
  ·rename_i bG hd;cases hx;exact h.dd _ _ hd
def mR{α:Type}(p:α→Bool)(e:Int)(D:eC α):eC α:=λx=>match D x with
 |.ok (v,t)=>if p v then .ok (v,t)else .error e
 |.error f=>.error f
def er.chk{α:Type}{D:eC α}{E:α→av3}{ok:α→Prop}(h:er D E ok)(p:α→Bool)(e:Int)(he:e≠0):er (mR p e D) E (λv=>ok v∧p v=true) where
 rt:=λv t ⟨Z,ab⟩=>by simp only [mR,h.rt v t Z,ab,av1]
 gA:=
  λx v t hx=>by
  unfold mR at hx;split at hx
  ·rename_i v0 t0 hd;split at hx
   ·rename_i hp;cases hx;exact⟨(h.gA _ _ _ hd).1,(h.gA _ _ _ hd).2,hp⟩
   ·cases hx
  ·cases hx
 dd:=λx f hx=>by
  unfold mR at hx;split at hx
  ·split at hx
   ·cases hx
   ·cases hx;exact he
  ·rename_i bG hd;cases hx;exact h.dd _ _ hd
def iO{α:Type}(E:α→av3)(l:List α):av3:=(l.map E).flatten
def Bt{α:Type}(E:α→av3)(v:α)(l:List α):iO E (v::l)=E v++iO E l:=rfl
def aqG{α:Type}(E:α→av3):iO E []=[]:=rfl
def hC{α:Type}(D:eC α):Nat→eC (List α)
 | 0,x=>.ok ([],x)
 |n+1,x=>match D x with
  |.ok (v,t)=>match hC D n t with
   |.ok (l,u)=>.ok (v::l,u)
   |.error e=>.error e
  |.error e=>.error e
def er.rep{α:Type}{D:eC α}{E:α→av3}{ok:α→Prop}(h:er D E ok):∀n,er (hC D n) (iO E) (λl=>l.length=n∧∀v∈l,ok v)
 | 0=>{
  rt:=λv t ⟨Z,_⟩=>by
   obtain rfl:=List.eq_nil_of_length_eq_zero Z;rfl
  gA:=λx v t hx=>by cases hx;exact⟨rfl,rfl,λv av=>by cases av⟩
  dd:=λx e hx=>by cases hx}
 |n+1=>{
  rt:=λv t ⟨Z,ab⟩=>by
   cases v with
   |nil=>simp at Z
   |cons a l=>
    have aj:=h.rt a (iO E l++t) (ab a (by simp))
    have aD:=(er.rep h n).rt l t ⟨by simpa using Z,λv av=>ab v (by simp [av])⟩
    simp only [hC,Bt,List.append_assoc,aj,aD]
  gA:=
   λx v t hx=>by
   unfold hC at hx;split at hx
   ·rename_i v0 t0 hd;split at hx
    ·rename_i l0 ol hk;cases hx;obtain⟨aj,aD⟩:=h.gA _ _ _ hd;obtain⟨aX,bW,cZ⟩:=(er.rep h n).gA _ _ _ hk;refine⟨by rw [aj,aX,Bt,List.append_assoc],by simp [bW],λv av=>?_⟩
     rcases List.mem_cons.1 av with rfl|av
     ·exact aD
     ·exact cZ v av
    ·cases hx
   ·cases hx
  dd:=λx e hx=>by
   unfold hC at hx;split at hx
   ·split at hx
    ·cases hx
    ·rename_i bG hk;cases hx;exact(er.rep h n).dd _ _ hk
   ·rename_i bG hd;cases hx;exact h.dd _ _ hd}
def mS:Nat→eC Nat
 | 0,_=>.error 5
 |_+1,[]=>.error 6
 |k+1,c::t=>if k=0∧1<c.toNat∨c.toNat=0∧k<9 then .error 5 else if c.toNat<128 then .ok (c.toNat,t)else match mS k t with
  |.ok (u,t)=>.ok (c.toNat % 128+128*u,t)
  |.error e=>.error e
def rR:eC Nat:=mS 10
def aeq:∀(k u:Nat) (t:av3),u<2 ^ (7*k+1)→(k<9→0<u)→mS (k+1) (fc u++t) = .ok (u,t)
 |k,u,t,h,h0=>by
  rw [fc];by_cases hu:u<128
  ·rw [if_pos hu];have e:(UInt8.ofNat u).toNat=u:=by simp only [UInt8.toNat_ofNat'];omega
   simp only [List.singleton_append,mS,e];rw [if_neg,if_pos hu];intro bm;rcases bm with⟨rfl,ab⟩|⟨Z,ab⟩
   ·simp at h;omega
   ·have:=h0 ab;omega
  ·rw [if_neg hu];have e:(UInt8.ofNat (u % 128+128)).toNat=u % 128+128:=by simp only [UInt8.toNat_ofNat'];omega
   cases k with
   |zero=>simp at h;omega
   |succ k=>
    have:=aeq k (u / 128) t (by rw [show 7*(k+1)+1=7*k+1+7 by omega,Nat.pow_add]at h;omega) (λ_=>by omega)
    simp only [List.cons_append,mS,e]at this ⊢;rw [if_neg (by omega),if_neg (by omega),this]
    simp only
    rw [show(u % 128+128) % 128+128*(u / 128)=u by omega]
def Vp:∀(k:Nat) (x:av3) (u:Nat) (t:av3),k≤9→mS (k+1) x = .ok (u,t)→x=fc u++t∧u<2 ^ (7*k+1)∧(k<9→0<u)
 |k,[],u,t,_,h=>by simp [mS]at h
 |k,c::x,u,t,avl,h=>by
  have hc:=c.toNat_lt;unfold mS at h;split at h
  ·cases h
  ·rename_i Z;split at h
   ·rename_i ab;cases h;rw [fc,if_pos ab];refine⟨by simp,?_,λeR=>by omega⟩
    cases k with
    |zero=>simp;omega
    |succ k=>
     rw [show 7*(k+1)+1=7*k+1+7 by omega,Nat.pow_add]
     have:=Nat.two_pow_pos (7*k+1)
     omega
   ·rename_i ab;split at h
    ·rename_i ol t0 hu;cases h;cases k with
     |zero=>simp [mS]at hu
     |succ k=>
      obtain⟨aj,aD,aX⟩:=Vp k _ _ _ (by omega) hu
      refine⟨?_,?_,λ_=>?_⟩
      ·have GO:0<ol:=by
        by_cases eR:k<9
        ·exact aX eR
        ·omega
       rw [fc,if_neg (by omega),aj]
       rw [show(c.toNat % 128+128*ol) / 128=ol by omega,show(c.toNat % 128+128*ol) % 128+128=c.toNat by omega]
       simp
      ·rw [show 7*(k+1)+1=7*k+1+7 by omega,Nat.pow_add]
       generalize 2 ^ (7*k+1)=P at aD ⊢
       omega
      ·by_cases eR:k<9
       ·have:=aX eR;omega
       ·omega
    ·cases h
def aer:∀(k:Nat) (x:av3) (e:Int),mS k x = .error e→e=5∨e=6
 | 0,x,e,h=>by cases h;simp
 |k+1,[],e,h=>by cases h;simp
 |k+1,c::x,e,h=>by
  unfold mS at h;split at h
  ·cases h;simp
  ·split at h
   ·cases h
   ·split at h
    ·cases h
    ·rename_i bG hu;cases h;exact aer k _ _ hu
def rS:er rR fc (λu=>u<18446744073709551616) where
 rt:=λu t h=>aeq 9 u t h (by omega)
 gA:=λx u t h=>⟨(Vp 9 x u t (by omega) h).1,(Vp 9 x u t (by omega) h).2.1⟩
 dd:=λx e h=>by have:=aer 10 x e h;omega
def im:eC Int:=fY (λu:Nat=>(u:Int)) rR
def hK(z:Int):Prop:=0≤z∧z<18446744073709551616
def jy(z:Int):av3:=fc z.toNat
def mT:er im jy hK:=
 rS.map _ Int.toNat hK jy (λb h=>by unfold hK at h;exact⟨by omega,by omega,rfl⟩) (λa h=>⟨by omega,by unfold hK;omega⟩)
def Bu(u:Nat):Int:=if u % 2=1 then -((u / 2:Nat):Int)-1 else((u / 2:Nat):Int)
def iP:eC Int:=fY Bu rR
def kZ:er iP mQ e0:=
 rS.map _ fold e0 mQ (λb h=>⟨by unfold e0 at h;unfold fold Bu;split<;>(split<;>omega),Vk h,rfl⟩)
  (λa h=>⟨by unfold fold Bu;split<;>(split<;>omega),by unfold e0 Bu;split<;>omega⟩)
def jb(bA:Nat):eC Nat:=λx=>match rR x with
 |.ok (u,t)=>if bA<u then .error 2 else if t.length<u then .error 6 else .ok (u,t)
 |.error e=>.error e
def pD{bA:Nat}{x t:av3}{u:Nat}(h:jb bA x = .ok (u,t)):x=fc u++t∧u≤bA∧u≤t.length:=by
 unfold jb at h;split at h
 ·rename_i ol t0 hd;split at h
  ·cases h
  ·split at h
   ·cases h
   ·cases h;exact⟨(rS.gA _ _ _ hd).1,by omega,by omega⟩
 ·cases h
def oM{bA:Nat}{x:av3}{e:Int}(h:jb bA x = .error e):e≠0:=by
 unfold jb at h;split at h
 ·split at h
  ·cases h;omega
  ·split at h
   ·cases h;omega
   ·cases h
 ·rename_i bG hd;cases h;exact rS.dd _ _ hd
def aes{bA u:Nat}{t:av3}(h:u≤bA)(Z:bA<18446744073709551616)(ab:u≤t.length):jb bA (fc u++t) = .ok (u,t):=by
 unfold jb;rw [rS.rt u t (by omega)]
 simp only
 rw [if_neg (by omega),if_neg (by omega)]
def jz{α:Type}(bA:Nat)(D:eC α):eC (List α):=λx=>match jb bA x with
 |.ok (u,t)=>hC D u t
 |.error e=>.error e
def ef{α:Type}(E:α→av3)(l:List α):av3:=fc l.length++iO E l
def Mq{α:Type}{E:α→av3}:∀{l:List α},(∀v∈l,E v≠[])→l.length≤(iO E l).length
 |[],_=>by simp
 |v::l,h=>by
  have Z:(E v).length≠0:=by simpa using h v (by simp)
  have ab:=Mq (E:=E) (l:=l) λw hw=>h w (by simp [hw])
  simp only [Bt,avW,avS];omega
def er.u2{α:Type}{D:eC α}{E:α→av3}{ok:α→Prop}(h:er D E ok)(bA:Nat)(hm:bA<18446744073709551616)(dk:∀v,ok v→E v≠[]):er (jz bA D) (ef E) (λl=>l.length≤bA∧∀v∈l,ok v) where
 rt:=λl t ⟨Z,ab⟩=>by
  have aj:=Mq (E:=E) (l:=l) λv av=>dk v (ab v av)
  unfold jz ef;rw [List.append_assoc,aes Z hm (by simp;omega)]
  exact(h.rep l.length).rt l t ⟨rfl,ab⟩
 gA:=λx l t hx=>by
  unfold jz at hx;split at hx
  ·rename_i ol t0 hd;obtain⟨Z,ab,aj⟩:=pD hd;obtain⟨aD,aX,bW⟩:=(h.rep ol).gA _ _ _ hx;subst aX;exact⟨by rw [Z,aD,ef,List.append_assoc],ab,bW⟩
  ·cases hx
 dd:=λx e hx=>by
  unfold jz at hx;split at hx
  ·exact(h.rep _).dd _ _ hx
  ·rename_i bG hd;cases hx;exact oM hd
def gb(bA:Nat):eC av3:=λx=>match jb bA x with
 |.ok (u,t)=>.ok (t.take u,t.drop u)
 |.error e=>.error e
def Bv(bA:Nat)(hm:bA<18446744073709551616):er (gb bA) gk (λs=>s.length≤bA) where
 rt:=λs t h=>by
  unfold gb gk;rw [List.append_assoc,aes h hm (by simp)]
  simp
 gA:=λx s t hx=>by
  unfold gb at hx;split at hx
  ·rename_i ol t0 hd;obtain⟨Z,ab,aj⟩:=pD hd;cases hx;have:(t0.take ol).length=ol:=by simp;omega
   unfold gk;rw [this];exact⟨by rw [List.append_assoc,List.take_append_drop,Z],by omega⟩
  ·cases hx
 dd:=λx e hx=>by
  unfold gb at hx;split at hx
  ·cases hx
  ·rename_i bG hd;cases hx;exact oM hd
def rT:eC Bool
 |[]=>.error 6
 |c::t=>if 1<c.toNat then .error 5 else .ok (decide (c.toNat=1),t)
def xL(b:Bool):av3:=if b then[1] else[0]
def Vq:er rT xL (λ_=>True) where
 rt:=λb t _=>by cases b<;>rfl
 gA:=
  λx b t hx=>by
  cases x with
  |nil=>cases hx
  |cons c x=>
   simp only [rT]at hx;by_cases Z:1<c.toNat
   ·rw [if_pos Z]at hx;cases hx
   ·rw [if_neg Z]at hx;cases hx;refine⟨?_,trivial⟩
    unfold xL;by_cases ab:c.toNat=1
    ·rw [decide_eq_true ab];have:c=1:=UInt8.toNat_inj.1 (by simpa using ab)
     rw [this];rfl
    ·rw [decide_eq_false ab];have:c=0:=UInt8.toNat_inj.1 (by simp;omega)
     rw [this];rfl
 dd:=λx e hx=>by
  cases x with
  |nil=>cases hx;omega
  |cons c x=>
   simp only [rT]at hx;by_cases Z:1<c.toNat
   ·rw [if_pos Z]at hx;cases hx;omega
   ·rw [if_neg Z]at hx;cases hx
def qE(u:Nat):fc u≠[]:=by rw [fc];split<;>simp
def Vr{α:Type}(v:α):eC α:=λx=>.ok (v,x)
def aet{α:Type}(v:α):er (Vr v) (λ_=>[]) (λw=>w=v) where
 rt:=λw t h=>by subst h;rfl
 gA:=λx w t h=>by cases h;exact⟨rfl,rfl⟩
 dd:=λx e h=>by cases h
def er.as{α:Type}{D:eC α}{E:α→av3}{ok:α→Prop}(h:er D E ok)(dm:α→av3)(Bs:α→Prop)(Z:∀v,Bs v↔ok v)(ab:∀v,ok v→dm v=E v):er D dm Bs where
 rt:=λv t av=>by rw [ab v ((Z v).1 av)];exact h.rt v t ((Z v).1 av)
 gA:=λx v t hx=>by
  obtain⟨aj,aD⟩:=h.gA x v t hx;exact⟨by rw [ab v aD];exact aj,(Z v).2 aD⟩
 dd:=h.dd
def n1(lo hi:Int):eC Int:=mR (λz=>decide (lo≤z)&&decide (z≤hi)) 5 im
def Vs{lo hi:Int}(h0:0≤lo)(Z:hi<18446744073709551616):er (n1 lo hi) jy (λz=>lo≤z∧z≤hi):=
 (mT.chk _ 5 (by omega)).as _ _ (λv=>by simp only [Bool.and_eq_true,decide_eq_true_eq,hK];omega) (λ_ _=>rfl)
def Bw(k:Int):eC bH:=if k=0 then Vr ⟨0,0,[]⟩else if k=1 then fY (λn=>⟨1,n,[]⟩) iP else if k=2 then mR (λv=>jv v.S) 5 (fY (λs=>⟨2,0,s⟩) (gb 64))else λ_=>.error 5
def mU:eC bH:=fY Prod.snd (dU im Bw)
def qF(v:bH):Prop:=ja v=true∧e0 v.N
def aeu{s:av3}(h:jv s=true):s.length≤64:=by
 unfold jv at h;simp only [Bool.and_eq_true,decide_eq_true_eq]at h;exact h.2
def xM{v:bH}(h:ja v=true):v=⟨0,0,[]⟩∨(v.Kind=1∧v.S=[])∨(v.Kind=2∧v.N=0∧jv v.S=true):=by
 obtain⟨k,n,s⟩:=v;unfold ja at h;simp only at h ⊢
 split at h
 ·rename_i h0;simp only [Bool.and_eq_true,decide_eq_true_eq]at h;obtain⟨rfl,rfl⟩:=h;exact .inl (by rw [h0])
 ·split at h
  ·rename_i Z;exact .inr (.inl ⟨Z,by simpa using h⟩)
  ·simp only [Bool.and_eq_true,decide_eq_true_eq]at h;exact .inr (.inr ⟨h.1.1,h.1.2,h.2⟩)
def tm:er mU bV qF:=by
 have eg:∀k,hK k→er (Bw k) (λv=>if k=1 then mQ v.N else if k=2 then gk v.S else[]) (λv=>qF v∧v.Kind=k):=by
  intro k hk;unfold Bw;by_cases h0:k=0
  ·subst h0;rw [if_pos rfl];refine(aet _).as _ _ (λv=>⟨fun⟨⟨Z,ab⟩,aj⟩=>?_,λh=>?_⟩) (λv _=>?_)
   ·rcases xM Z with h|h|h
    ·exact h
    ·exact absurd (h.1.symm.trans aj) (by omega)
    ·exact absurd (h.1.symm.trans aj) (by omega)
   ·subst h;exact⟨⟨rfl,by unfold e0;simp⟩,rfl⟩
   ·simp
  ·rw [if_neg h0];by_cases Z:k=1
   ·subst Z;rw [if_pos rfl];refine kZ.map _ (λv=>v.N) _ _ (λv ⟨⟨ab,aj⟩,aD⟩=>⟨?_,aj,by simp⟩) (λn hn=>⟨rfl,⟨⟨by simp [ja],hn⟩,rfl⟩⟩)
    rcases xM ab with h|h|h
    ·rw [h]at aD;exact absurd aD (by simp)
    ·obtain⟨a,b,c⟩:=v;simp only at h aD ⊢;rw [aD,h.2]
    ·exact absurd (h.1.symm.trans aD) (by omega)
   ·rw [if_neg Z];by_cases ab:k=2
    ·subst ab;rw [if_pos rfl];refine(((Bv 64 (by omega)).map (λs=>(⟨2,0,s⟩:bH)) (λv=>v.S) (λv=>v.Kind=2∧v.N=0∧v.S.length≤64) (λv=>gk v.S) (λv ⟨aj,aD,aX⟩=>⟨?_,aX,rfl⟩) (λs hs=>⟨rfl,rfl,rfl,hs⟩)).chk _ 5 (by omega)).as _ _ (λv=>⟨fun⟨⟨aj,aD⟩,aX⟩=>?_,fun⟨⟨aj,aD,aX⟩,bW⟩=>?_⟩) (λv _=>by simp)
     ·obtain⟨a,b,c⟩:=v;simp only at aj aD ⊢;rw [aj,aD]
     ·rcases xM aj with h|h|h
      ·rw [h]at aX;exact absurd aX (by simp)
      ·exact absurd (h.1.symm.trans aX) (by omega)
      ·exact⟨⟨h.1,h.2.1,aeu h.2.2⟩,h.2.2⟩
     ·refine⟨⟨?_,by rw [aD];unfold e0;omega⟩,aj⟩
      unfold ja;rw [aj,aD];simp [bW]
    ·rw [if_neg ab]
     exact {
      rt:=λv t ⟨⟨aj,aD⟩,aX⟩=>by
       exfalso
       rcases xM aj with h|h|h
       ·rw [h]at aX;exact h0 aX.symm
       ·exact Z (aX.symm.trans h.1)
       ·exact ab (aX.symm.trans h.1)
      gA:=λx v t h=>by cases h
      dd:=λx e h=>by cases h;omega}
 refine(mT.dep eg).map Prod.snd (λv=>(v.Kind,v)) qF bV (λv av=>⟨rfl,⟨?_,av,rfl⟩,?_⟩) (fun⟨k,v⟩ ⟨Z,ab,aj⟩=>⟨congrArg (·,v) aj,ab⟩)
 ·rcases xM av.1 with h|h|h
  ·rw [h];unfold hK;simp
  ·unfold hK;rw [h.1];omega
  ·unfold hK;rw [h.1];omega
 ·unfold bV jy;rcases xM av.1 with h|h|h
  ·rw [h];simp
  ·simp only [h.1];rfl
  ·simp only [h.1];rfl
def aqH(v:bH):bV v≠[]:=by
 unfold bV;split
 ·simp [qE]
 ·split
  ·simp [qE]
  ·exact qE _
def res{α:Type}(z:α)(s:av3):Except Int (α×av3)→α×Int×Int
 |.ok (v,t)=>(v,((s.length-t.length:Nat):Int),0)
 |.error e=>(z,0,e)
def bu(s t:av3):Int:=((s.length-t.length:Nat):Int)
def FV(p t:av3):bu (p++t) t=(p.length:Int):=by unfold bu;simp
def aqI(s:av3):bu s s=0:=by unfold bu;simp
def hr{α:Type}{z:α}{s t:av3}{v:α}:res z s (.ok (v,t))=(v,bu s t,0):=rfl
def fK{α:Type}{z:α}{s:av3}{e:Int}:res z s (.error e)=(z,0,e):=rfl
def Vt{α β:Type}{FT:β}{s:av3}{f:α→β}{D:eC α}{t:av3}:res FT s (fY f D t)=match D t with|.ok (v,t)=>(f v,bu s t,0)|.error e=>(FT,0,e):=by
 unfold fY;cases D t<;>rfl
def aev(p x:av3)(i:Nat):(p++x).getD (p.length+i) 0=x.getD i 0:=by
 simp [List.getD_eq_getElem?_getD,List.getElem?_append_right]
def aqJ:∀x:Nat,x<256→pM .u8 (x:Int) 127=((x % 128:Nat):Int):=by decide +kernel
def aqK{a b i:Nat}(h:a<2 ^ i)(hb:a+2 ^ i*b<18446744073709551616):qP .u64 (a:Int) ((2 ^ i*b:Nat):Int)=((a+2 ^ i*b:Nat):Int):=by
 unfold qP
 have e:((BitVec.ofInt (IntKind.bits .u64) (a:Int) |||BitVec.ofInt (IntKind.bits .u64) ((2 ^ i*b:Nat):Int)).toNat)=a+2 ^ i*b:=by
  rw [BitVec.toNat_or,BitVec.toNat_ofInt,BitVec.toNat_ofInt];simp only [IntKind.bits];rw [show(((a:Int) % ((2 ^ 64:Nat):Int)).toNat)=a by omega,show((((2 ^ i*b:Nat):Int) % ((2 ^ 64:Nat):Int)).toNat)=2 ^ i*b by omega]
  rw [Nat.or_comm,←Nat.two_pow_add_eq_or_of_lt h,Nat.add_comm]
 rw [e,rP hb]
def aqL{c i:Nat}(hi:i≤63)(h:2 ^ i*c<18446744073709551616):oU .u64 (c:Int) (i:Int)=((2 ^ i*c:Nat):Int):=by
 unfold oU
 (simp only [avU];rw [show min i (IntKind.bits .u64)=i by simp only [IntKind.bits];omega,show(c:Int)*2 ^ i=((2 ^ i*c:Nat):Int)by rw [Nat.mul_comm];norm_cast,rP h])
def aqM{i c:Nat}(hi:i≤9)(hc:c<128)(eR:i=9→c≤1):2 ^ (7*i)*c<18446744073709551616∧∀a,a<2 ^ (7*i)→a+2 ^ (7*i)*c<18446744073709551616:=by
 have h:i=0∨i=1∨i=2∨i=3∨i=4∨i=5∨i=6∨i=7∨i=8∨i=9:=by omega
 rcases h with h|h|h|h|h|h|h|h|h|h<;>subst h<;>simp only [Nat.reduceMul,Nat.reducePow]<;>(try have:=eR rfl)<;>exact⟨by omega,λa ha=>by omega⟩
def Bx{i:Nat}(h:i≤9223372036854775807):av5 (i:Int)=(i:Int):=by rw [wr]<;>omega
def aqN(n a:Nat):∀(k m i:Nat) (x pre:av3) (acc:Nat),i+k=10→pre.length=a+i→acc<2 ^ (7*i)→k<m→(pre++x).length≤4611686018427387904→
 DD n (pre++x) (a:Int) m (i:Int) (acc:Int)=some (match mS k x with|.ok (u,t)=>(((acc+2 ^ (7*i)*u:Nat):Int),bu (pre++x) t,0)|.error e=>(0,0,e)):=by
 intro k;induction k with
 |zero=>
  intro m i x pre acc hi hp ha hm aa;obtain⟨m,rfl⟩:∃j,m=j+1:=⟨m-1,by omega⟩
  obtain rfl:i=10:=by omega
  rfl
 |succ k aJ=>
  intro m i x pre acc hi hp ha hm aa;obtain⟨m,rfl⟩:∃j,m=j+1:=⟨m-1,by omega⟩
  have avm:(pre++x).length=pre.length+x.length:=List.length_append;have e1:av5 ((a:Int)+(i:Int))=((pre.length:Nat):Int):=by rw [wr]<;>omega
  have aqO:i≤9:=by omega
  simp only [DD,Qy,e1];rw [show(decide ((i:Int)<10))=true from decide_eq_true (by omega)]
  simp only [avO];cases x with
  |nil=>
   simp only [List.append_nil,Int.le_refl,avM,avO,mS]
  |cons c x=>
   have hlen:(pre++c::x).length=pre.length+(x.length+1):=by simp
   have hg:(pre++c::x).getD pre.length 0=c:=by
    have:=aev pre (c::x) 0
    simpa using this
   have hc:=c.toNat_lt;rw [show(decide ((((pre++c::x).length:Nat):Int)≤((pre.length:Nat):Int)))=false from decide_eq_false (by omega)]
   simp only [avP,b1 (show pre.length<(pre++c::x).length by omega),aT,avU,hg]
   have e2:av5 (7*(i:Int))=((7*i:Nat):Int):=by rw [wr]<;>omega
   have e3:av5 (((pre.length:Nat):Int)+1)=((pre.length+1:Nat):Int):=cR (by omega)
   have ie:av5 ((i:Int)+1)=((i+1:Nat):Int):=cR (by omega)
   have pY:bu (pre++c::x) x=((pre.length+1:Nat):Int):=by
    have:=FV (pre++[c]) x
    simpa using this
   unfold mS;by_cases aew:k=0∧1<c.toNat∨c.toNat=0∧k<9
   ·rw [if_pos aew,show(bif (bif (decide ((i:Int)=9)) then(decide (1<((c.toNat:Nat):Int)))else false)then true else(bif (decide (((c.toNat:Nat):Int)=0)) then(decide (0<(i:Int)))else false))=true by
     rw [dH,el,el,←Bool.decide_and,←Bool.decide_and,←Bool.decide_or];exact decide_eq_true (by omega)]
    rfl
   ·rw [if_neg aew,show(bif (bif (decide ((i:Int)=9)) then(decide (1<((c.toNat:Nat):Int)))else false)then true else(bif (decide (((c.toNat:Nat):Int)=0)) then(decide (0<(i:Int)))else false))=false by
     rw [dH,el,el,←Bool.decide_and,←Bool.decide_and,←Bool.decide_or];exact decide_eq_false (by omega)]
    have hb:=aqM (c:=c.toNat % 128) aqO (by omega) (by omega)
    have Br:qP .u64 (acc:Int) (oU .u64 (IntKind.u64.wrap (pM .u8 ((c.toNat:Nat):Int) 127)) (av5 (7*(i:Int))))=((acc+2 ^ (7*i)*(c.toNat % 128):Nat):Int):=by
     rw [aqJ _ hc,rP (by omega),e2,aqL (by omega) hb.1,aqK ha (hb.2 acc ha)]
    simp only [avP,Br,e3,ie];rw [e2,show oa ((7*i:Nat):Int)=true by simp only [oa,decide_eq_true_eq];omega,aT]
    by_cases hs:c.toNat<128
    ·rw [if_pos hs,show(decide (((c.toNat:Nat):Int)<128))=true from decide_eq_true (by omega)]
     simp only [avO,pY,Nat.mod_eq_of_lt hs]
    ·rw [if_neg hs,show(decide (((c.toNat:Nat):Int)<128))=false from decide_eq_false (by omega)]
     have GT:2 ^ (7*(i+1))=2 ^ (7*i)*128:=by rw [show 7*(i+1)=7*i+7 by omega,Nat.pow_add]
     have pw:=aJ m (i+1) x (pre++[c]) (acc+2 ^ (7*i)*(c.toNat % 128)) (by omega) (by simp;omega) (by
      rw [GT];have Z:2 ^ (7*i)*(c.toNat % 128)≤2 ^ (7*i)*127:=Nat.mul_le_mul_left _ (by omega)
      omega) (by omega) (by simp at aa ⊢;omega)
     rw [show pre++[c]++x=pre++c::x by simp]at pw
     simp only [avP];rw [pw]
     congr 1
     cases mS k x with
     |error e=>rfl
     |ok r=>
      obtain⟨u,t⟩:=r;simp only
      rw [GT,Nat.mul_add,Nat.mul_assoc,Nat.add_assoc]
def aex{n:Nat}{s t:av3}(h:t <:+ s):DC n s (bu s t)=some false:=by
 unfold DC bu;have:=h.length_le
 rw [decide_eq_false (by omega),decide_eq_false (by omega)];rfl
def By{n:Nat}{s t:av3}(aF:t <:+ s)(hs:s.length≤4611686018427387904)(hn:12≤n):sL n s (bu s t)=some (res 0 s (im t)):=by
 unfold sL;rw [aex (n:=n) aF];obtain⟨pre,rfl⟩:=aF;rw [FV,an,avP];refine(aqN n pre.length 10 n 0 t pre 0 (by omega) (by omega) (by simp) (by omega) hs).trans (congrArg some ?_)
 unfold im rR;rw [Vt];cases mS 10 t with
 |error e=>rfl
 |ok r=>obtain⟨u,bY⟩:=r;simp
def gL{e:Int}(h:e≠0):(!decide (e=0))=true:=by simp [h]
def aey{t bY:av3}{u:Nat}(h:rR t = .ok (u,bY)):im t = .ok ((u:Int),bY):=by simp only [im,fY,h]
def aez{t:av3}{e:Int}(h:rR t = .error e):im t = .error e:=by simp only [im,fY,h]
def aqP{u:Nat}(h:u<18446744073709551616):pM .u64 (u:Int) 1=((u % 2:Nat):Int):=by
 unfold pM
 have e:((BitVec.ofInt (IntKind.bits .u64) (u:Int) &&& BitVec.ofInt (IntKind.bits .u64) 1).toNat)=u % 2:=by
  rw [BitVec.toNat_and,BitVec.toNat_ofInt,BitVec.toNat_ofInt];simp only [IntKind.bits];rw [show(((u:Int) % ((2 ^ 64:Nat):Int)).toNat)=u by omega,show(((1:Int) % ((2 ^ 64:Nat):Int)).toNat)=1 by decide,Nat.and_one_is_mod]
 rw [e,rP (by omega)]
def aqQ{u:Nat}:nr .u64 (u:Int) 1=((u / 2:Nat):Int):=by
 unfold nr;rw [show min (1:Int).toNat (IntKind.bits .u64)=1 by decide,Int.fdiv_eq_ediv_of_nonneg _ (by omega)]
 omega
def aqR{a:Nat}(h:a<9223372036854775808):mW .i64 (a:Int) 0=(a:Int):=by
 unfold mW;rw [show BitVec.ofInt (IntKind.bits .i64) 0=0#_ from rfl,BitVec.xor_zero]
 rw [show((BitVec.ofInt (IntKind.bits .i64) (a:Int)).toNat:Int)=(a:Int) by
  rw [BitVec.toNat_ofInt];simp only [IntKind.bits];omega]
 exact Bx (by omega)
def aqS{a:Nat}(h:a<9223372036854775808):mW .i64 (a:Int) (-1) = -(a:Int)-1:=by
 unfold mW;rw [show BitVec.ofInt (IntKind.bits .i64) (-1)=BitVec.allOnes _ by decide,BitVec.xor_allOnes]
 rw [show((~~~ BitVec.ofInt (IntKind.bits .i64) (a:Int)).toNat:Int)=((18446744073709551615-a:Nat):Int) by
  rw [BitVec.toNat_not,BitVec.toNat_ofInt];simp only [IntKind.bits];omega]
 (try unfold av5);rw [IntKind.wrap_i64];omega
def aqT{u:Nat}(h:u<18446744073709551616):mW .i64 (av5 (nr .u64 (u:Int) 1)) (av5 (0-(av5 (pM .u64 (u:Int) 1))))=Bu u:=by
 rw [aqQ,aqP h,Bx (i:=u / 2) (by omega),Bx (i:=u % 2) (by omega)]
 unfold Bu;by_cases ab:u % 2=1
 ·rw [if_pos ab,ab,show av5 (0-((1:Nat):Int)) = -1 by decide,aqS (by omega)]
 ·rw [if_neg ab,show u % 2=0 by omega,show av5 (0-((0:Nat):Int))=0 by decide,aqR (by omega)]
def Vu{n:Nat}{s t:av3}(aF:t <:+ s)(hs:s.length≤4611686018427387904)(hn:12≤n):zq n s (bu s t)=some (res 0 s (iP t)):=by
 unfold zq iP fY;rw [By aF hs hn,an];cases h:rR t with
 |error e=>
  rw [aez h,fK];simp only [gL (rS.dd _ _ h),avO,fK]
 |ok r=>
  obtain⟨u,bY⟩:=r;rw [aey h,hr];simp only [avM,avQ,avP,aqT (rS.gA _ _ _ h).2,hr]
def qG(bA:Nat):eC Int:=fY (λu:Nat=>(u:Int)) (jb bA)
def aqU{s t:av3}(aF:t <:+ s)(hs:s.length≤4611686018427387904):IntKind.u64.wrap (av5 (((s.length:Nat):Int)-bu s t))=((t.length:Nat):Int):=by
 have:=aF.length_le
 unfold bu;rw [wr (by omega) (by omega),IntKind.wrap_u64];omega
def aqV{t bY:av3}{u:Nat}(h:rR t = .ok (u,bY)):bY <:+ t:=rS.lY h
def aqW{n bA:Nat}{s t:av3}(aF:t <:+ s)(hs:s.length≤4611686018427387904)(hm:bA<9223372036854775808)(r:Int×Int×Int)(ai:r=res 0 s (im t)):
 (bif (!decide (r.2.2=0))then some ((0:Int),(0:Int),r.2.2) else(bif (bif (decide ((bA:Int)<0))then true else(decide ((IntKind.u64.wrap (bA:Int))<r.1)))then some (0,0,2) else(bif (decide ((IntKind.u64.wrap (av5 (((s.length:Nat):Int)-r.2.1)))<r.1))then some (0,0,6)else some ((av5 r.1),r.2.1,0))))=some (res 0 s (qG bA t)):=by
 subst ai;unfold qG;rw [Vt];unfold jb;cases h:rR t with
 |error e=>
  rw [aez h,fK];simp only [gL (rS.dd _ _ h),avO]
 |ok r=>
  obtain⟨u,bY⟩:=r;have hu:=(rS.gA _ _ _ h).2;have eO:bY <:+ s:=(aqV h).trans aF;have aa:=eO.length_le;rw [aey h,hr];simp only [avM,avQ,avP,aqU eO hs,rP (show bA<18446744073709551616 by omega),show¬ ((bA:Int)<0)by omega,avN,avV]
  by_cases Z:bA<u
  ·simp only [Z,avM,avO,av1]
  ·by_cases ab:bY.length<u
   ·simp only [Z,ab,avM,avN,avO,avP,av1,av2]
   ·simp only [Z,ab,avN,avP,av2,Bx (show u≤9223372036854775807 by omega)]
def u3{n bA:Nat}{s t:av3}(aF:t <:+ s)(hs:s.length≤4611686018427387904)(hm:bA<9223372036854775808)(hn:12≤n):pm n s (bu s t) (bA:Int)=some (res 0 s (qG bA t)):=by
 unfold pm;rw [By aF hs hn,an];exact aqW (n:=n) aF hs hm _ rfl
def rU{bA u:Nat}{t bY:av3}(h:jb bA t = .ok (u,bY)):qG bA t = .ok ((u:Int),bY):=by simp only [qG,fY,h]
def rV{bA:Nat}{t:av3}{e:Int}(h:jb bA t = .error e):qG bA t = .error e:=by simp only [qG,fY,h]
def aqX{s t:av3}{u:Nat}(aF:t <:+ s)(hs:s.length≤4611686018427387904)(hu:u≤t.length):
 av5 (bu s t+(u:Int))=bu s (t.drop u)∧l5 (bu s t) (bu s (t.drop u)) s.length=true∧(s.take (bu s (t.drop u)).toNat).drop (bu s t).toNat=t.take u:=by
 have aa:=aF.length_le;have e:bu s (t.drop u)=bu s t+(u:Int):=by unfold bu;simp;omega
 refine⟨?_,?_,?_⟩
 ·rw [e];unfold bu;rw [wr]<;>omega
 ·rw [e];unfold bu l5;simp;omega
 ·rw [e];obtain⟨pre,rfl⟩:=aF
  (rw [FV,show(((pre.length:Nat):Int)+(u:Int)).toNat=pre.length+u by omega];simp only [avU];rw [List.drop_take])
  simp
def FW{n bA:Nat}{s t:av3}(aF:t <:+ s)(hs:s.length≤4611686018427387904)(hm:bA<9223372036854775808)(hn:12≤n):sM n s (bu s t) (bA:Int)=some (res [] s (gb bA t)):=by
 unfold sM gb;rw [u3 aF hs hm hn,an];cases h:jb bA t with
 |error e=>
  rw [rV h,fK];simp only [gL (oM h),avO,fK]
 |ok r=>
  obtain⟨u,bY⟩:=r;obtain⟨Z,ab,aj⟩:=pD h;have eO:bY <:+ s:=List.IsSuffix.trans ⟨fc u,Z.symm⟩ aF;obtain⟨g1,g2,g3⟩:=aqX eO hs aj;rw [rU h,hr];simp only [avM,avQ,avP,g1,g2,g3,aT,hr]
def aqY{n:Nat}{s t:av3}(aF:t <:+ s)(hs:s.length≤4611686018427387904):
 (bif (decide (bu s t=((s.length:Nat):Int)))then some (false,(0:Int),(6:Int)) else(ay (aM (bu s t) s.length)<|bif (decide (1<(((s.getD (bu s t).toNat 0).toNat:Nat):Int)))then some (false,0,5) else(ay (aM (bu s t) s.length)<|some ((decide ((((s.getD (bu s t).toNat 0).toNat:Nat):Int)=1)),(av5 (bu s t+1)),0))))=some (res false s (rT t)):=by
 obtain⟨pre,rfl⟩:=aF;rw [FV];cases t with
 |nil=>simp [rT,res]
 |cons c t=>
  have hg:(pre++c::t).getD pre.length 0=c:=by
   have:=aev pre (c::t) 0
   simpa using this
  have hlen:(pre++c::t).length=pre.length+(t.length+1):=by simp
  have e3:av5 (((pre.length:Nat):Int)+1)=((pre.length+1:Nat):Int):=cR (by omega)
  have pY:bu (pre++c::t) t=((pre.length+1:Nat):Int):=by
   have:=FV (pre++[c]) t
   simpa using this
  rw [show decide (((pre.length:Nat):Int)=(((pre++c::t).length:Nat):Int))=false from decide_eq_false (by omega)]
  simp only [avP,b1 (show pre.length<(pre++c::t).length by omega),aT,avU,hg,e3,fp,fx,rT]
  by_cases h:1<c.toNat
  ·simp only [h,avM,avO,av1,fK]
  ·simp only [h,avN,avP,av2,hr,pY]
def aqZ{n:Nat}{s t:av3}(aF:t <:+ s)(hs:s.length≤4611686018427387904):IX n s (bu s t)=some (res false s (rT t)):=by
 unfold IX;rw [aex aF,an,avP];exact aqY (n:=n) aF hs
def aq0(t:av3):mU t=match im t with|.ok (k,bY)=>Bw k bY|.error e=>.error e:=by
 unfold mU fY dU;cases im t with
 |error e=>rfl
 |ok r=>
  obtain⟨k,bY⟩:=r;simp only
  cases Bw k bY with
  |error e=>rfl
  |ok r=>rfl
def jc{α:Type}{D:eC α}{E:α→av3}{ok:α→Prop}(h:er D E ok){s x:av3}{v:α}{t:av3}(hx:D x = .ok (v,t))(hs:x <:+ s):t <:+ s:=(h.lY hx).trans hs
def aeA:er (gb 64) gk (λs=>s.length≤64):=Bv 64 (by omega)
def n2:er (gb 24) gk (λs=>s.length≤24):=Bv 24 (by omega)
def Vv{n:Nat}{s t:av3}(aF:t <:+ s)(hs:s.length≤4611686018427387904)(hn:70≤n):zr n s (bu s t)=some (res ⟨0,0,[]⟩ s (mU t)):=by
 unfold zr;rw [By aF hs (by omega),an,aq0]
 cases h:im t with
 |error e=>rw [fK];simp only [gL (mT.dd _ _ h),avO,fK]
 |ok r=>
  obtain⟨k,bY⟩:=r;have eO:=jc mT h aF;rw [hr];simp only [avM,avQ,avP];unfold Bw;by_cases h0:k=0
  ·subst h0;rfl
  ·by_cases Z:k=1
   ·subst Z;simp only [show¬ (1:Int)=0 by omega,avN,avP,avM,avO,av2,av1]
    rw [Vu eO hs (by omega),an,Vt]
    cases ab:iP bY with
    |error e=>rw [fK];simp only [gL (kZ.dd _ _ ab),avO]
    |ok r=>obtain⟨x,nl⟩:=r;rw [hr];simp only [avM,avQ,avP,Qx,an]
   ·by_cases ab:k=2
    ·subst ab;simp only [show¬ (2:Int)=0 by omega,show¬ (2:Int)=1 by omega,avN,avP,avM,avO,av2,av1]
     rw [show(64:Int)=((64:Nat):Int)from rfl,FW eO hs (by omega) (by omega),an]
     unfold mR fY;cases aj:gb 64 bY with
     |error e=>rw [fK];simp only [show¬ e=0 from aeA.dd _ _ aj,avN,avP,an,DE,avR,avO,fK]
     |ok r=>
      obtain⟨x,nl⟩:=r;have hx:=(aeA.gA _ _ _ aj).2;rw [hr];simp only [avM,avO,aej (show x.length<n by omega) (by omega),an,DE]
      cases jv x<;>rfl
    ·simp only [h0,Z,ab,avN,avP,av2,fK]
def aq1{α β R:Type}{D:eC α}{s:av3}{u:Nat}{f:Nat→α→β}{L:Nat→Nat→av3→List β→Option R}{fin:List β→av3→Option R}{bad:Int→Option R}
 (lY:∀x v t,D x = .ok (v,t)→t <:+ x)
 (step:∀m i t acc,i<u→acc.length=i→t <:+ s→L (m+1) i t acc=match D t with|.ok (v,bY)=>L m (i+1) bY (acc++[f i v])|.error e=>bad e)
 (stop:∀m t acc,acc.length=u→t <:+ s→L (m+1) u t acc=fin acc t):
 ∀k m i t acc,i+k=u→k<m→acc.length=i→t <:+ s→L m i t acc=match hC D k t with|.ok (l,bY)=>fin (acc++(l.zipIdx i).map λp=>f p.2 p.1) bY|.error e=>bad e:=by
 intro k;induction k with
 |zero=>
  intro m i t acc hi hm ha aF;obtain⟨m,rfl⟩:∃j,m=j+1:=⟨m-1,by omega⟩
  obtain rfl:i=u:=by omega
  rw [stop m t acc ha aF];simp [hC]
 |succ k aJ=>
  intro m i t acc hi hm ha aF;obtain⟨m,rfl⟩:∃j,m=j+1:=⟨m-1,by omega⟩
  rw [step m i t acc (by omega) ha aF]
  unfold hC;cases h:D t with
  |error e=>rfl
  |ok r=>
   obtain⟨v,bY⟩:=r;simp only
   rw [aJ m (i+1) bY (acc++[f i v]) (by omega) (by omega) (by simp [ha]) ((lY _ _ _ h).trans aF)]
   cases hC D k bY with
   |error e=>rfl
   |ok r=>obtain⟨l,nl⟩:=r;simp
def aeB{α R:Type}{D:eC α}{s:av3}{u:Nat}{L:Nat→Nat→av3→List α→Option R}{fin:List α→av3→Option R}{bad:Int→Option R}
 (lY:∀x v t,D x = .ok (v,t)→t <:+ x)
 (step:∀m i t acc,i<u→acc.length=i→t <:+ s→L (m+1) i t acc=match D t with|.ok (v,bY)=>L m (i+1) bY (acc++[v])|.error e=>bad e)
 (stop:∀m t acc,acc.length=u→t <:+ s→L (m+1) u t acc=fin acc t) {m:Nat} (hm:u<m) {t:av3} (aF:t <:+ s):
 L m 0 t []=match hC D u t with|.ok (l,bY)=>fin l bY|.error e=>bad e:=by
 have:=aq1 (f:=λ_ v=>v) (L:=L) lY step stop u m 0 t [] (by omega) hm rfl aF
 rw [this];cases hC D u t with
 |error e=>rfl
 |ok r=>
  obtain⟨l,bY⟩:=r;have e:((l.zipIdx 0).map λp:α×Nat=>p.1)=l:=by rw [List.zipIdx_map_fst]
  simp only [List.nil_append];rw [e]
def u4:∀a b:av3,(!Op.bytesLess a b)=(Op.bytesLess b a||decide (b=a))
 |[],[]=>rfl
 |[],b::y=>rfl
 |a::x,[]=>rfl
 |a::x,b::y=>by
  simp only [Op.bytesLess,u4 x y,Bool.not_or,Bool.not_and];rcases Nat.lt_trichotomy a.toNat b.toNat with h|h|h
  ·have Z:a<b:=h;have ab:¬ b<a:=by show¬ b.toNat<a.toNat;omega
   have aj:a≠b:=by intro e;subst e;omega
   simp [Z,ab,Ne.symm aj]
  ·obtain rfl:a=b:=UInt8.toNat_inj.1 h;simp
  ·have Z:b<a:=h;have ab:¬ a<b:=by show¬ a.toNat<b.toNat;omega
   have aj:a≠b:=by intro e;subst e;omega
   simp [Z,ab,aj]
def aeC:∀a b c:av3,Op.bytesLess a b=true→Op.bytesLess b c=true→Op.bytesLess a c=true
 |_,[],_,h,_=>by simp [Op.bytesLess]at h
 |_,b::y,[],_,h=>by simp [Op.bytesLess]at h
 |[],b::y,c::z,_,_=>rfl
 |a::x,b::y,c::z,Z,ab=>by
  simp only [Op.bytesLess,Bool.or_eq_true,Bool.and_eq_true,decide_eq_true_eq,beq_iff_eq]at Z ab ⊢;rcases Z with Z|⟨rfl,Z⟩
  ·rcases ab with ab|⟨rfl,ab⟩
   ·left;show a.toNat<c.toNat;have aj:a.toNat<b.toNat:=Z;have aD:b.toNat<c.toNat:=ab;omega
   ·exact .inl Z
  ·rcases ab with ab|⟨rfl,ab⟩
   ·exact .inl ab
   ·exact .inr ⟨rfl,aeC x y z Z ab⟩
def iQ{β:Type}{c k:Bool}{x y:β}(h:c = !k):(bif c then x else y)=if k then y else x:=by subst h;cases k<;>rfl
def ml{i len:Nat}{b:Bool}(hi:i<len)(aa:len≤9223372036854775807):(b||(!(decide (0<(i:Int)))||aM (av5 ((i:Int)-1)) len))=true:=by
 cases i with
 |zero=>simp
 |succ i=>
  rw [show((i+1:Nat):Int)-1=(i:Int)by omega,Bx (by omega),b1 (by omega)];simp
def Bz{i len:Nat}{b c:Bool}(hi:i<len):(b||(c||aM (i:Int) len))=true:=by rw [b1 hi];simp
def aq2{i len:Nat}{b:Bool}(hi:i<len):(b||aM (i:Int) len)=true:=by rw [b1 hi];simp
def allI(len:Nat)(chk:Nat→Bool):Bool:=(List.range len).all chk
def jd{len:Nat}{chk:Nat→Bool}:allI len chk=true↔∀i,i<len→chk i=true:=by
 unfold allI;simp
def mm(b:Bool):(if b then true else false)=b:=by cases b<;>rfl
def rW(b c:Bool):(if b then c else false)=(b&&c):=by cases b<;>rfl
def ip{β:Type}{L:Nat→Int→Option β}{len:Nat}{chk:Nat→Bool}{no yes:β}{m:Nat}(hm:len<m)
 (step:∀m i,i<len→L (m+1) (i:Int)=if chk i then L m ((i+1:Nat):Int)else some no) (stop:∀m,L (m+1) (len:Int)=some yes):
 L m 0=some (if allI len chk then yes else no):=Vm hm step stop
abbrev pv(i:Nat):Nat:=(av5 ((i:Int)-1)).toNat
def Vw(i:Nat)(h:i≤9223372036854775807):pv (i+1)=i:=by
 unfold pv;(rw [show((i+1:Nat):Int)-1=(i:Int)by omega,Bx (by omega)];simp only [avU])
def aq3(len:Nat)(a b:Nat→Bool):(allI len λi=>a i&&b i)=(allI len a&&allI len b):=by
 rw [Bool.eq_iff_iff];simp only [jd,Bool.and_eq_true];exact⟨λh=>⟨λi hi=>(h i hi).1,λi hi=>(h i hi).2⟩,λh i hi=>⟨h.1 i hi,h.2 i hi⟩⟩
def aq4{L:Nat→Int→av8}{len:Nat}{p:Nat→Bool}
 (step:∀m i,i<len→L (m+1) (i:Int)=if p i then some (i:Int)else L m ((i+1:Nat):Int)) (stop:∀m,L (m+1) (len:Int)=some (-1)):
 ∀m i,len<i+m→i≤len→∃r,L m (i:Int)=some r∧decide (0≤r)=(List.range' i (len-i)).any p:=by
 intro m;induction m with
 |zero=>intro i h ab;omega
 |succ m aJ=>
  intro i h ab;by_cases hi:i<len
  ·rw [step m i hi,show len-i=(len-(i+1))+1 by omega,List.range'_succ,List.any_cons]
   cases hp:p i
   ·obtain⟨r,aj,aD⟩:=aJ (i+1) (by omega) (by omega)
    exact⟨r,by rw [if_neg (by simp)];exact aj,by rw [aD];simp⟩
   ·exact⟨(i:Int),by simp,by simp⟩
  ·obtain rfl:i=len:=by omega
   exact⟨-1,stop m,by simp⟩
def Vx{L:Nat→Int→av8}{len:Nat}{p:Nat→Bool}{m:Nat}(hm:len<m)
 (step:∀m i,i<len→L (m+1) (i:Int)=if p i then some (i:Int)else L m ((i+1:Nat):Int)) (stop:∀m,L (m+1) (len:Int)=some (-1)):
 ∃r,L m 0=some r∧decide (0≤r) = !allI len λi=>!p i:=by
 obtain⟨r,Z,ab⟩:=aq4 step stop m 0 (by omega) (by omega)
 refine⟨r,Z,?_⟩
 rw [ab,Nat.sub_zero,←List.range_eq_range'];unfold allI;rw [List.not_all_eq_any_not];simp
section
variable {n:Nat} (hn:2000≤n) (aV:n≤9223372036854775808)
include hn aV
def xN(l:List aU):Bool:=allI l.length λi=>jx (l.getD i default).Key&&ja (l.getD i default).bk&&(!decide (0<(i:Int))||Op.bytesLess (l.getD (pv i) default).Key (l.getD i default).Key)
def mn(l:List aU):Bool:=xN l&&allI l.length λi=>!decide ((l.getD i default).bk.Kind=0)
def u5(n:Nat)(p:aU):Prop:=p.Key.length<n∧p.bk.S.length<n
theorem aq5{l:List aU}(aa:l.length<n)(h:∀i,u5 n (l.getD i default)):IM n l=some (xN l):=by
 unfold IM xN;rw [ip (L:=zp n l) (no:=false) (yes:=true) aa,mm]
 ·intro m i hi;have Z:=h i;simp only [zp,IL,avV,hi,avM,avO,b1 hi,aT,an,avU,cR (show i≤9223372036854775806 by omega),Mm (show 24<n by omega),ml hi (show l.length≤9223372036854775807 by omega)]
  rw [show sJ n (⟨((l.getD i default).bk).Kind,((l.getD i default).bk).N,((l.getD i default).bk).S⟩:bH)=_ from Mo (v:=(l.getD i default).bk) (by have:=Z.2;omega) (by have:=Z.2;omega)]
  cases hk:jx (l.getD i default).Key
  ·simp only [avR,avQ,avP,avO,an,Bool.true_or,aT,Bool.false_and];rfl
  ·simp only [avR,avQ,avP,avO,an,ml hi (show l.length≤9223372036854775807 by omega),aT,Bool.true_and]
   exact iQ (by simp only [dH,el,Bool.not_and,Bool.not_or,Bool.not_not])
 ·intro m;simp only [zp,IL,Qw,avZ,avN,avP]
theorem aeD{l:List aU}(aa:l.length<n)(h:∀i,u5 n (l.getD i default)):DB n l=some (mn l):=by
 unfold DB Qv Qu mn;rw [aq5 hn aV aa h,an]
 obtain⟨r,Z,ab⟩:=Vx (L:=zo n l) (len:=l.length) (p:=λi=>decide ((l.getD i default).bk.Kind=0)) aa (by
  intro m i hi;simp only [zo,IK,Qs,avV,hi,avM,avO,b1 hi,aT,an,avU,cR (show i≤9223372036854775806 by omega),avY,av1]) (by
  intro m;simp only [zo,IK,Qt,avZ,avN,avP])
 rw [Z];simp only [an,ab];cases xN l<;>simp
theorem aq6{l:List aU}(aa:l.length<n)(h:∀i,u5 n (l.getD i default)):J2 n l=some (mn l):=by
 have e1:JZ n l=some (allI l.length λi=>jx (l.getD i default).Key&&(!decide (0<(i:Int))||Op.bytesLess (l.getD (pv i) default).Key (l.getD i default).Key)):=by
  unfold JZ;rw [ip (L:=Ad n l) (no:=false) (yes:=true) aa,mm]
  ·intro m i hi;have Z:=h i;simp only [Ad,JY,avV,hi,avM,avO,b1 hi,aT,an,avU,cR (show i≤9223372036854775806 by omega),Mn (show(l.getD i default).Key.length<n by have:=Z.1;omega) (by have:=Z.1;omega),Bz hi,ml hi (show l.length≤9223372036854775807 by omega),av0]
   exact iQ (by simp only [dH,el,Bool.not_and,Bool.not_or,Bool.not_not,←u4])
  ·intro m;simp only [Ad,JY,RR,avZ,avN,avP]
 have e2:Ej n l=some ((allI l.length λi=>ja (l.getD i default).bk)&&allI l.length λi=>jx (l.getD i default).Key&&(!decide (0<(i:Int))||Op.bytesLess (l.getD (pv i) default).Key (l.getD i default).Key)):=by
  unfold Ej;rw [ip (L:=Ae n l) (chk:=λi=>ja (l.getD i default).bk) (no:=false) (yes:=allI l.length λi=>jx (l.getD i default).Key&&(!decide (0<(i:Int))||Op.bytesLess (l.getD (pv i) default).Key (l.getD i default).Key)) aa,rW]
  ·intro m i hi;have Z:=h i;simp only [Ae,J0,avV,hi,avM,avO,b1 hi,aT,an,avU,cR (show i≤9223372036854775806 by omega),Mp (show(l.getD i default).bk.S.length<n by have:=Z.2;omega) (by have:=Z.2;omega)]
   exact iQ rfl
  ·intro m;simp only [Ae,J0,RS,avZ,avN,avP,e1,an]
 unfold J2;rw [ip (L:=Af n l) (chk:=λi=>!decide ((l.getD i default).bk.Kind=0)) (no:=false) (yes:=(allI l.length λi=>ja (l.getD i default).bk)&&allI l.length λi=>jx (l.getD i default).Key&&(!decide (0<(i:Int))||Op.bytesLess (l.getD (pv i) default).Key (l.getD i default).Key)) aa,rW]
 ·unfold mn xN;simp only [aq3]
  congr 1
  generalize (allI l.length λi=>jx (l.getD i default).Key)=a
  generalize (allI l.length λi=>ja (l.getD i default).bk)=b
  cases a<;>cases b<;>simp [Bool.and_comm]
 ·intro m i hi;simp only [Af,J1,avV,hi,avM,avO,b1 hi,aT,an,avU,cR (show i≤9223372036854775806 by omega)]
  exact iQ (by simp)
 ·intro m;simp only [Af,J1,RT,avZ,avN,avP,e2,an]
def rX(l:List bc):Bool:=(allI l.length λi=>jx (l.getD i default).Key && !decide ((l.getD i default).Count<1) && !decide (1099511627776<(l.getD i default).Count)&&(!decide (0<(i:Int))||Op.bytesLess (l.getD (pv i) default).Key (l.getD i default).Key))&&decide (((l.length:Nat):Int)≤32)
theorem aq7{l:List bc}(aa:l.length<n):JD n l=some (rX l):=by
 unfold JD rX;rw [ip (L:=zX n l) (no:=false) (yes:=decide (((l.length:Nat):Int)≤32)) aa,rW]
 ·intro m i hi;simp only [zX,JC,avV,hi,avM,avO,b1 hi,aT,an,avU,cR (show i≤9223372036854775806 by omega),Mm (show 24<n by omega),ml hi (show l.length≤9223372036854775807 by omega)]
  exact iQ (by simp only [dH,el,Bool.not_and,Bool.not_or,Bool.not_not])
 ·intro m;simp only [zX,JC,Rl,avZ,avN,avP]
theorem aq8{l:List bc}(aa:l.length<n)(h:∀i,(l.getD i default).Key.length<n):Kz n l=some (rX l):=by
 unfold Kz rX;rw [ip (L:=Az n l) (no:=false) (yes:=decide (((l.length:Nat):Int)≤32)) aa,rW]
 ·intro m i hi;have Z:=h i;simp only [Az,Ky,avV,hi,avM,avO,b1 hi,aT,an,avU,cR (show i≤9223372036854775806 by omega),Mn (show(l.getD i default).Key.length<n by omega) (by omega),Bz hi,aq2 hi,ml hi (show l.length≤9223372036854775807 by omega),av0]
  exact iQ (by simp only [dH,el,Bool.not_and,Bool.not_or,Bool.not_not,←u4])
 ·intro m;simp only [Az,Ky,Sx,avZ,avN,avP]
def qH(l:List av3):Bool:=(allI l.length λi=>jx (l.getD i default)&&(!decide (0<(i:Int))||Op.bytesLess (l.getD (pv i) default) (l.getD i default)))
theorem aeE{l:List av3}(aa:l.length<n):C0 n l=some (qH l&&decide (((l.length:Nat):Int)≤64)):=by
 unfold C0 qH;rw [ip (L:=yW n l) (no:=false) (yes:=decide (((l.length:Nat):Int)≤64)) aa,rW]
 ·intro m i hi;simp only [yW,HP,avV,hi,avM,avO,b1 hi,aT,an,avU,cR (show i≤9223372036854775806 by omega),Mm (show 24<n by omega),ml hi (show l.length≤9223372036854775807 by omega)]
  exact iQ (by simp only [dH,el,Bool.not_and,Bool.not_or,Bool.not_not,←u4])
 ·intro m;simp only [yW,HP,Pn,avZ,avN,avP]
theorem aeF{l:List av3}(aa:l.length<n)(h:∀i,(l.getD i default).length<n):EM n l=some (qH l):=by
 unfold EM qH;rw [ip (L:=AM n l) (no:=false) (yes:=true) aa,mm]
 ·intro m i hi;have Z:=h i;simp only [AM,K5,avV,hi,avM,avO,b1 hi,aT,an,avU,cR (show i≤9223372036854775806 by omega),Mn (show(l.getD i default).length<n by omega) (by omega),Bz hi,ml hi (show l.length≤9223372036854775807 by omega),av0]
  exact iQ (by simp only [dH,el,Bool.not_and,Bool.not_or,Bool.not_not])
 ·intro m;simp only [AM,K5,Tl,avZ,avN,avP]
def rY(f:fz):Bool:=bif f.ek then decide (f.Reads.length=0)&&decide (f.cA.length=0) else(qH f.Reads&&decide (f.Reads.length≤64))&&(qH f.cA&&decide (f.cA.length≤64))
theorem aq9{f:fz}(Z:f.Reads.length<n)(ab:f.cA.length<n):C1 n f=some (rY f):=by
 unfold C1 rY;rw [aeE hn aV Z,aeE hn aV ab];simp only [an,fx,lR,el];cases f.ek
 ·simp only [avP];cases qH f.Reads&&decide (f.Reads.length≤64)<;>rfl
 ·rfl
theorem aq'{f:fz}(Z:f.Reads.length<n)(ab:f.cA.length<n)(aj:∀i,(f.Reads.getD i default).length<n)(aD:∀i,(f.cA.getD i default).length<n):EN n f=some (rY f):=by
 unfold EN rY;rw [aeF hn aV Z aj,aeF hn aV ab aD];simp only [fx,lR,el];cases f.ek
 ·simp only [avP];cases decide (f.Reads.length≤64)<;>cases decide (f.cA.length≤64)<;>cases qH f.Reads<;>cases qH f.cA<;>rfl
 ·rfl
end
def oN(c b:Bool):(bif c then some b else some default)=some (c&&b):=by cases c<;>rfl
def aeG{l:Nat}{b:Bool}:(b||decide (l<1)||decide (16<l)||aM 0 l)=true:=by
 by_cases h:l<1
 ·rw [decide_eq_true h];simp
 ·rw [mi (by omega)];simp
def aeH{α:Type}(l:List α)(d:α){i k:Nat}(h:k<i):(l.take i).getD k d=l.getD k d:=by
 simp [List.getD_eq_getElem?_getD,List.getElem?_take,h]
section
variable {n:Nat} (hn:2000≤n) (aV:n≤9223372036854775808)
include hn aV
def pE(l:List bH):Bool:=allI l.length λi=>ja (l.getD i default) && !decide ((l.getD i default).Kind=0)
def pF(r:Request):Int:=
 bif (((decide (r.Client<1)||decide (32<r.Client))||decide (r.Seq<1))||decide (1099511627776<r.Seq))then 1 else
 bif !gy r.bg then 7 else
 bif decide (6<r.ax.length)then 2 else
 bif !pE r.ax then 1 else
 bif ((!rY r.bv||r.bv.ek)||(!r.eS&&decide (0<r.bv.Reads.length+r.bv.cA.length)))then 1 else 0
structure rZ(n:Nat)(r:Request):Prop where
 proc:r.bg.length≤1000
 args:r.ax.length<n
 vals:∀i,(r.ax.getD i default).S.length<n
 FX:r.bv.Reads.length<n
 FY:r.bv.cA.length<n
 qI:r.bv.Reads.length≤1000000
 wl:r.bv.cA.length≤1000000
 rd:∀i,(r.bv.Reads.getD i default).length<n
 wr:∀i,(r.bv.cA.getD i default).length<n
theorem Vy{r:Request}(h:rZ n r):pg n r=some (pF r):=by
 have Z:=h.proc;have ab:=h.args
 obtain⟨c,e1,e2⟩:=Vx (L:=yX n r.ax) (len:=r.ax.length) (p:=λi=>!(ja (r.ax.getD i default) && !decide ((r.ax.getD i default).Kind=0))) ab (by
  intro m i hi;have:=h.vals i
  simp only [yX,HQ,Pq,avV,hi,avM,avO,b1 hi,aT,avU,cR (show i≤9223372036854775806 by omega),Mo (show(r.ax.getD i default).S.length<n by omega) (by omega),oN,an]
  cases ja (r.ax.getD i default)<;>cases decide ((r.ax.getD i default).Kind=0)<;>rfl) (by
  intro m;simp only [yX,HQ,Pr,avZ,avN,avP])
 have e3:(allI r.ax.length λi=>!!(ja (r.ax.getD i default) && !decide ((r.ax.getD i default).Kind=0)))=pE r.ax:=by simp only [Bool.not_not];rfl
 rw [e3]at e2;unfold pg Pt Ps pF;rw [A7 n _ (by omega),e1,show C1 n ⟨r.bv.ek,r.bv.Reads,r.bv.cA⟩=_ from aq9 hn aV (f:=r.bv) h.FX h.FY]
 have aj:=h.FX;have aD:=h.FY;have ya:=h.qI;have aq_:=h.wl;have ie:av5 (((r.bv.Reads.length:Nat):Int)+((r.bv.cA.length:Nat):Int))=((r.bv.Reads.length+r.bv.cA.length:Nat):Int):=by rw [wr]<;>omega
 simp only [an,e2,ie,dH,el,fp];cases ((decide (r.Client<1)||decide (32<r.Client))||decide (r.Seq<1))||decide (1099511627776<r.Seq)<;>cases gy r.bg<;>cases decide (6<r.ax.length)<;>cases pE r.ax<;>cases ((!rY r.bv||r.bv.ek)||(!r.eS&&decide (0<r.bv.Reads.length+r.bv.cA.length)))<;>rfl
theorem ara{r:Request}(h:rZ n r):K7 n r=some (pF r):=by
 have Z:=h.proc;have ab:=h.args;have aj:=h.FX;have aD:=h.FY;have ya:=h.qI;have aq_:=h.wl;have ie:av5 (((r.bv.Reads.length:Nat):Int)+((r.bv.cA.length:Nat):Int))=((r.bv.Reads.length+r.bv.cA.length:Nat):Int):=by rw [wr]<;>omega
 have e1:xk n r n 0=some (if pE r.ax then(bif ((!rY r.bv||r.bv.ek)||(!r.eS&&decide (0<r.bv.Reads.length+r.bv.cA.length)))then 1 else 0)else 1):=by
  refine ip (L:=xk n r) ab ?_ ?_
  ·intro m i hi;have:=h.vals i
   simp only [xk,K6,avV,hi,avM,avO,b1 hi,aT,avU,cR (show i≤9223372036854775806 by omega),Mp (show(r.ax.getD i default).S.length<n by omega) (by omega),an,av0]
   exact iQ (by simp only [dH,el,Bool.not_and,Bool.not_or,Bool.not_not])
  ·intro m;simp only [xk,K6,Tm,avZ,avN,avP];rw [show EN n ⟨r.bv.ek,r.bv.Reads,r.bv.cA⟩=_ from aq' hn aV (f:=r.bv) h.FX h.FY h.rd h.wr]
   simp only [an,ie,dH,el,fp];cases ((!rY r.bv||r.bv.ek)||(!r.eS&&decide (0<r.bv.Reads.length+r.bv.cA.length)))<;>rfl
 unfold K7 pF;rw [A6 _ (by omega) (by omega) (by omega),e1]
 simp only [an,dH,el,fp];cases ((decide (r.Client<1)||decide (32<r.Client))||decide (r.Seq<1))||decide (1099511627776<r.Seq)<;>cases gy r.bg<;>cases decide (6<r.ax.length)<;>cases pE r.ax<;>rfl
def Mr(c:UInt8):Bool:=!(decide (c.toNat<33)||decide (126<c.toNat))
def nm(s:av3):Bool:=(allI s.length λi=>Mr (s.getD i 0))&&decide (s.length≤24)
theorem aeI{s:av3}(hs:s.length<n):DF n s=some (nm s):=by
 unfold DF nm;rw [ip (L:=zu n s) (no:=false) (yes:=decide (s.length≤24)) hs,rW]
 ·intro m i hi;simp only [zu,IR,avV,hi,avM,avO,b1 hi,aT,avU,cR (show i≤9223372036854775806 by omega),av0,ps,fp]
  exact iQ (by simp only [dH,Mr,Bool.not_not])
 ·intro m;simp only [zu,IR,Qz,avZ,avN,avP,lR]
theorem aeJ{s:av3}(hs:s.length<n):Es n s=some (nm s):=by
 unfold Es nm;rw [ip (L:=Ax n s) (chk:=λi=>Mr (s.getD i 0)) (no:=false) (yes:=true) hs,mm]
 ·simp only [fp];by_cases h:s.length≤24
  ·simp only [h,show¬ 24<s.length by omega,avM,avN,avP,Bool.and_true]
  ·simp only [h,show 24<s.length by omega,avM,avN,avO,Bool.and_false]
 ·intro m i hi;simp only [Ax,Kt,avV,hi,avM,avO,b1 hi,aT,avU,cR (show i≤9223372036854775806 by omega),av0,ps,fp]
  exact iQ (by simp only [dH,Mr,Bool.not_not])
 ·intro m;simp only [Ax,Kt,Su,avZ,avN,avP]
def r0(n:Int):Bool:=decide (1≤n)&&decide (n≤16)
def Vz(n:Int):Bool:=decide (1≤n)&&decide (n≤1099511627776)
def r4(l:List Part)(i:Nat):Bool:=
 let x:=l.getD i default
 bif decide (x.fH=0)then decide (x.dI=[]) else((((r0 x.fH && !decide (x.fH=x.Node))&&nm x.dI) && !Op.bytesLess x.dI x.dR)&&(decide (i+1=l.length)||Op.bytesLess x.dI (l.getD (i+1) default).dR))
def u6(l:List Part)(i:Nat):Bool:=
 let x:=l.getD i default
 (!decide (0<(i:Int))||(nm x.dR&&Op.bytesLess (l.getD (pv i) default).dR x.dR))&&(((Vz x.Id&&r0 x.Node)&&r4 l i)&&allI i λk=>!decide ((l.getD k default).Id=x.Id))
def nn(p:b8):Bool:=!((((decide (p.Version<0)||decide (1099511627776<p.Version))||decide (p.aE.length<1))||decide (16<p.aE.length)) || !decide ((p.aE.getD 0 default).dR=[]))&&allI p.aE.length (u6 p.aE)
def r5(n:Nat)(x:Part):Prop:=x.dR.length<n∧x.dI.length<n
theorem arb{l:List Part}(aa:l.length<n){i:Nat}(hi:i<l.length)(h:∀i,r5 n (l.getD i default)):IT n l (i:Int)=some (r4 l i):=by
 unfold IT DG r4;have Z:=(h i).2
 (rw [b1 hi,aT];simp only [avU];rw [aeI hn aV (by omega),cR (by omega)])
 simp only [an,el,dH,oN,Int.ofNat_inj,show(decide (1≤(l.getD i default).fH)&&decide ((l.getD i default).fH≤16))=r0 (l.getD i default).fH from rfl]
 cases decide ((l.getD i default).fH=0)
 ·simp only [avP];by_cases e:i+1=l.length
  ·simp only [e,avM,Bool.true_or,av0,aT];cases r0 (l.getD i default).fH<;>cases decide ((l.getD i default).fH=(l.getD i default).Node)<;>rfl
  ·rw [b1 (show i+1<l.length by omega)]
   simp only [e,avU,avN,Bool.false_or,av0,aT];cases r0 (l.getD i default).fH<;>cases decide ((l.getD i default).fH=(l.getD i default).Node)<;>rfl
 ·rfl
theorem aeK{p:b8}(aa:p.aE.length<n)(h:∀i,r5 n (p.aE.getD i default)):DH n p=some (nn p):=by
 have e1:wK n p n 0=some (allI p.aE.length (u6 p.aE)):=by
  rw [ip (L:=wK n p) (chk:=u6 p.aE) (no:=false) (yes:=true) aa,mm]
  ·intro m i hi;have Z:=h i;have ab:=Z.1;have cO:(p.aE.take i).length<n:=by simp;omega
   obtain⟨c,f1,f2⟩:=Vx (L:=zv n (p.aE.take i) (p.aE.getD i default).Id) (len:=(p.aE.take i).length) (p:=λk=>decide (((p.aE.take i).getD k default).Id=(p.aE.getD i default).Id)) cO (by
    intro m k hk;have o8:k≤9223372036854775806:=by omega
    simp only [zv,IS,QA,avV,hk,avM,avO,b1 hk,aT,an,avU,cR o8];cases decide (((p.aE.take i).getD k default).Id=(p.aE.getD i default).Id)<;>rfl) (by
    intro m;simp only [zv,IS,QB,avZ,avN,avP])
   have f3:(allI (p.aE.take i).length λk=>!decide (((p.aE.take i).getD k default).Id=(p.aE.getD i default).Id))=allI i λk=>!decide ((p.aE.getD k default).Id=(p.aE.getD i default).Id):=by
    rw [show(p.aE.take i).length=i by simp;omega,Bool.eq_iff_iff,jd,jd]
    constructor
    ·intro g k hk;have:=g k hk;rwa [aeH _ _ hk]at this
    ·intro g k hk;have:=g k hk;rwa [aeH _ _ hk]
   rw [f3]at f2;simp only [wK,IU,QD,QC,QE,DG,avV,hi,avM,avO,b1 hi,aT,an,avU,cR (show i≤9223372036854775806 by omega),aeI hn aV (show(p.aE.getD i default).dR.length<n by omega),oN,f1,arb hn aV aa hi h,xw (Nat.le_of_lt hi),av0]
   have g1:(!decide (0<(i:Int))||(!(decide (0<(i:Int))&&nm (p.aE.getD i default).dR)||aM (av5 ((i:Int)-1)) p.aE.length))=true:=by
    have:=ml (b:=!(decide (0<(i:Int))&&nm (p.aE.getD i default).dR)) hi (show p.aE.length≤9223372036854775807 by omega)
    rw [←this];cases decide (0<(i:Int))<;>simp
   simp only [g1,aT,←u4,dH,el];unfold u6 Vz r0;simp only
   cases hd:decide (0<(i:Int))
   ·simp only [Bool.false_and,avP,avR,Bool.true_or,Bool.true_and];cases (decide (1≤(p.aE.getD i default).Id)&&decide ((p.aE.getD i default).Id≤1099511627776))
    ·rfl
    ·cases (decide (1≤(p.aE.getD i default).Node)&&decide ((p.aE.getD i default).Node≤16))
     ·rfl
     ·cases r4 p.aE i
      ·rfl
      ·simp only [avQ,Bool.or_self,avR,avO,an,f2,Bool.false_or,Bool.true_and];exact iQ rfl
   ·simp only [Bool.true_and,avO,avQ,Bool.false_or];cases nm (p.aE.getD i default).dR
    ·rfl
    ·cases Op.bytesLess (p.aE.getD (pv i) default).dR (p.aE.getD i default).dR
     ·rfl
     ·cases (decide (1≤(p.aE.getD i default).Id)&&decide ((p.aE.getD i default).Id≤1099511627776))
      ·rfl
      ·cases (decide (1≤(p.aE.getD i default).Node)&&decide ((p.aE.getD i default).Node≤16))
       ·rfl
       ·cases r4 p.aE i
        ·rfl
        ·simp only [avQ,Bool.or_self,avR,avO,avP,an,f2,Bool.false_or,Bool.true_and];exact iQ rfl
  ·intro m;simp only [wK,IU,QF,avZ,avN,avP]
 unfold DH nn;rw [e1];simp only [dH,ps,fp,aeG,aT];cases (((decide (p.Version<0)||decide (1099511627776<p.Version))||decide (p.aE.length<1))||decide (16<p.aE.length)) || !decide ((p.aE.getD 0 default).dR=[])<;>rfl
end
def arc{β:Type}{L:Nat→Int→Option β}{len:Nat}{chk:Nat→Bool}{no:β}{yes:Option β}
 (step:∀m i,i<len→L (m+1) (i:Int)=if chk i then L m ((i+1:Nat):Int)else some no) (stop:∀m,L (m+1) (len:Int)=yes):
 ∀m i,len<i+m→i≤len→L m (i:Int)=if(List.range' i (len-i)).all chk then yes else some no:=by
 intro m;induction m with
 |zero=>intro i h ab;omega
 |succ m aJ=>
  intro i h ab;by_cases hi:i<len
  ·rw [step m i hi,aJ (i+1) (by omega) (by omega),show len-i=(len-(i+1))+1 by omega,List.range'_succ,List.all_cons]
   cases chk i
   ·rfl
   ·rw [if_pos rfl,Bool.true_and]
  ·obtain rfl:i=len:=by omega
   rw [stop m];simp
def aeL{β:Type}{L:Nat→Int→Option β}{len:Nat}{chk:Nat→Bool}{no:β}{yes:Option β}{m:Nat}(hm:len<m)
 (step:∀m i,i<len→L (m+1) (i:Int)=if chk i then L m ((i+1:Nat):Int)else some no) (stop:∀m,L (m+1) (len:Int)=yes):
 L m 0=if allI len chk then yes else some no:=by
 have:=arc step stop m 0 (by omega) (by omega)
 rwa [Nat.sub_zero,←List.range_eq_range']at this
section
variable {n:Nat} (hn:2000≤n) (aV:n≤9223372036854775808)
include hn aV
theorem ard{l:List Part}{i:Nat}(hi:i<l.length)(h:∀i,r5 n (l.getD i default))(eU:av3)(hnx:i+1<l.length→eU=(l.getD (i+1) default).dR):
 Ku n (l.getD i default) eU (decide (((i+1:Nat):Int)=((l.length:Nat):Int)))=some (r4 l i):=by
 unfold Ku r4;have Z:=(h i).2;rw [aeJ hn aV (by omega)]
 simp only [oN,an,el,dH,Int.ofNat_inj,show(decide (1≤(l.getD i default).fH)&&decide ((l.getD i default).fH≤16))=r0 (l.getD i default).fH from rfl]
 cases decide ((l.getD i default).fH=0)
 ·simp only [avP];by_cases e:i+1=l.length
  ·simp only [e,avM,Bool.true_or];cases r0 (l.getD i default).fH<;>cases decide ((l.getD i default).fH=(l.getD i default).Node)<;>cases nm (l.getD i default).dI<;>rfl
  ·rw [hnx (by omega)]
   simp only [e,avN,Bool.false_or];cases r0 (l.getD i default).fH<;>cases decide ((l.getD i default).fH=(l.getD i default).Node)<;>cases nm (l.getD i default).dI<;>rfl
 ·rfl
theorem aeM{p:b8}(aa:p.aE.length<n)(h:∀i,r5 n (p.aE.getD i default))(h0:(p.aE.getD 0 default).dR=[])(ak:Int→av7){i:Nat}(hi:i<p.aE.length)(eU:av3)(hnx:i+1<p.aE.length→eU=(p.aE.getD (i+1) default).dR):
 Et n ak p (i:Int) eU=if u6 p.aE i then ak ((i+1:Nat):Int)else some false:=by
 have Z:=(h i).1
 have pY:xf n ak p (i:Int) n 0=if(allI i λk=>!decide ((p.aE.getD k default).Id=(p.aE.getD i default).Id))then ak ((i+1:Nat):Int)else some false:=by
  refine aeL (L:=xf n ak p (i:Int)) (by omega) ?_ ?_
  ·intro m k hk;have o8:k<p.aE.length:=by omega
   simp only [xf,Kv,avV,hk,avM,avO,b1 o8,aT,avU,cR (show k≤9223372036854775806 by omega)]
   exact iQ (by rw [Bool.not_not])
  ·intro m;simp only [xf,Kv,Sw,avZ,avN,avP,cR (show i≤9223372036854775806 by omega)]
 unfold Et
 (simp only [avU];rw [aeJ hn aV (by omega),an,ml hi (by omega),aT,cR (by omega),ard hn aV hi h eU hnx,oN,an,pY])
 simp only [dH,el,←u4];unfold u6 Vz r0;simp only
 have g0:(decide (0<(i:Int)))=false→nm (p.aE.getD i default).dR=true:=by
  intro e;obtain rfl:i=0:=by have:=of_decide_eq_false e;omega
  rw [h0];rfl
 have c1:decide ((p.aE.getD i default).Id<1) = !decide (1≤(p.aE.getD i default).Id):=by
  by_cases g:(p.aE.getD i default).Id<1
  ·rw [decide_eq_true g,decide_eq_false (by omega)];rfl
  ·rw [decide_eq_false g,decide_eq_true (by omega)];rfl
 have c2:decide (1099511627776<(p.aE.getD i default).Id) = !decide ((p.aE.getD i default).Id≤1099511627776):=by
  by_cases g:(1099511627776<(p.aE.getD i default).Id)
  ·rw [decide_eq_true g,decide_eq_false (by omega)];rfl
  ·rw [decide_eq_false g,decide_eq_true (by omega)];rfl
 have c3:decide ((p.aE.getD i default).Node<1) = !decide (1≤(p.aE.getD i default).Node):=by
  by_cases g:(p.aE.getD i default).Node<1
  ·rw [decide_eq_true g,decide_eq_false (by omega)];rfl
  ·rw [decide_eq_false g,decide_eq_true (by omega)];rfl
 have c4:decide (16<(p.aE.getD i default).Node) = !decide ((p.aE.getD i default).Node≤16):=by
  by_cases g:(16<(p.aE.getD i default).Node)
  ·rw [decide_eq_true g,decide_eq_false (by omega)];rfl
  ·rw [decide_eq_false g,decide_eq_true (by omega)];rfl
 rw [c1,c2,c3,c4,←avY,←avY];generalize (allI i λk=>!decide ((p.aE.getD k default).Id=(p.aE.getD i default).Id))=z
 cases hd:decide (0<(i:Int))
 ·rw [g0 hd];cases decide (1≤(p.aE.getD i default).Id)<;>cases decide ((p.aE.getD i default).Id≤1099511627776)<;>cases decide (1≤(p.aE.getD i default).Node)<;>cases decide ((p.aE.getD i default).Node≤16)<;>cases r4 p.aE i<;>cases z<;>rfl
 ·cases nm (p.aE.getD i default).dR<;>cases Op.bytesLess (p.aE.getD (pv i) default).dR (p.aE.getD i default).dR<;>cases decide (1≤(p.aE.getD i default).Id)<;>cases decide ((p.aE.getD i default).Id≤1099511627776)<;>cases decide (1≤(p.aE.getD i default).Node)<;>cases decide ((p.aE.getD i default).Node≤16)<;>cases r4 p.aE i<;>cases z<;>rfl
theorem are{p:b8}(aa:p.aE.length<n)(h:∀i,r5 n (p.aE.getD i default)):Kx n p=some (nn p):=by
 unfold Kx nn;simp only [dH,ps,fp,aeG,aT];cases h0:(((decide (p.Version<0)||decide (1099511627776<p.Version))||decide (p.aE.length<1))||decide (16<p.aE.length)) || !decide ((p.aE.getD 0 default).dR=[])
 ·have aeN:(p.aE.getD 0 default).dR=[]:=by
   simp only [Bool.or_eq_false_iff,Bool.not_eq_false',decide_eq_true_eq]at h0;exact h0.2
  rw [avP];rw [ip (L:=Ay n p) (chk:=u6 p.aE) (no:=false) (yes:=true) aa,mm]
  ·rfl
  ·intro m i hi;simp only [Ay,Kw,avV,hi,avM,avO,b1 hi,aT,cR (show i≤9223372036854775806 by omega)]
   by_cases e:i+1<p.aE.length
   ·rw [b1 e];simp only [e,avM,avO,aT,avU];exact aeM hn aV aa h aeN _ hi _ (λ_=>rfl)
   ·simp only [e,avN,avP];exact aeM hn aV aa h aeN _ hi _ (λg=>absurd g e)
  ·intro m;simp only [Ay,Kw,Sv,avZ,avN,avP]
 ·rfl
def u7(o:Outcome):Bool:=bif decide (o.Status=1) then(decide (o.Code=0)&&decide (o.Out.length≤16))&&pE o.Out else((decide (o.Status=2)&&decide (0≤o.Code))&&decide (o.Code≤1009))&&decide (o.Out.length=0)
structure xO(n:Nat)(o:Outcome):Prop where
 out:o.Out.length<n
 vals:∀i,(o.Out.getD i default).S.length<n
theorem arf{o:Outcome}(h:xO n o):Ds n o=some (u7 o):=by
 have Z:=h.out
 have e1:wD n o n 0=some (pE o.Out):=by
  rw [ip (L:=wD n o) (no:=false) (yes:=true) Z,mm]
  ·rfl
  ·intro m i hi;have:=h.vals i
   simp only [wD,Iu,avV,hi,avM,avO,b1 hi,aT,avU,cR (show i≤9223372036854775806 by omega),Mo (show(o.Out.getD i default).S.length<n by omega) (by omega),an]
   exact iQ (by simp only [dH,Bool.not_and,Bool.not_not])
  ·intro m;simp only [wD,Iu,Qj,avZ,avN,avP]
 unfold Ds Qi u7;rw [e1];simp only [dH,el,fp,fx];cases decide (o.Status=1)
 ·simp only [avP];cases decide (o.Status=2)<;>rfl
 ·simp only [avO];by_cases g:o.Out.length≤16
  ·simp only [show¬ 16<o.Out.length by omega,g,avM,avN]
   cases decide (o.Code=0)<;>rfl
  ·simp only [show 16<o.Out.length by omega,g,avM,avN,av0,avO,Bool.and_false,Bool.false_and]
theorem arh{o:Outcome}(h:xO n o):Eu n o=some (u7 o):=by
 have Z:=h.out
 have e1:xg n o.Out n 0=some (pE o.Out&&decide (o.Out.length≤16)):=by
  rw [ip (L:=xg n o.Out) (chk:=λi=>ja (o.Out.getD i default) && !decide ((o.Out.getD i default).Kind=0)) (no:=false) (yes:=decide (o.Out.length≤16)) Z,rW]
  ·rfl
  ·intro m i hi;have:=h.vals i
   simp only [xg,KA,avV,hi,avM,avO,b1 hi,aT,avU,cR (show i≤9223372036854775806 by omega),Mp (show(o.Out.getD i default).S.length<n by omega) (by omega),an,av0]
   exact iQ (by simp only [dH,Bool.not_and,Bool.not_not])
  ·intro m;simp only [xg,KA,Sy,avZ,avN,avP,lR]
 unfold Eu Sz u7;rw [e1,oN,an];simp only [el,fx];cases decide (o.Status=1)
 ·rfl
 ·simp only [avO];cases decide (o.Code=0)<;>cases decide (o.Out.length≤16)<;>cases pE o.Out<;>rfl
def kA(eU:Int):Int:=bif (decide ((av5 (eU-1))<8)) then(av5 (eU-1))else 8
def xP(s:b0):Bool:=((decide (s.Client<1)||decide (32<s.Client))||decide (s.Next<1))||decide (1099511627776<s.Next)
omit hn aV in
theorem VA{s:b0}(h:xP s=false):1≤s.Client∧s.Client≤32∧1≤s.Next∧s.Next≤1099511627776:=by
 simp only [xP,Bool.or_eq_false_iff,decide_eq_false_iff_not]at h;omega
def BA(s:b0)(i:Nat):Bool:=(decide ((s.b'.getD i default).Client=s.Client)&&decide ((s.b'.getD i default).Seq=s.Next-(s.b'.length:Int)+(i:Int)))&&u7 (s.b'.getD i default).Outcome
def xQ(s:b0):Bool:=(!xP s&&decide ((s.b'.length:Int)=kA s.Next))&&allI s.b'.length (BA s)
structure qJ(n:Nat)(s:b0):Prop where
 rep:s.b'.length<n
 out:∀i,xO n (s.b'.getD i default).Outcome
theorem ari{s:b0}(h:qJ n s):Iw n s=some (xQ s):=by
 have Z:=h.rep;unfold Iw Dr xQ;simp only [dH];rw [show(((decide (s.Client<1)||decide (32<s.Client))||decide (s.Next<1))||decide (1099511627776<s.Next))=xP s from rfl]
 cases aS:xP s
 ·have hb:=VA aS;simp only [avR,avO,an,Bool.false_or,Bool.true_and];rw [show(bif (decide ((av5 (s.Next-1))<8)) then(av5 (s.Next-1))else 8)=kA s.Next from rfl]
  rw [ip (L:=zd n s) (chk:=BA s) (no:=false) (yes:=true) Z,mm]
  ·cases decide ((s.b'.length:Int)=kA s.Next)<;>rfl
  ·intro m i hi;simp only [zd,Iv,avV,hi,avM,avO,b1 hi,aT,avU,cR (show i≤9223372036854775806 by omega)]
   rw [show Ds n (⟨((s.b'.getD i default).Outcome).Status,((s.b'.getD i default).Outcome).Code,((s.b'.getD i default).Outcome).Out⟩:Outcome)=_ from arf hn aV (h.out i),oN,an,wr (x:=s.Next-((s.b'.length:Nat):Int)) (by omega) (by omega),wr (x:=s.Next-((s.b'.length:Nat):Int)+(i:Int)) (by omega) (by omega)]
   refine iQ ?_;unfold BA;simp only [dH,Bool.and_true,Bool.not_not];cases decide ((s.b'.getD i default).Client=s.Client)<;>cases decide ((s.b'.getD i default).Seq=s.Next-(s.b'.length:Int)+(i:Int))<;>rfl
  ·intro m;simp only [zd,Iv,Qk,avZ,avN,avP]
 ·rfl
theorem arj{s:b0}(h:qJ n s):KC n s=some (xQ s):=by
 have Z:=h.rep;unfold KC SA xQ;simp only [dH];rw [show(((decide (s.Client<1)||decide (32<s.Client))||decide (s.Next<1))||decide (1099511627776<s.Next))=xP s from rfl]
 cases aS:xP s
 ·have hb:=VA aS;simp only [avR,avO,an,Bool.false_or,Bool.true_and];rw [show(bif (decide ((av5 (s.Next-1))<8)) then(av5 (s.Next-1))else 8)=kA s.Next from rfl]
  rw [ip (L:=AA n s) (chk:=BA s) (no:=false) (yes:=true) Z,mm]
  ·cases decide ((s.b'.length:Int)=kA s.Next)<;>rfl
  ·intro m i hi;simp only [AA,KB,avV,hi,avM,avO,b1 hi,aT,avU,cR (show i≤9223372036854775806 by omega)]
   rw [show Eu n (⟨((s.b'.getD i default).Outcome).Status,((s.b'.getD i default).Outcome).Code,((s.b'.getD i default).Outcome).Out⟩:Outcome)=_ from arh hn aV (h.out i),oN,an,wr (x:=((s.b'.length:Nat):Int)-(i:Int)) (by omega) (by omega),show s.Next-(((s.b'.length:Nat):Int)-(i:Int))=s.Next-((s.b'.length:Nat):Int)+(i:Int)by omega,wr (x:=s.Next-((s.b'.length:Nat):Int)+(i:Int)) (by omega) (by omega)]
   refine iQ ?_;unfold BA;simp only [dH,Bool.and_true,Bool.not_not];cases decide ((s.b'.getD i default).Client=s.Client)<;>cases decide ((s.b'.getD i default).Seq=s.Next-(s.b'.length:Int)+(i:Int))<;>rfl
  ·intro m;simp only [AA,KB,SB,avZ,avN,avP]
 ·rfl
def n3(l:List b0):Bool:=allI l.length λi=>xQ (l.getD i default)&&(!decide (0<(i:Int)) || !decide ((l.getD i default).Client≤(l.getD (pv i) default).Client))
theorem VB{l:List b0}(aa:l.length<n)(h:∀i,qJ n (l.getD i default)):uk n l=some (n3 l):=by
 unfold uk n3;rw [ip (L:=ze n l) (no:=false) (yes:=true) aa,mm]
 ·intro m i hi;simp only [ze,Ix,avV,hi,avM,avO,b1 hi,aT,avU,cR (show i≤9223372036854775806 by omega),ari hn aV (h i),an,ml hi (show l.length≤9223372036854775807 by omega)]
  exact iQ (by simp only [dH,el,Bool.not_and,Bool.not_or,Bool.not_not])
 ·intro m;simp only [ze,Ix,Ql,avZ,avN,avP]
theorem ark{l:List b0}(aa:l.length<n)(h:∀i,qJ n (l.getD i default)):KE n l=some (n3 l):=by
 unfold KE n3;rw [ip (L:=AB n l) (no:=false) (yes:=true) aa,mm]
 ·intro m i hi;simp only [AB,KD,avV,hi,avM,avO,b1 hi,aT,avU,cR (show i≤9223372036854775806 by omega),arj hn aV (h i),an,Bz hi,ml hi (show l.length≤9223372036854775807 by omega),av0]
  exact iQ (by simp only [dH,el,Bool.not_and,Bool.not_or,Bool.not_not])
 ·intro m;simp only [AB,KD,SC,avZ,avN,avP]
end
def aeO{β:Type}{c d k:Bool}{x y:β}(h:k=(!c && !d)):(bif c then x else(bif d then x else y))=if k then y else x:=by subst h;cases c<;>cases d<;>rfl
def arl{α σ R:Type}[Inhabited α]{l:List α}{g:σ→α→σ}{I:Nat→σ→Prop}{L:Nat→σ→Int→Option R}{fin:σ→Option R}
 (step:∀m acc i,i<l.length→I i acc→L (m+1) acc (i:Int)=L m (g acc (l.getD i default)) ((i+1:Nat):Int)∧I (i+1) (g acc (l.getD i default)))
 (stop:∀m acc,I l.length acc→L (m+1) acc (l.length:Int)=fin acc):
 ∀m i acc,l.length<i+m→i≤l.length→I i acc→L m acc (i:Int)=fin ((l.drop i).foldl g acc):=by
 intro m;induction m with
 |zero=>intro i acc h ab;omega
 |succ m aJ=>
  intro i acc h ab my;by_cases hi:i<l.length
  ·obtain⟨aj,aD⟩:=step m acc i hi my;rw [aj,aJ (i+1) _ (by omega) (by omega) aD,fo l i default hi,List.foldl_cons]
  ·obtain rfl:i=l.length:=by omega
   rw [stop m acc my,List.drop_of_length_le (Nat.le_refl _)];rfl
def aeP{α σ R:Type}[Inhabited α]{l:List α}{g:σ→α→σ}{I:Nat→σ→Prop}{L:Nat→σ→Int→Option R}{fin:σ→Option R}{m:Nat}(hm:l.length<m){acc:σ}(h0:I 0 acc)
 (step:∀m acc i,i<l.length→I i acc→L (m+1) acc (i:Int)=L m (g acc (l.getD i default)) ((i+1:Nat):Int)∧I (i+1) (g acc (l.getD i default)))
 (stop:∀m acc,I l.length acc→L (m+1) acc (l.length:Int)=fin acc):L m acc 0=fin (l.foldl g acc):=
 arl step stop m 0 acc (by omega) (by omega) h0
def fold_map{α β:Type}(f:α→β):∀(l:List α) (acc:List β),l.foldl (λa x=>a++[f x]) acc=acc++l.map f
 |[],acc=>by simp
 |x::l,acc=>by rw [List.foldl_cons,fold_map f l];simp
def lZ{m k:Nat}(h:m*k≤140737488355328):room m k=true:=by simp [room];exact h
def VC{α:Type}[Inhabited α]{l:List α}{i:Nat}(h:i<l.length):l.getD i default∈l:=by
 rw [List.getD_eq_getElem?_getD,List.getElem?_eq_getElem h];exact List.getElem_mem h
section
variable {n:Nat} (hn:2000≤n) (aV:n≤9223372036854775808)
include hn aV
def VD(a b:bH):Bool:=decide (a.Kind=b.Kind)&&(decide (a.N=b.N)&&(decide (a.S=b.S)&&true))
def tn(r:Row)(floor last:Int)(i:Nat):Bool:=
 ((!decide ((r.bp.getD i default).bN<floor) && !decide (last<(r.bp.getD i default).bN))&&ja (r.bp.getD i default).bk) &&
 !(decide (0<(i:Int))&&(decide ((r.bp.getD i default).bN≤(r.bp.getD (pv i) default).bN)||VD (r.bp.getD i default).bk (r.bp.getD (pv i) default).bk))
def pG(r:Row)(floor last:Int):Bool:=!(decide (r.bp.length=0)||decide ((r.bp.getD 0 default).bk.Kind=0))&&allI r.bp.length (tn r floor last)
structure Ms(n:Nat)(r:Row):Prop where
 key:r.Key.length<n
 Mt:r.bp.length<n
 val:∀i,(r.bp.getD i default).bk.S.length<n
omit hn aV in
theorem aeQ{i len:Nat}{b:Bool}(hi:i<len)(aa:len≤9223372036854775807):(!(decide (0<(i:Int)))||(b||aM (av5 ((i:Int)-1)) len))=true:=by
 have:=ml (b:=b) hi aa
 rw [←this];cases decide (0<(i:Int))<;>cases b<;>simp
omit hn aV in
theorem aeR{i len:Nat}(hi:i<len)(aa:len≤9223372036854775807):(!(decide (0<(i:Int)))||aM (av5 ((i:Int)-1)) len)=true:=by
 have:=ml (b:=false) hi aa
 rw [Bool.false_or]at this;exact this
omit hn aV in
theorem aeS{l:Nat}:(decide (l=0)||aM 0 l)=true:=by
 by_cases h:l=0
 ·rw [decide_eq_true h];rfl
 ·rw [mi (by omega)];simp
theorem arm{r:Row}(h:Ms n r)(floor last:Int):HX n r floor last=some (pG r floor last):=by
 have Z:=h.Mt;unfold HX pG;rw [ip (L:=y2 n floor last r) (chk:=tn r floor last) (no:=false) (yes:=true) Z,mm]
 ·simp only [fx,aeS,aT,dH];cases decide (r.bp.length=0)||decide ((r.bp.getD 0 default).bk.Kind=0)<;>rfl
 ·intro m i hi;have ab:=h.val i;simp only [y2,HW,avV,hi,avM,avO,b1 hi,aT,avU,cR (show i≤9223372036854775806 by omega),aeQ hi (show r.bp.length≤9223372036854775807 by omega),aeR hi (show r.bp.length≤9223372036854775807 by omega)]
  rw [show sJ n (⟨((r.bp.getD i default).bk).Kind,((r.bp.getD i default).bk).N,((r.bp.getD i default).bk).S⟩:bH)=_ from Mo (v:=(r.bp.getD i default).bk) (by omega) (by omega),oN,an]
  refine aeO ?_;unfold tn;simp only [VD,dH,el,Bool.not_and,Bool.not_or,Bool.not_not];cases decide ((r.bp.getD i default).bN<floor)<;>cases decide (last<(r.bp.getD i default).bN)<;>cases ja (r.bp.getD i default).bk<;>rfl
 ·intro m;simp only [y2,HW,Pz,avZ,avN,avP]
theorem arn{r:Row}(h:Ms n r)(floor last:Int):J6 n r floor last=some (jx r.Key&&pG r floor last):=by
 have Z:=h.Mt;have h0:=h.key;unfold J6 pG;rw [Mn (by omega) (by omega),an]
 rw [ip (L:=Aj n floor last r) (chk:=tn r floor last) (no:=false) (yes:=true) Z,mm]
 ·have g:∀b:Bool,(b||decide (r.bp.length=0)||aM 0 r.bp.length)=true:=λb=>by rw [Bool.or_assoc,aeS];simp
  simp only [fx,dH,g,aT];cases jx r.Key<;>cases decide (r.bp.length=0)<;>cases decide ((r.bp.getD 0 default).bk.Kind=0)<;>rfl
 ·intro m i hi;have ab:=h.val i;simp only [Aj,J5,RX,avV,hi,avM,avO,b1 hi,aT,avU,cR (show i≤9223372036854775806 by omega),aeQ hi (show r.bp.length≤9223372036854775807 by omega),aeR hi (show r.bp.length≤9223372036854775807 by omega)]
  rw [show uw n (⟨((r.bp.getD i default).bk).Kind,((r.bp.getD i default).bk).N,((r.bp.getD i default).bk).S⟩:bH)=_ from Mp (v:=(r.bp.getD i default).bk) (by omega) (by omega),an,an]
  refine aeO ?_;unfold tn;simp only [VD,dH,el,Bool.not_and,Bool.not_or,Bool.not_not];cases decide ((r.bp.getD i default).bN<floor)<;>cases decide (last<(r.bp.getD i default).bN)<;>cases ja (r.bp.getD i default).bk<;>rfl
 ·intro m;simp only [Aj,J5,RY,avZ,avN,avP]
def l1(s:aq):Bool:=!((decide (s.bx<0)||decide (s.br<s.bx))||decide (1099511627776<s.br)) &&
 allI s.Rows.length λi=>(jx (s.Rows.getD i default).Key&&(!decide (0<(i:Int))||Op.bytesLess (s.Rows.getD (pv i) default).Key (s.Rows.getD i default).Key))&&pG (s.Rows.getD i default) s.bx s.br
structure BB(n:Nat)(s:aq):Prop where
 rows:s.Rows.length<n
 row:∀i,Ms n (s.Rows.getD i default)
theorem aeT{s:aq}(h:BB n s):wx n s=some (l1 s):=by
 have Z:=h.rows;unfold wx l1;rw [ip (L:=y3 n s) (chk:=λi=>(jx (s.Rows.getD i default).Key&&(!decide (0<(i:Int))||Op.bytesLess (s.Rows.getD (pv i) default).Key (s.Rows.getD i default).Key))&&pG (s.Rows.getD i default) s.bx s.br) (no:=false) (yes:=true) Z,mm]
 ·simp only [dH];cases (decide (s.bx<0)||decide (s.br<s.bx))||decide (1099511627776<s.br)<;>rfl
 ·intro m i hi;have ab:=(h.row i).key;simp only [y3,HY,avV,hi,avM,avO,b1 hi,aT,an,avU,cR (show i≤9223372036854775806 by omega),Mm (show 24<n by omega),ml hi (show s.Rows.length≤9223372036854775807 by omega),arm hn aV (h.row i),oN,←u4]
  refine iQ ?_;simp only [dH,el];cases jx (s.Rows.getD i default).Key<;>cases decide (0<(i:Int))<;>cases Op.bytesLess (s.Rows.getD (pv i) default).Key (s.Rows.getD i default).Key<;>rfl
 ·intro m;simp only [y3,HY,PA,avZ,avN,avP]
theorem aeU{s:aq}(h:BB n s):xd n s=some (l1 s):=by
 have Z:=h.rows;unfold xd l1;rw [ip (L:=Ak n s) (chk:=λi=>(jx (s.Rows.getD i default).Key&&(!decide (0<(i:Int))||Op.bytesLess (s.Rows.getD (pv i) default).Key (s.Rows.getD i default).Key))&&pG (s.Rows.getD i default) s.bx s.br) (no:=false) (yes:=true) Z,mm]
 ·simp only [dH];cases (decide (s.bx<0)||decide (s.br<s.bx))||decide (1099511627776<s.br)<;>rfl
 ·intro m i hi;simp only [Ak,J7,avV,hi,avM,avO,b1 hi,aT,an,avU,cR (show i≤9223372036854775806 by omega),arn hn aV (h.row i),Bz hi,ml hi (show s.Rows.length≤9223372036854775807 by omega),av0]
  refine iQ ?_;simp only [dH,el];cases jx (s.Rows.getD i default).Key<;>cases decide (0<(i:Int))<;>cases Op.bytesLess (s.Rows.getD (pv i) default).Key (s.Rows.getD i default).Key<;>cases pG (s.Rows.getD i default) s.bx s.br<;>rfl
 ·intro m;simp only [Ak,J7,RZ,avZ,avN,avP]
def np(l:List aU)(at_:Int):aq:=⟨at_,at_,l.map λp=>⟨p.Key,[⟨at_,p.bk⟩]⟩⟩
def BC(l:List aU)(at_:Int):aq×Int:=bif ((!mn l||decide (at_<0))||decide (1099511627776<at_)) then(⟨0,0,[]⟩,1) else(np l at_,0)
theorem aro{l:List aU}(aa:l.length<n)(eH:l.length≤1000000000)(h:∀i,u5 n (l.getD i default))(at_:Int):w7 n l at_=some (BC l at_):=by
 unfold w7 BC;rw [aeD hn aV aa h,an,aeP (L:=z1 n at_ l) (g:=λa p=>a++[⟨p.Key,[⟨at_,p.bk⟩]⟩]) (I:=λi acc=>acc.length=i) (fin:=λv=>some (⟨at_,at_,v⟩,0)) aa rfl,fold_map]
 ·simp only [dH,List.nil_append];cases (!mn l||decide (at_<0))||decide (1099511627776<at_)<;>rfl
 ·intro m acc i hi my;have:room (acc.length+1) 40=true:=lZ (by omega)
  simp only [z1,JH,avV,hi,avM,avO,b1 hi,aT,avU,cR (show i≤9223372036854775806 by omega),avX,this]
  exact⟨trivial,by simp [my]⟩
 ·intro m acc my;simp only [z1,JH,Ro,avZ,avN,avP]
theorem arp{l:List aU}(aa:l.length<n)(eH:l.length≤1000000000)(h:∀i,u5 n (l.getD i default))(at_:Int):Ah n l at_=some (BC l at_):=by
 unfold Ah BC;rw [aq6 hn aV aa h,an,aeP (L:=Ag n l at_) (g:=λa p=>a++[⟨p.Key,[⟨at_,p.bk⟩]⟩]) (I:=λi acc=>acc.length=i) (fin:=λv=>some (⟨at_,at_,v⟩,0)) aa rfl,fold_map]
 ·simp only [dH,List.nil_append];cases (!mn l||decide (at_<0))||decide (1099511627776<at_)<;>rfl
 ·intro m acc i hi my;have:room (acc.length+1) 40=true:=lZ (by omega)
  simp only [Ag,J3,avV,hi,avM,avO,b1 hi,aT,avU,cR (show i≤9223372036854775806 by omega),avX,this]
  exact⟨trivial,by simp [my]⟩
 ·intro m acc my;simp only [Ag,J3,RU,avZ,avN,avP]
end
def r6{α:Type}[Inhabited α]{P:α→Prop}{l:List α}(h:∀x∈l,P x)(h0:P default)(i:Nat):P (l.getD i default):=by
 by_cases hi:i<l.length
 ·exact h _ (VC hi)
 ·rw [List.getD_eq_getElem?_getD,List.getElem?_eq_none (by omega)];exact h0
def tp{v:bH}(h:qF v):v.S.length≤64:=by
 rcases xM h.1 with h|h|h
 ·rw [h];simp
 ·rw [h.2];simp
 ·exact aeu h.2.2
def BD:eC aU:=fY (λp=>⟨p.1,p.2⟩) (dU (gb 24) λ_=>mU)
def lp(p:aU):av3:=gk p.Key++bV p.bk
def r7(p:aU):Prop:=p.Key.length≤24∧qF p.bk
def VE:er BD lp r7:=
 (n2.dep λ_ _=>tm).map _ (λp=>(p.Key,p.bk)) r7 lp (λb h=>⟨rfl,⟨h.1,h.2⟩,rfl⟩) (λa h=>⟨rfl,⟨h.1,h.2⟩⟩)
def BE:eC (List aU):=mR mn 5 (jz 2147483647 BD)
def arq:er (jz 2147483647 BD) (ef lp) (λl=>l.length≤2147483647∧∀v∈l,r7 v):=VE.u2 _ (by omega) (λv _=>by unfold lp gk;simp [qE])
def Mu:er BE (ef lp) (λl=>(l.length≤2147483647∧∀v∈l,r7 v)∧mn l=true):=arq.chk _ _ (by omega)
def aeV{n:Nat}(hn:2000≤n){p:aU}(h:r7 p):u5 n p:=⟨by have:=h.1;omega,by have:=tp h.2;omega⟩
def VF{n:Nat}(hn:2000≤n){l:List aU}(h:∀p∈l,r7 p)(i:Nat):u5 n (l.getD i default):=r6 (P:=u5 n) (λx hx=>aeV hn (h x hx)) ⟨by show 0<n;omega,by show 0<n;omega⟩ i
section
variable {n:Nat} (hn:2000≤n) (aV:n≤9223372036854775808) {s:av3} (hs:s.length<min n 1000000000)
include hn aV hs
theorem ars{t:av3}(aF:t <:+ s):IQ n s (bu s t)=some (res [] s (BE t)):=by
 unfold IQ BE mR jz;rw [show(2147483647:Int)=((2147483647:Nat):Int)from rfl,u3 aF (by omega) (by omega) (by omega),an]
 cases h:jb 2147483647 t with
 |error e=>rw [rV h,fK];simp only [gL (oM h),avO,fK]
 |ok r=>
  obtain⟨u,bY⟩:=r;obtain⟨Z,ab,aj⟩:=pD h;have eO:bY <:+ s:=List.IsSuffix.trans ⟨fc u,Z.symm⟩ aF;have hu:=eO.length_le;rw [rU h,hr];simp only [avM,avQ,avP];rw [show wJ n s ((u:Int),bu s bY,0) n (bu s bY) 0 []=_ from aeB (L:=λm i t acc=>wJ n s ((u:Int),bu s bY,0) m (bu s t) (i:Int) acc) (D:=BD) (u:=u) (s:=s) (fin:=λacc t=>IN n (bu s t) acc) (bad:=λe=>some ([],0,e)) (λx v t hx=>VE.lY hx) ?_ ?_ (by omega) eO]
  ·cases ai:hC BD u bY with
   |error e=>rfl
   |ok r=>
    obtain⟨l,nl⟩:=r;obtain⟨g1,g2,g3⟩:=(VE.rep u).gA _ _ _ ai;simp only [IN];rw [aeD hn aV (by omega) (VF (by omega) g3),an]
    cases mn l<;>rfl
  ·intro m i t acc hi ha aF;simp only [wJ,IP,avV,hi,avM,avO];rw [show(24:Int)=((24:Nat):Int)from rfl,FW aF (by omega) (by omega) (by omega),an]
   unfold BD fY dU;cases aD:gb 24 t with
   |error e=>rw [fK];simp only [gL (n2.dd _ _ aD),avO]
   |ok r=>
    obtain⟨k,t1⟩:=r;rw [hr];simp only [avM,avQ,avP];rw [Vv (jc n2 aD aF) (by omega) (by omega),an]
    cases aX:mU t1 with
    |error e=>rw [fK];simp only [gL (tm.dd _ _ aX),avO]
    |ok r=>
     obtain⟨v,t2⟩:=r;rw [hr];simp only [avM,avQ,avP,avX];rw [lZ (by omega),aT,cR (by omega)]
  ·intro m t acc ha aF;simp only [wJ,IP,avZ,avN,avP]
end
def u9{α β R:Type}{D:eC α}{s:av3}{u:Nat}{f:Nat→α→β}{L:Nat→Nat→av3→List β→Option R}{fin:List β→av3→Option R}{bad:Int→Option R→Prop}
 (lY:∀x v t,D x = .ok (v,t)→t <:+ x)
 (step:∀m i t acc,u<i+1+m→i<u→acc.length=i→t <:+ s→match D t with|.ok (v,bY)=>L (m+1) i t acc=L m (i+1) bY (acc++[f i v])|.error e=>bad e (L (m+1) i t acc))
 (stop:∀m t acc,acc.length=u→t <:+ s→L (m+1) u t acc=fin acc t):
 ∀k m i t acc,i+k=u→k<m→acc.length=i→t <:+ s→match hC D k t with|.ok (l,bY)=>L m i t acc=fin (acc++(l.zipIdx i).map λp=>f p.2 p.1) bY|.error e=>bad e (L m i t acc):=by
 intro k;induction k with
 |zero=>
  intro m i t acc hi hm ha aF;obtain⟨m,rfl⟩:∃j,m=j+1:=⟨m-1,by omega⟩
  obtain rfl:i=u:=by omega
  rw [stop m t acc ha aF];simp [hC]
 |succ k aJ=>
  intro m i t acc hi hm ha aF;obtain⟨m,rfl⟩:∃j,m=j+1:=⟨m-1,by omega⟩
  have dE:=step m i t acc (by omega) (by omega) ha aF
  unfold hC;cases h:D t with
  |error e=>rw [h]at dE;exact dE
  |ok r=>
   obtain⟨v,bY⟩:=r;rw [h]at dE;simp only at dE ⊢
   have:=aJ m (i+1) bY (acc++[f i v]) (by omega) (by omega) (by simp [ha]) ((lY _ _ _ h).trans aF)
   cases ab:hC D k bY with
   |error e=>rw [ab]at this;simp only at this ⊢;rw [dE];exact this
   |ok r=>
    obtain⟨l,nl⟩:=r;rw [ab]at this;simp only at this ⊢
    rw [dE,this];simp
def u'{α:Type}(l:List α)(i:Nat):((l.zipIdx i).map λp=>p.1)=l:=List.zipIdx_map_fst i l
def l2{α:Type}(e:Int)(x:Option (α×Int×Int)):Prop:=∃v a,x=some (v,a,e)
def BF:eC Part:=fY (λp=>⟨p.1,p.2.1,p.2.2.1,p.2.2.2.1,p.2.2.2.2⟩) (dU iP λ_=>dU (gb 24) λ_=>dU iP λ_=>dU iP λ_=>gb 24)
def r8(x:Part):av3:=mQ x.Id++(gk x.dR++(mQ x.Node++(mQ x.fH++gk x.dI)))
def qK(x:Part):Prop:=e0 x.Id∧x.dR.length≤24∧e0 x.Node∧e0 x.fH∧x.dI.length≤24
def VG:er BF r8 qK:=
 (kZ.dep λ_ _=>n2.dep λ_ _=>kZ.dep λ_ _=>kZ.dep λ_ _=>n2).map _ (λx=>(x.Id,x.dR,x.Node,x.fH,x.dI)) qK r8
  (λb h=>⟨rfl,⟨h.1,h.2.1,h.2.2.1,h.2.2.2.1,h.2.2.2.2⟩,rfl⟩) (λa h=>⟨rfl,⟨h.1,h.2.1,h.2.2.1,h.2.2.2.1,h.2.2.2.2⟩⟩)
def u_:eC b8:=mR nn 5 (fY (λp=>⟨p.1,p.2⟩) (dU iP λ_=>jz 16 BF))
def oO(p:b8):av3:=mQ p.Version++ef r8 p.aE
def art:er (jz 16 BF) (ef r8) (λl=>l.length≤16∧∀v∈l,qK v):=VG.u2 _ (by omega) (λv _=>by unfold r8 mQ;simp [qE])
def Mv:er u_ oO (λp=>(e0 p.Version∧p.aE.length≤16∧∀v∈p.aE,qK v)∧nn p=true):=
 ((kZ.dep λ_ _=>art).map (λp=>(⟨p.1,p.2⟩:b8)) (λp:b8=>(p.Version,p.aE)) (λp=>e0 p.Version∧p.aE.length≤16∧∀v∈p.aE,qK v) oO (λb h=>⟨rfl,⟨h.1,h.2⟩,rfl⟩) (λa h=>⟨rfl,⟨h.1,h.2⟩⟩)).chk _ _ (by omega)
def aru{n:Nat}(hn:2000≤n){p:Part}(h:qK p):r5 n p:=⟨by have:=h.2.1;omega,by have:=h.2.2.2.2;omega⟩
def aeW{n:Nat}(hn:2000≤n){l:List Part}(h:∀p∈l,qK p)(i:Nat):r5 n (l.getD i default):=r6 (P:=r5 n) (λx hx=>aru hn (h x hx)) ⟨by show 0<n;omega,by show 0<n;omega⟩ i
section
variable {n:Nat} (hn:2000≤n) (aV:n≤9223372036854775808) {s:av3} (hs:s.length<min n 1000000000)
theorem FZ{a e:Int}(he:e≠0):sN n ⟨s,a,e⟩=some (0,a,e):=by
 unfold sN;simp only [gL he,avO]
theorem F0{a e:Int}(he:e≠0):wL n ⟨s,a,e⟩=some ([],a,e):=by
 unfold wL;simp only [gL he,avO]
include hn aV hs
theorem Mw{t:av3}(aF:t <:+ s):sN n ⟨s,bu s t,0⟩=some (res 0 s (iP t)):=by
 unfold sN;simp only [avM,avQ,avP];rw [Vu aF (by omega) (by omega),an]
theorem aeX{t:av3}(aF:t <:+ s):wL n ⟨s,bu s t,0⟩=some (res [] s (gb 24 t)):=by
 unfold wL;simp only [avM,avQ,avP];rw [show(24:Int)=((24:Nat):Int)from rfl,FW aF (by omega) (by omega) (by omega),an]
theorem BG{u:Nat}(hu:u<min n 1000000000){r1:Int×Int×Int}{b:Int}{c:Int}:∀(k m i:Nat) (a e:Int) (acc:List Part),e≠0→i+k=u→k<m→acc.length=i→sO n ((u:Int),b,c) s r1 m a e acc (i:Int)=some (⟨0,[]⟩,0,e):=by
 intro k;induction k with
 |zero=>
  intro m i a e acc he hi hm ha;obtain⟨m,rfl⟩:∃j,m=j+1:=⟨m-1,by omega⟩
  obtain rfl:i=u:=by omega
  simp only [sO,zw,avZ,avN,avP,DI,IV,he,an,avR,avO]
 |succ k aJ=>
  intro m i a e acc he hi hm ha;obtain⟨m,rfl⟩:∃j,m=j+1:=⟨m-1,by omega⟩
  simp only [sO,zw,avV,show i<u by omega,avM,avO,FZ he,F0 he,an,avX]
  rw [lZ (by omega),aT,cR (by omega)]
  exact aJ m (i+1) a e _ he (by omega) (by omega) (by simp [ha])
theorem arv{t:av3}(aF:t <:+ s):IW n s (bu s t)=some (res ⟨0,[]⟩ s (u_ t)):=by
 unfold IW u_ mR fY dU jz;rw [Mw hn aV hs aF,an];cases h0:iP t with
 |error e=>rw [fK];simp only [gL (kZ.dd _ _ h0),avO,fK]
 |ok r=>
  obtain⟨v,t0⟩:=r;have aeY:=jc kZ h0 aF;rw [hr];simp only [avM,avQ,avP];rw [show(16:Int)=((16:Nat):Int)from rfl,u3 aeY (by omega) (by omega) (by omega),an]
  cases h:jb 16 t0 with
  |error e=>
   rw [rV h,fK];exact BG hn aV hs (u:=0) (by omega) 0 n 0 0 e [] (oM h) rfl (by omega) rfl
  |ok r=>
   obtain⟨u,bY⟩:=r;obtain⟨Z,ab,aj⟩:=pD h;have eO:bY <:+ s:=List.IsSuffix.trans ⟨fc u,Z.symm⟩ aeY;have hu:=eO.length_le;rw [rU h,hr]
   have dc:=u9 (L:=λm i t acc=>sO n ((u:Int),bu s bY,0) s (v,bu s t0,0) m (bu s t) 0 acc (i:Int)) (f:=λ_ v=>v) (D:=BF) (u:=u) (s:=s) (fin:=λacc t=>DI n s (v,bu s t0,0) (bu s t) 0 acc) (bad:=λe x=>x=some (⟨0,[]⟩,0,e)) (λx v t hx=>VG.lY hx) (by
    intro m i t acc hm hi ha aF;simp only [sO,zw,avV,hi,avM,avO];rw [Mw hn aV hs aF,an];unfold BF fY dU;have gr:room (acc.length+1) 56=true:=lZ (by omega)
    cases g1:iP t with
    |error e=>
     have he:=kZ.dd _ _ g1;rw [fK];simp only [FZ he,F0 he,an,avX,gr,aT];rw [cR (by omega)]
     exact BG hn aV hs (by omega) (u-(i+1)) m (i+1) _ e _ he (by omega) (by omega) (by simp [ha])
    |ok r=>
     obtain⟨ev,t1⟩:=r;have kB:=jc kZ g1 aF;rw [hr];simp only
     rw [aeX hn aV hs kB,an];cases g2:gb 24 t1 with
     |error e=>
      have he:=n2.dd _ _ g2;rw [fK];simp only [FZ he,F0 he,an,avX,gr,aT];rw [cR (by omega)]
      exact BG hn aV hs (by omega) (u-(i+1)) m (i+1) _ e _ he (by omega) (by omega) (by simp [ha])
     |ok r=>
      obtain⟨fh,t2⟩:=r;have jT:=jc n2 g2 kB;rw [hr];simp only
      rw [Mw hn aV hs jT,an];cases g3:iP t2 with
      |error e=>
       have he:=kZ.dd _ _ g3;rw [fK];simp only [FZ he,F0 he,an,avX,gr,aT];rw [cR (by omega)]
       exact BG hn aV hs (by omega) (u-(i+1)) m (i+1) _ e _ he (by omega) (by omega) (by simp [ha])
      |ok r=>
       obtain⟨kb,t3⟩:=r;have F1:=jc kZ g3 jT;rw [hr];simp only
       rw [Mw hn aV hs F1,an];cases g4:iP t3 with
       |error e=>
        have he:=kZ.dd _ _ g4;rw [fK];simp only [FZ he,F0 he,an,avX,gr,aT];rw [cR (by omega)]
        exact BG hn aV hs (by omega) (u-(i+1)) m (i+1) _ e _ he (by omega) (by omega) (by simp [ha])
       |ok r=>
        obtain⟨fI,t4⟩:=r;have Mx:=jc kZ g4 F1;rw [hr];simp only
        rw [aeX hn aV hs Mx,an];cases g5:gb 24 t4 with
        |error e=>
         have he:=n2.dd _ _ g5;rw [fK];simp only [avX,gr,aT];rw [cR (by omega)]
         exact BG hn aV hs (by omega) (u-(i+1)) m (i+1) _ e _ he (by omega) (by omega) (by simp [ha])
        |ok r=>
         obtain⟨lL,t5⟩:=r;rw [hr];simp only [avX,gr,aT];rw [cR (by omega)]) (by
    intro m t acc ha aF;simp only [sO,zw,avZ,avN,avP]) u n 0 bY [] (by omega) (by omega) rfl eO
   cases ai:hC BF u bY with
   |error e=>rw [ai]at dc;simp only [ai]at dc ⊢;exact dc
   |ok r=>
    obtain⟨l,nl⟩:=r;rw [ai]at dc;simp only [List.nil_append,u',ai]at dc ⊢;refine dc.trans ?_;obtain⟨g1,g2,g3⟩:=(VG.rep u).gA _ _ _ ai;simp only [DI,avM,avO];rw [aeK hn aV (p:=⟨v,l⟩) (by show l.length<n;omega) (aeW (by omega) g3),an]
    cases nn ⟨v,l⟩<;>rfl
end
def xR:eC Outcome:=fY (λp=>⟨p.1,p.2.1,p.2.2⟩) (dU (n1 0 9999) λ_=>dU (n1 0 9999) λ_=>jz 16 mU)
def r9(o:Outcome):av3:=jy o.Status++(jy o.Code++ef bV o.Out)
def pH(o:Outcome):Prop:=(0≤o.Status∧o.Status≤9999)∧(0≤o.Code∧o.Code≤9999)∧o.Out.length≤16∧∀v∈o.Out,qF v
def n99:er (n1 0 9999) jy (λz=>0≤z∧z≤9999):=Vs (by omega) (by omega)
def n32:er (n1 1 32) jy (λz=>1≤z∧z≤32):=Vs (by omega) (by omega)
def n40:er (n1 1 1099511627776) jy (λz=>1≤z∧z≤1099511627776):=Vs (by omega) (by omega)
def aeZ(k:Nat)(hk:k<18446744073709551616):er (jz k mU) (ef bV) (λl=>l.length≤k∧∀v∈l,qF v):=tm.u2 _ hk (λv _=>aqH v)
def VH:er xR r9 pH:=
 (n99.dep λ_ _=>n99.dep λ_ _=>aeZ 16 (by omega)).map (λp=>(⟨p.1,p.2.1,p.2.2⟩:Outcome)) (λo:Outcome=>(o.Status,o.Code,o.Out)) pH r9
  (λb h=>⟨rfl,⟨h.1,h.2.1,h.2.2⟩,rfl⟩) (λa h=>⟨rfl,⟨h.1,h.2.1,h.2.2⟩⟩)
def va(c eU k:Int)(l:List Outcome):List e_:=(l.zipIdx 0).map λp=>⟨c,av5 (eU-av5 (k-(p.2:Int))),p.1⟩
def My(c eU k:Int)(l:List Outcome):(va c eU k l).map (·.Outcome)=l:=by
 unfold va;rw [List.map_map];exact u' l 0
def F2{eU:Int}(h:1≤eU∧eU≤1099511627776):0≤kA eU∧kA eU≤8∧kA eU≤eU-1:=by
 unfold kA;rw [wr (x:=eU-1) (by omega) (by omega)]
 by_cases dr:eU-1<8
 ·rw [decide_eq_true dr,avO];omega
 ·rw [decide_eq_false dr,avP];omega
def vb:eC b0:=fY (λp=>⟨p.1,p.2.1,va p.1 p.2.1 (kA p.2.1) p.2.2⟩) (dU (n1 1 32) λ_=>dU (n1 1 1099511627776) λeU=>hC xR (kA eU).toNat)
def lq(s:b0):av3:=jy s.Client++(jy s.Next++iO r9 (s.b'.map (·.Outcome)))
def qL(s:b0):Prop:=(1≤s.Client∧s.Client≤32)∧(1≤s.Next∧s.Next≤1099511627776)∧s.b'=va s.Client s.Next (kA s.Next) (s.b'.map (·.Outcome))∧(s.b'.map (·.Outcome)).length=(kA s.Next).toNat∧∀o∈s.b'.map (·.Outcome),pH o
def Mz:er vb lq qL:=
 (n32.dep λ_ _=>n40.dep λeU _=>VH.rep (kA eU).toNat).map (λp=>(⟨p.1,p.2.1,va p.1 p.2.1 (kA p.2.1) p.2.2⟩:b0)) (λs:b0=>(s.Client,s.Next,s.b'.map (·.Outcome))) qL lq
  (λb h=>⟨by simp only;rw [←h.2.2.1],⟨h.1,h.2.1,h.2.2.2.1,h.2.2.2.2⟩,rfl⟩) (λa h=>⟨by simp only [My],⟨h.1,h.2.1,by simp only [My],by simp only [My];exact h.2.2.1,by simp only [My];exact h.2.2.2⟩⟩)
def vc:eC (List b0):=mR n3 5 (jz 32 vb)
def arw:er (jz 32 vb) (ef lq) (λl=>l.length≤32∧∀v∈l,qL v):=Mz.u2 _ (by omega) (λv _=>by unfold lq jy;simp [qE])
def MA:er vc (ef lq) (λl=>(l.length≤32∧∀v∈l,qL v)∧n3 l=true):=arw.chk _ _ (by omega)
def ae0{n:Nat}(hn:2000≤n){o:Outcome}(h:pH o):xO n o:=
 ⟨by have:=h.2.2.1;omega,λi=>r6 (P:=λv:bH=>v.S.length<n) (λx hx=>by have:=tp (h.2.2.2 x hx);omega) (by show 0<n;omega) i⟩
def arx{n:Nat}(hn:2000≤n){s:b0}(h:qL s):qJ n s:=by
 have hk:=F2 h.2.1;have aa:s.b'.length=(kA s.Next).toNat:=by have:=h.2.2.2.1;simpa using this
 refine⟨by omega,λi=>r6 (P:=λr:e_=>xO n r.Outcome) (λx hx=>ae0 hn (h.2.2.2.2 _ (List.mem_map_of_mem hx))) ?_ i⟩
 refine ae0 hn ?_;refine⟨by show(0:Int)≤0∧(0:Int)≤9999;omega,by show(0:Int)≤0∧(0:Int)≤9999;omega,by show([]:List bH).length≤16;simp,λv av=>by cases av⟩
def MB{n:Nat}(hn:2000≤n){l:List b0}(h:∀s∈l,qL s)(i:Nat):qJ n (l.getD i default):=by
 refine r6 (P:=qJ n) (λx hx=>arx hn (h x hx)) ⟨by show([]:List e_).length<n;simp;omega,λi=>⟨?_,λi=>?_⟩⟩ i
 ·show((([]:List e_).getD i default).Outcome).Out.length<n
  show([]:List bH).length<n
  simp;omega
 ·show((((([]:List e_).getD _ default).Outcome).Out).getD i default).S.length<n
  show 0<n
  omega
section
variable {n:Nat} (hn:2000≤n) (aV:n≤9223372036854775808) {s:av3} (hs:s.length<min n 1000000000)
theorem ae1{lo hi a e:Int}(he:e≠0):sS n lo hi ⟨s,a,e⟩=some (0,a,e):=by
 unfold sS;simp only [gL he,avO]
include hn aV hs
theorem MC{lo hi:Int}(h0:0≤lo)(Z:hi≤9223372036854775807){t:av3}(aF:t <:+ s):sS n lo hi ⟨s,bu s t,0⟩=some (match n1 lo hi t with|.ok (v,bY)=>(v,bu s bY,0)|.error e=>(0,bu s t,e)):=by
 unfold sS n1 mR;simp only [avM,avQ,avP];rw [By aF (by omega) (by omega),an]
 cases h:im t with
 |error e=>
  have he:¬ e=0:=mT.dd _ _ h;rw [fK];simp only [he,avN,avP,zE,avR,avO]
 |ok r=>
  obtain⟨u,bY⟩:=r;have hu:=(mT.gA _ _ _ h).2;unfold hK at hu;rw [hr];simp only [avM,avO];by_cases hb:lo≤u∧u≤hi
  ·simp only [show¬ u<lo by omega,show¬ hi<u by omega,hb.1,hb.2,avM,avN,avP,Bool.and_self,av1,zE,avQ,wr (x:=u) (by omega) (by omega)]
  ·have:(bif (decide (u<lo))then true else(decide (hi<u)))=true:=by
    rw [dH,←Bool.decide_or];exact decide_eq_true (by omega)
   have ab:(decide (lo≤u)&&decide (u≤hi))=false:=by
    rw [←Bool.decide_and];exact decide_eq_false hb
   simp only [this,avO,ab,Bool.false_eq_true,av2,zE,show¬ (5:Int)=0 by omega,avN,avR]
theorem ary{t:av3}(aF:t <:+ s):match xR t with|.ok (o,bY)=>DK n ⟨s,bu s t,0⟩=some (o,bu s bY,0)|.error e=>l2 e (DK n ⟨s,bu s t,0⟩):=by
 unfold DK xR fY dU;rw [MC hn aV hs (by omega) (by omega) aF,an]
 cases g1:n1 0 9999 t with
 |error e=>
  have he:=n99.dd _ _ g1;simp only [ae1 he,an];rw [show(!decide (e=0))=true from gL he]
  exact⟨_,_,rfl⟩
 |ok r=>
  obtain⟨ev,t1⟩:=r;have kB:=jc n99 g1 aF;simp only
  rw [MC hn aV hs (by omega) (by omega) kB,an]
  cases g2:n1 0 9999 t1 with
  |error e=>
   have he:=n99.dd _ _ g2;simp only
   rw [show(!decide (e=0))=true from gL he]
   exact⟨_,_,rfl⟩
  |ok r=>
   obtain⟨fh,t2⟩:=r;have jT:=jc n99 g2 kB;simp only [avM,avQ,avP];rw [show(16:Int)=((16:Nat):Int)from rfl,u3 jT (by omega) (by omega) (by omega),an]
   unfold jz;obtain⟨r',rfl⟩:∃k,n=k+1:=⟨n-1,by omega⟩
   cases h:jb 16 t2 with
   |error e=>
    have he:=oM h;rw [rV h,fK];simp only [uo,zF,avZ,avN,avP,DJ];exact⟨_,_,rfl⟩
   |ok r=>
    obtain⟨u,bY⟩:=r;obtain⟨Z,ab,aj⟩:=pD h;have eO:bY <:+ s:=List.IsSuffix.trans ⟨fc u,Z.symm⟩ jT;have hu:=eO.length_le;rw [rU h,hr];generalize bu s t=A
    have dc:=u9 (L:=λm i t acc=>uo (r'+1) ((u:Int),bu s bY,0) ⟨s,A,0⟩ (ev,bu s t1,0) (fh,bu s t2,0) m (bu s t) 0 acc (i:Int)) (f:=λ_ v=>v) (D:=mU) (u:=u) (s:=s) (fin:=λacc t=>some (⟨ev,fh,acc⟩,bu s t,0)) (bad:=λe x=>l2 e x) (λx v t hx=>tm.lY hx) (by
     intro m i t acc hm hi ha aF;simp only [uo,zF,avV,hi,avM,avO];rw [Vv aF (by omega) (by omega),an]
     have gr:room (acc.length+1) 32=true:=lZ (by omega)
     cases g3:mU t with
     |error e=>
      have he:¬ e=0:=tm.dd _ _ g3;rw [fK];simp only [avX,gr,aT];obtain⟨m,rfl⟩:∃j,m=j+1:=⟨m-1,by omega⟩
      simp only [uo,zF,he,avN,el,Bool.and_false,avP,DJ];exact⟨_,_,rfl⟩
     |ok r=>
      obtain⟨v,t3⟩:=r;rw [hr];simp only [avX,gr,aT];rw [cR (by omega)]) (by
     intro m t acc ha aF;simp only [uo,zF,avZ,avN,avP,DJ]) u (r'+1) 0 bY [] (by omega) (by omega) rfl eO
    cases ai:hC mU u bY with
    |error e=>rw [ai]at dc;simp only [ai]at dc ⊢;exact dc
    |ok r=>
     obtain⟨l,nl⟩:=r;rw [ai]at dc;simp only [List.nil_append,u',ai]at dc ⊢;exact dc
theorem arz{t:av3}(aF:t <:+ s):match vb t with|.ok (o,bY)=>DM n ⟨s,bu s t,0⟩=some (o,bu s bY,0)|.error e=>l2 e (DM n ⟨s,bu s t,0⟩):=by
 unfold DM vb fY dU;rw [MC hn aV hs (by omega) (by omega) aF,an]
 cases g1:n1 1 32 t with
 |error e=>
  have he:=n32.dd _ _ g1;simp only [ae1 he,an];rw [show(!decide (e=0))=true from gL he]
  exact⟨_,_,rfl⟩
 |ok r=>
  obtain⟨ev,t1⟩:=r;have kB:=jc n32 g1 aF;simp only
  rw [MC hn aV hs (by omega) (by omega) kB,an]
  cases g2:n1 1 1099511627776 t1 with
  |error e=>
   have he:=n40.dd _ _ g2;simp only
   rw [show(!decide (e=0))=true from gL he]
   exact⟨_,_,rfl⟩
  |ok r=>
   obtain⟨fh,t2⟩:=r;have jT:=jc n40 g2 kB;have qX:=(n40.gA _ _ _ g2).2;have hk:=F2 qX;simp only [avM,avQ,avP];rw [show Dr n fh=some (kA fh)from rfl,an]
   obtain⟨u,hu⟩:=Int.eq_ofNat_of_zero_le hk.1
   (rw [hu];simp only [avU])
   generalize bu s t=A
   have dc:=u9 (L:=λm i t acc=>wQ n (u:Int) ⟨s,A,0⟩ (ev,bu s t1,0) (fh,bu s t2,0) m (bu s t) 0 acc (i:Int)) (f:=λi v=>(⟨ev,av5 (fh-av5 ((u:Int)-(i:Int))),v⟩:e_)) (D:=xR) (u:=u) (s:=s) (fin:=λacc t=>some (⟨ev,fh,acc⟩,bu s t,0)) (bad:=λe x=>l2 e x) (λx v t hx=>VH.lY hx) (by
    intro m i t acc hm hi ha aF;have aw:=ary hn aV hs aF;simp only [wQ,DL,avV,hi,avM,avO];have gr:room (acc.length+1) 56=true:=lZ (by omega)
    cases g3:xR t with
    |error e=>
     have he:¬ e=0:=VH.dd _ _ g3;rw [g3]at aw;obtain⟨v,a,aw⟩:=aw;rw [aw,an];simp only [avX,gr,aT];obtain⟨m,rfl⟩:∃j,m=j+1:=⟨m-1,by omega⟩
     simp only [wQ,DL,he,avN,el,Bool.and_false,avP,I2];exact⟨_,_,rfl⟩
    |ok r=>
     obtain⟨v,t3⟩:=r;rw [g3]at aw;simp only at aw ⊢
     rw [aw,an];simp only [avX,gr,aT];rw [cR (by omega)]) (by
    intro m t acc ha aF;simp only [wQ,DL,avZ,avN,avP,I2]) u n 0 t2 [] (by omega) (by omega) rfl jT
   cases ai:hC xR u t2 with
   |error e=>rw [ai]at dc;simp only [ai]at dc ⊢;exact dc
   |ok r=>
    obtain⟨l,nl⟩:=r;rw [ai]at dc;simp only [List.nil_append,ai]at dc ⊢;simp only [va,hu];exact dc
theorem arA{t:av3}(aF:t <:+ s):I3 n s (bu s t)=some (res [] s (vc t)):=by
 unfold I3 vc mR jz;rw [show(32:Int)=((32:Nat):Int)from rfl,u3 aF (by omega) (by omega) (by omega),an]
 cases h:jb 32 t with
 |error e=>rw [rV h,fK];simp only [gL (oM h),avO,fK]
 |ok r=>
  obtain⟨u,bY⟩:=r;obtain⟨Z,ab,aj⟩:=pD h;have eO:bY <:+ s:=List.IsSuffix.trans ⟨fc u,Z.symm⟩ aF;have hu:=eO.length_le;rw [rU h,hr];simp only [avM,avQ,avP]
  have dc:=u9 (L:=λm i t acc=>wR n ((u:Int),bu s bY,0) s m (bu s t) 0 acc (i:Int)) (f:=λ_ v=>v) (D:=vb) (u:=u) (s:=s) (fin:=λacc t=>DN n s (bu s t) 0 acc) (bad:=λe x=>x=some ([],0,e)) (λx v t hx=>Mz.lY hx) (by
   intro m i t acc hm hi ha aF;have aw:=arz hn aV hs aF;simp only [wR,DO,avV,hi,avM,avO];have gr:room (acc.length+1) 40=true:=lZ (by omega)
   cases g3:vb t with
   |error e=>
    have he:¬ e=0:=Mz.dd _ _ g3;rw [g3]at aw;obtain⟨v,a,aw⟩:=aw;rw [aw,an];simp only [avX,gr,aT];obtain⟨m,rfl⟩:∃j,m=j+1:=⟨m-1,by omega⟩
    simp only [wR,DO,he,avN,el,Bool.and_false,avP,DN,avR,avO]
   |ok r=>
    obtain⟨v,t3⟩:=r;rw [g3]at aw;simp only at aw ⊢
    rw [aw,an];simp only [avX,gr,aT];rw [cR (by omega)]) (by
   intro m t acc ha aF;simp only [wR,DO,avZ,avN,avP]) u n 0 bY [] (by omega) (by omega) rfl eO
  cases ai:hC vb u bY with
  |error e=>rw [ai]at dc;simp only [ai]at dc ⊢;exact dc
  |ok r=>
   obtain⟨l,nl⟩:=r;rw [ai]at dc;simp only [List.nil_append,u',ai]at dc ⊢;refine dc.trans ?_;obtain⟨g1,g2,g3⟩:=(Mz.rep u).gA _ _ _ ai;simp only [DN,avM,avQ,avP];rw [VB hn aV (by omega) (MB hn g3),an]
   cases n3 l<;>rfl
end
abbrev kc:=List av3
def xS:eC kc:=jz 64 (gb 24)
def ae2(s:av3):gk s≠[]:=by unfold gk;simp [qE]
def xT:er xS (ef gk) (λl=>l.length≤64∧∀v∈l,v.length≤24):=n2.u2 _ (by omega) (λv _=>ae2 v)
def VI(b:Bool):eC (kc×kc):=if b then dU xS λ_=>xS else Vr ([],[])
def r_(b:Bool)(p:kc×kc):av3:=if b then ef gk p.1++ef gk p.2 else[]
def F3(b:Bool)(p:kc×kc):Prop:=if b then(p.1.length≤64∧∀v∈p.1,v.length≤24)∧(p.2.length≤64∧∀v∈p.2,v.length≤24)else p=([],[])
def arB:∀b,er (VI b) (r_ b) (F3 b)
 |true=>xT.dep λ_ _=>xT
 |false=>aet ([],[])
abbrev ae3:=Int×Int×av3×List bH×Bool×(kc×kc)
def VJ:eC ae3:=dU im λ_=>dU im λ_=>dU (gb 16) λ_=>dU (jz 6 mU) λ_=>dU rT λb=>VI b
def n4(p:ae3):Request:=⟨p.1,p.2.1,p.2.2.1,p.2.2.2.1,p.2.2.2.2.1,⟨false,p.2.2.2.2.2.1,p.2.2.2.2.2.2⟩⟩
def n5(r:Request):Prop:=hK r.Client∧hK r.Seq∧r.bg.length≤16∧(r.ax.length≤6∧∀v∈r.ax,qF v)∧F3 r.eS (r.bv.Reads,r.bv.cA)∧r.bv.ek=false
def jL(r:Request):av3:=jy r.Client++(jy r.Seq++(gk r.bg++(ef bV r.ax++(xL r.eS++r_ r.eS (r.bv.Reads,r.bv.cA)))))
def MD:er (gb 16) gk (λs=>s.length≤16):=Bv 16 (by omega)
def arC:er (fY n4 VJ) jL n5:=
 (mT.dep λ_ _=>mT.dep λ_ _=>MD.dep λ_ _=>(aeZ 6 (by omega)).dep λ_ _=>Vq.dep λb _=>arB b).map n4 (λr=>(r.Client,r.Seq,r.bg,r.ax,r.eS,(r.bv.Reads,r.bv.cA))) n5 jL
  (λr h=>⟨by obtain⟨a,b,c,d,e,f,g,i⟩:=r;have:f=false:=h.2.2.2.2.2;subst this;rfl,⟨h.1,h.2.1,h.2.2.1,h.2.2.2.1,trivial,h.2.2.2.2.1⟩,rfl⟩) (λa h=>⟨rfl,⟨h.1,h.2.1,h.2.2.1,h.2.2.2.1,h.2.2.2.2.2,rfl⟩⟩)
def tq(r:Request):Bool:=(decide (r.Client≤32)&&decide (r.Seq≤1099511627776))&&decide (pF r=0)
def xU:eC Request:=mR tq 5 (fY n4 VJ)
def VK:er xU jL (λr=>n5 r∧tq r=true):=arC.chk _ _ (by omega)
def pI:eC (List Request):=jz 64 xU
def ME:er pI (ef jL) (λl=>l.length≤64∧∀v∈l,n5 v∧tq v=true):=VK.u2 _ (by omega) (λv _=>by unfold jL jy;simp [qE])
def xV:eC (List bc):=jz 32 (fY (λp=>⟨p.1,p.2⟩) (dU (gb 24) λ_=>iP))
def n6(h:bc):av3:=gk h.Key++mQ h.Count
def VL:er (fY (λp=>(⟨p.1,p.2⟩:bc)) (dU (gb 24) λ_=>iP)) n6 (λh=>h.Key.length≤24∧e0 h.Count):=
 (n2.dep λ_ _=>kZ).map (λp=>(⟨p.1,p.2⟩:bc)) (λh:bc=>(h.Key,h.Count)) _ n6 (λb h=>⟨rfl,⟨h.1,h.2⟩,rfl⟩) (λa h=>⟨rfl,⟨h.1,h.2⟩⟩)
def arD:er xV (ef n6) (λl=>l.length≤32∧∀h∈l,h.Key.length≤24∧e0 h.Count):=VL.u2 _ (by omega) (λv _=>by unfold n6 gk;simp [qE])
def MF:er (gb 16384) gk (λs=>s.length≤16384):=Bv 16384 (by omega)
def VM:eC kc:=jz 16 (gb 16384)
def arE:er VM (ef gk) (λl=>l.length≤16∧∀s∈l,s.length≤16384):=MF.u2 _ (by omega) (λv _=>ae2 v)
def VN{n:Nat}(hn:2000≤n){r:Request}(h:n5 r):rZ n r:=by
 have aX:=h.2.2.2.2.1
 have hk:(r.bv.Reads.length≤64∧∀v∈r.bv.Reads,v.length≤24)∧(r.bv.cA.length≤64∧∀v∈r.bv.cA,v.length≤24):=by
  unfold F3 at aX;cases hd:r.eS
  ·rw [hd]at aX;simp only [Bool.false_eq_true,av2,Prod.mk.injEq]at aX;rw [aX.1,aX.2];simp
  ·rw [hd]at aX;exact aX
 have hd:∀l:kc,(∀v∈l,v.length≤24)→∀i,(l.getD i default).length<n:=λl aa i=>r6 (P:=λv:av3=>v.length<n) (λx hx=>by have:=aa x hx;omega) (by show 0<n;omega) i
 exact⟨by have:=h.2.2.1;omega,by have:=h.2.2.2.1.1;omega,λi=>r6 (P:=λv:bH=>v.S.length<n) (λx hx=>by have:=tp (h.2.2.2.1.2 x hx);omega) (by show 0<n;omega) i,by have:=hk.1.1;omega,by have:=hk.2.1;omega,by have:=hk.1.1;omega,by have:=hk.2.1;omega,hd _ hk.1.2,hd _ hk.2.2⟩
abbrev F4:Request:=⟨0,0,[],[],false,⟨false,[],[]⟩⟩
section
variable {n:Nat} (hn:2000≤n) (aV:n≤9223372036854775808) {s:av3} (hs:s.length<min n 1000000000)
theorem VO{a e:Int}(he:e≠0):wO n ⟨s,a,e⟩=some (0,a,e):=by unfold wO;simp only [gL he,avO]
theorem MG{k a e:Int}(he:e≠0):wM n k ⟨s,a,e⟩=some (0,a,e):=by unfold wM;simp only [gL he,avO]
theorem arF{a e:Int}(he:e≠0):zy n ⟨s,a,e⟩=some (false,a,e):=by unfold zy;simp only [gL he,avO]
theorem MH{k a e:Int}(he:e≠0):wN n k ⟨s,a,e⟩=some ([],a,e):=by unfold wN;simp only [gL he,avO]
theorem arG{a e:Int}(he:e≠0):zA n ⟨s,a,e⟩=some (⟨0,0,[]⟩,a,e):=by unfold zA;simp only [gL he,avO]
include hn aV hs
theorem ae4{t:av3}(aF:t <:+ s):wO n ⟨s,bu s t,0⟩=some (res 0 s (im t)):=by
 unfold wO qe;simp only [avM,avQ,avP];rw [By aF (by omega) (by omega),an,an]
theorem ae5{k:Nat}(hk:k≤1000){t:av3}(aF:t <:+ s):wM n (k:Int) ⟨s,bu s t,0⟩=some (res 0 s (qG k t)):=by
 unfold wM qe;simp only [avM,avQ,avP];rw [u3 aF (by omega) (by omega) (by omega),an,an]
theorem arH{t:av3}(aF:t <:+ s):zy n ⟨s,bu s t,0⟩=some (res false s (rT t)):=by
 unfold zy qe;simp only [avM,avQ,avP];rw [aqZ aF (by omega),an,an]
theorem ae6{k:Nat}(hk:k≤1000){t:av3}(aF:t <:+ s):wN n (k:Int) ⟨s,bu s t,0⟩=some (res [] s (gb k t)):=by
 unfold wN qe;simp only [avM,avQ,avP];rw [FW aF (by omega) (by omega) (by omega),an,an]
theorem arI{t:av3}(aF:t <:+ s):zA n ⟨s,bu s t,0⟩=some (res ⟨0,0,[]⟩ s (mU t)):=by
 unfold zA qe;simp only [avM,avQ,avP];rw [Vv aF (by omega) (by omega),an,an]
theorem VP{u:Nat}(hu:u<min n 1000000000){b c:Int}{B:h4}(cW:B.s=s):∀(k m i:Nat) (a e:Int) (acc:kc),e≠0→i+k=u→k<m→acc.length=i→l2 e (sP n ((u:Int),b,c) B m a e acc (i:Int)):=by
 intro k;induction k with
 |zero=>
  intro m i a e acc he hi hm ha;obtain⟨m,rfl⟩:∃j,m=j+1:=⟨m-1,by omega⟩
  obtain rfl:i=u:=by omega
  simp only [sP,zz,avZ,avN,avP,IY];exact⟨_,_,rfl⟩
 |succ k aJ=>
  intro m i a e acc he hi hm ha;obtain⟨m,rfl⟩:∃j,m=j+1:=⟨m-1,by omega⟩
  simp only [sP,zz,avV,show i<u by omega,avM,avO,MH he,an,avX]
  rw [lZ (by omega),aT,cR (by omega)]
  exact aJ m (i+1) a e _ he (by omega) (by omega) (by simp [ha])
theorem ae7{t:av3}(aF:t <:+ s):match xS t with|.ok (l,bY)=>un n ⟨s,bu s t,0⟩=some (l,bu s bY,0)|.error e=>l2 e (un n ⟨s,bu s t,0⟩):=by
 unfold un xS jz;rw [show(64:Int)=((64:Nat):Int)from rfl,ae5 hn aV hs (by omega) aF,an]
 generalize bu s t=A
 cases h:jb 64 t with
 |error e=>
  rw [rV h,fK];exact VP hn aV hs (u:=0) (by omega) (B:=⟨s,A,0⟩) rfl 0 n 0 0 e [] (oM h) rfl (by omega) rfl
 |ok r=>
  obtain⟨u,bY⟩:=r;obtain⟨Z,ab,aj⟩:=pD h;have eO:bY <:+ s:=List.IsSuffix.trans ⟨fc u,Z.symm⟩ aF;have hu:=eO.length_le;rw [rU h,hr]
  have dc:=u9 (L:=λm i t acc=>sP n ((u:Int),bu s bY,0) ⟨s,A,0⟩ m (bu s t) 0 acc (i:Int)) (f:=λ_ v=>v) (D:=gb 24) (u:=u) (s:=s) (fin:=λacc t=>some (acc,bu s t,0)) (bad:=λe x=>l2 e x) (λx v t hx=>n2.lY hx) (by
   intro m i t acc hm hi ha aF;simp only [sP,zz,avV,hi,avM,avO];rw [show(24:Int)=((24:Nat):Int)from rfl,ae6 hn aV hs (by omega) aF,an]
   have gr:room (acc.length+1) 16=true:=lZ (by omega)
   cases g3:gb 24 t with
   |error e=>
    have he:=n2.dd _ _ g3;rw [fK];simp only [avX,gr,aT];rw [cR (by omega)]
    exact VP hn aV hs (by omega) (B:=⟨s,A,0⟩) rfl (u-(i+1)) m (i+1) _ e _ he (by omega) (by omega) (by simp [ha])
   |ok r=>
    obtain⟨v,t3⟩:=r;rw [hr];simp only [avX,gr,aT];rw [cR (by omega)]) (by
   intro m t acc ha aF;simp only [sP,zz,avZ,avN,avP,IY]) u n 0 bY [] (by omega) (by omega) rfl eO
  cases ai:hC (gb 24) u bY with
  |error e=>rw [ai]at dc;simp only [ai]at dc ⊢;exact dc
  |ok r=>
   obtain⟨l,nl⟩:=r;rw [ai]at dc;simp only [List.nil_append,u',ai]at dc ⊢;exact dc
theorem arJ{a e:Int}(he:e≠0):l2 e (un n ⟨s,a,e⟩):=by
 unfold un;rw [MG he,an];exact VP hn aV hs (u:=0) (by omega) (B:=⟨s,a,e⟩) rfl 0 n 0 a e [] he rfl (by omega) rfl
theorem arK{r1 r2:Int×Int×Int}{r3:av3×Int×Int}{a e:Int}{l:List bH}(he:e≠0):zB n r1 r2 s r3 a e l=some (F4,0,e):=by
 unfold zB;rw [arF he,an];simp only [avP,sQ,gL he,avO]
theorem F5{u:Nat}(hu:u<min n 1000000000){b c:Int}{r1 r2:Int×Int×Int}{r3:av3×Int×Int}:∀(k m i:Nat) (a e:Int) (acc:List bH),e≠0→i+k=u→k<m→acc.length=i→sR n r1 r2 ((u:Int),b,c) s r3 m a e acc (i:Int)=some (F4,0,e):=by
 intro k;induction k with
 |zero=>
  intro m i a e acc he hi hm ha;obtain⟨m,rfl⟩:∃j,m=j+1:=⟨m-1,by omega⟩
  obtain rfl:i=u:=by omega
  simp only [sR,zC,avZ,avN,avP];exact arK hn aV hs he
 |succ k aJ=>
  intro m i a e acc he hi hm ha;obtain⟨m,rfl⟩:∃j,m=j+1:=⟨m-1,by omega⟩
  simp only [sR,zC,avV,show i<u by omega,avM,avO,arG he,an,avX]
  rw [lZ (by omega),aT,cR (by omega)]
  exact aJ m (i+1) a e _ he (by omega) (by omega) (by simp [ha])
theorem ae8{r1 r2:Int×Int×Int}{r3:av3×Int×Int}{l:List bH}{r24:Bool×Int×Int}{t:av3}{ks ws:kc}(Z:hK r1.1)(ab:hK r2.1)(au:rZ n (n4 (r1.1,r2.1,r3.1,l,r24.1,(ks,ws)))):
 sQ n r1 r2 s r3 l r24 (bu s t) 0 ks ws=some (res F4 s (if tq (n4 (r1.1,r2.1,r3.1,l,r24.1,(ks,ws)))then .ok (n4 (r1.1,r2.1,r3.1,l,r24.1,(ks,ws)),t)else .error 5)):=by
 unfold sQ tq;unfold hK at Z ab;simp only [avM,avQ,avP];by_cases hb:r1.1≤32∧r2.1≤1099511627776
 ·simp only [show¬ 32<r1.1 by omega,show¬ 1099511627776<r2.1 by omega,avN,avP,wr (x:=r1.1) (by omega) (by omega),wr (x:=r2.1) (by omega) (by omega)]
  rw [show pg n ⟨r1.1,r2.1,r3.1,l,r24.1,⟨false,ks,ws⟩⟩=some (pF (n4 (r1.1,r2.1,r3.1,l,r24.1,(ks,ws))))from Vy hn aV au,an]
  rw [show decide ((n4 (r1.1,r2.1,r3.1,l,r24.1,(ks,ws))).Client≤32)=true from decide_eq_true hb.1,show decide ((n4 (r1.1,r2.1,r3.1,l,r24.1,(ks,ws))).Seq≤1099511627776)=true from decide_eq_true hb.2]
  by_cases av:pF (n4 (r1.1,r2.1,r3.1,l,r24.1,(ks,ws)))=0
  ·simp only [av,avM,avQ,avP,Bool.and_self,av1];rfl
  ·simp only [av,avN,avR,avO,Bool.and_false,Bool.false_eq_true,av2];rfl
 ·have aj:(bif (decide (32<r1.1))then true else(decide (1099511627776<r2.1)))=true:=by
   rw [dH,←Bool.decide_or];exact decide_eq_true (by omega)
  have aD:(decide ((n4 (r1.1,r2.1,r3.1,l,r24.1,(ks,ws))).Client≤32)&&decide ((n4 (r1.1,r2.1,r3.1,l,r24.1,(ks,ws))).Seq≤1099511627776))=false:=by
   rw [←Bool.decide_and];exact decide_eq_false hb
  simp only [aj,aD,avO,Bool.false_and,Bool.false_eq_true,av2];rfl
theorem arL{t:av3}(aF:t <:+ s):IZ n s (bu s t)=some (res F4 s (xU t)):=by
 unfold IZ xU mR fY VJ dU;rw [ae4 hn aV hs aF,an];cases g1:im t with
 |error e=>
  have he:=mT.dd _ _ g1;rw [fK];simp only [VO he,MH he,MG he,an];exact F5 hn aV hs (u:=0) (by omega) 0 n 0 _ e [] he rfl (by omega) rfl
 |ok r=>
  obtain⟨ev,t1⟩:=r;have kB:=jc mT g1 aF;have B8:=(mT.gA _ _ _ g1).2;rw [hr];simp only
  rw [ae4 hn aV hs kB,an];cases g2:im t1 with
  |error e=>
   have he:=mT.dd _ _ g2;rw [fK];simp only [VO he,MH he,MG he,an];exact F5 hn aV hs (u:=0) (by omega) 0 n 0 _ e [] he rfl (by omega) rfl
  |ok r=>
   obtain⟨fh,t2⟩:=r;have jT:=jc mT g2 kB;have qX:=(mT.gA _ _ _ g2).2;rw [hr];simp only
   rw [show(16:Int)=((16:Nat):Int)from rfl,ae6 hn aV hs (by omega) jT,an]
   cases g3:gb 16 t2 with
   |error e=>
    have he:=MD.dd _ _ g3;rw [fK];simp only [VO he,MH he,MG he,an];exact F5 hn aV hs (u:=0) (by omega) 0 n 0 _ e [] he rfl (by omega) rfl
   |ok r=>
    obtain⟨kb,t3⟩:=r;have F1:=jc MD g3 jT;have ae9:=(MD.gA _ _ _ g3).2;rw [hr];simp only
    rw [show(6:Int)=((6:Nat):Int)from rfl,ae5 hn aV hs (by omega) F1,an]
    unfold jz;cases h:jb 6 t3 with
    |error e=>
     have he:=oM h;rw [rV h,fK];exact F5 hn aV hs (u:=0) (by omega) 0 n 0 _ e [] he rfl (by omega) rfl
    |ok r=>
     obtain⟨u,bY⟩:=r;obtain⟨Z,ab,aj⟩:=pD h;have eO:bY <:+ s:=List.IsSuffix.trans ⟨fc u,Z.symm⟩ F1;have hu:=eO.length_le;rw [rU h,hr]
     have dc:=u9 (L:=λm i t acc=>sR n (ev,bu s t1,0) (fh,bu s t2,0) ((u:Int),bu s bY,0) s (kb,bu s t3,0) m (bu s t) 0 acc (i:Int)) (f:=λ_ v=>v) (D:=mU) (u:=u) (s:=s) (fin:=λacc t=>zB n (ev,bu s t1,0) (fh,bu s t2,0) s (kb,bu s t3,0) (bu s t) 0 acc) (bad:=λe x=>x=some (F4,0,e)) (λx v t hx=>tm.lY hx) (by
      intro m i t acc hm hi ha aF;simp only [sR,zC,avV,hi,avM,avO];rw [arI hn aV hs aF,an];have gr:room (acc.length+1) 32=true:=lZ (by omega)
      cases g3:mU t with
      |error e=>
       have he:=tm.dd _ _ g3;rw [fK];simp only [avX,gr,aT];rw [cR (by omega)]
       exact F5 hn aV hs (by omega) (u-(i+1)) m (i+1) _ e _ he (by omega) (by omega) (by simp [ha])
      |ok r=>
       obtain⟨v,t3⟩:=r;rw [hr];simp only [avX,gr,aT];rw [cR (by omega)]) (by
      intro m t acc ha aF;simp only [sR,zC,avZ,avN,avP]) u n 0 bY [] (by omega) (by omega) rfl eO
     cases ai:hC mU u bY with
     |error e=>rw [ai]at dc;simp only [ai]at dc ⊢;exact dc
     |ok r=>
      obtain⟨l,t4⟩:=r;obtain⟨aL,bo,ch⟩:=(tm.rep u).gA _ _ _ ai;have Mx:t4 <:+ s:=jc (tm.rep u) ai eO;rw [ai]at dc;simp only [List.nil_append,u',ai]at dc ⊢;refine dc.trans ?_;unfold zB;rw [arH hn aV hs Mx,an];cases g5:rT t4 with
      |error e=>
       have he:=Vq.dd _ _ g5;rw [fK];simp only [avP,sQ,gL he,avO,fK]
      |ok r=>
       obtain⟨b,t5⟩:=r;have ae':=jc Vq g5 Mx;rw [hr];cases b with
       |false=>
        simp only [avP];have au:n5 (n4 (ev,fh,kb,l,false,([],[]))):=⟨B8,qX,ae9,⟨by show l.length≤6;omega,ch⟩,rfl,rfl⟩
        exact ae8 hn aV hs (r1:=(ev,bu s t1,0)) (r2:=(fh,bu s t2,0)) (r3:=(kb,bu s t3,0)) (l:=l) (r24:=(false,bu s t5,0)) (t:=t5) (ks:=[]) (ws:=[]) B8 qX (VN hn au)
       |true=>
        have hk:=ae7 hn aV hs ae';simp only [avO,VI,av1,dU];cases g6:xS t5 with
        |error e=>
         have he:=xT.dd _ _ g6;rw [g6]at hk;obtain⟨v,a,hk⟩:=hk;rw [hk,an];obtain⟨jB,dS,sy⟩:=arJ hn aV hs (a:=a) he;simp only [sy,an,sQ,gL he,avO,fK]
        |ok r=>
         obtain⟨ks,t6⟩:=r;have arM:=jc xT g6 ae';have arN:=(xT.gA _ _ _ g6).2;rw [g6]at hk;simp only at hk ⊢
         rw [hk,an];have hk:=ae7 hn aV hs arM;simp only
         cases g7:xS t6 with
         |error e=>
          have he:=xT.dd _ _ g7;rw [g7]at hk;obtain⟨v,a,hk⟩:=hk;rw [hk,an];simp only [sQ,gL he,avO,fK]
         |ok r=>
          obtain⟨ws,t7⟩:=r;have arO:=(xT.gA _ _ _ g7).2;rw [g7]at hk;simp only at hk ⊢
          rw [hk,an];simp only
          have au:n5 (n4 (ev,fh,kb,l,true,(ks,ws))):=⟨B8,qX,ae9,⟨by show l.length≤6;omega,ch⟩,⟨arN,arO⟩,rfl⟩
          exact ae8 hn aV hs (r1:=(ev,bu s t1,0)) (r2:=(fh,bu s t2,0)) (r3:=(kb,bu s t3,0)) (l:=l) (r24:=(true,bu s t5,0)) (t:=t7) (ks:=ks) (ws:=ws) B8 qX (VN hn au)
theorem arP{t:av3}(aF:t <:+ s):I1 n s (bu s t)=some (res [] s (pI t)):=by
 unfold I1 pI jz;rw [show(64:Int)=((64:Nat):Int)from rfl,u3 aF (by omega) (by omega) (by omega),an]
 cases h:jb 64 t with
 |error e=>rw [rV h,fK];simp only [gL (oM h),avO,fK]
 |ok r=>
  obtain⟨u,bY⟩:=r;obtain⟨Z,ab,aj⟩:=pD h;have eO:bY <:+ s:=List.IsSuffix.trans ⟨fc u,Z.symm⟩ aF;have hu:=eO.length_le;rw [rU h,hr];simp only [avM,avQ,avP];rw [show wP n s ((u:Int),bu s bY,0) n [] 0 (bu s bY)=_ from aeB (L:=λm i t acc=>wP n s ((u:Int),bu s bY,0) m acc (i:Int) (bu s t)) (D:=xU) (u:=u) (s:=s) (fin:=λacc t=>some (acc,bu s t,0)) (bad:=λe=>some ([],0,e)) (λx v t hx=>VK.lY hx) ?_ ?_ (by omega) eO]
  ·cases ai:hC xU u bY with
   |error e=>rfl
   |ok r=>rfl
  ·intro m i t acc hi ha aF;simp only [wP,I0,avV,hi,avM,avO];rw [arL hn aV hs aF,an];cases aD:xU t with
   |error e=>rw [fK];simp only [gL (VK.dd _ _ aD),avO]
   |ok r=>
    obtain⟨x,t1⟩:=r;rw [hr];simp only [avM,avQ,avP,avX];rw [lZ (by omega),aT,cR (by omega)]
  ·intro m t acc ha aF;simp only [wP,I0,avZ,avN,avP,QG]
end
section
variable {n:Nat} (hn:2000≤n) (aV:n≤9223372036854775808) {s:av3} (hs:s.length<min n 1000000000)
include hn aV hs
end
structure ae_(p:bg):Prop where
 v:mI p=0
 i:rK p
 w:aoh p≤250000
def hf(p:bg):av3:=if mI p=0 then kY p else[]
structure n7(p:bg):Prop where
 i:rK p
 n:p.Name.length≤300000
 f:h8 p.Params≤300000
 b:dC p.Body≤300000
def ae_.fZ{p:bg}(h:ae_ p):n7 p:=by
 have hw:p.Name.length+h8 p.Params+dC p.Body≤250000:=h.w;exact⟨h.i,by omega,by omega,by omega⟩
def VQ{n:Nat}{p:bg}(h:n7 p)(hn:100000000≤n):uj n p=some (hf p):=by
 have Z:=h.n;have ab:=h.f;have aj:=h.b;unfold hf;by_cases av:mI p=0
 ·rw [if_pos av];exact ap6 p h.i av (by omega) h.f h.b
 ·rw [if_neg av];unfold uj;rw [UJ p (by omega) (by omega) (by omega) (by omega) (by omega)]
  simp only [an,av,avN,avR,avO]
def arQ{n:Nat}{p:bg}(h:n7 p)(hn:100000000≤n):AK n p=some (hf p):=by
 have Z:=h.n;have ab:=h.f;have aj:=h.b;unfold hf;by_cases av:mI p=0
 ·rw [if_pos av];exact aqz p h.i av (by omega) h.f h.b
 ·rw [if_neg av];unfold AK;rw [ada p (by omega) (by omega) (by omega) (by omega) (by omega) (by omega) (by omega)]
  simp only [an,av,avN,avR,avO]
def arR{p:bg}(h:n7 p):(hf p).length≤1300000:=by
 unfold hf;by_cases av:mI p=0
 ·rw [if_pos av];have:=ad4 (Mc h.i av)
  have aj:=h.b;omega
 ·rw [if_neg av];simp
def BH(x:aq):(⟨x.bx,x.br,x.Rows⟩:aq)=x:=rfl
def F6(x:b8):(⟨x.Version,x.aE⟩:b8)=x:=rfl
def VR(x:Request):(⟨x.Client,x.Seq,x.bg,x.ax,x.eS,(⟨x.bv.ek,x.bv.Reads,x.bv.cA⟩:fz)⟩:Request)=x:=rfl
def MI(x:bC):(⟨x.Pos,(⟨x.aq.bx,x.aq.br,x.aq.Rows⟩:aq),x.bP,x.bU,(⟨x.Place.Version,x.Place.aE⟩:b8),x.bc,x.Queue,x.cg⟩:bC)=x:=rfl
def tr(l:List bg):Bool:=(allI l.length λi=>!(decide (hf (l.getD i default)=[])||decide (16384<(((hf (l.getD i default)).length:Nat):Int)))&&(!decide (0<(i:Int))||Op.bytesLess (l.getD (pv i) default).Name (l.getD i default).Name))&&decide (l.length≤16)
def BI(l:List Request):Bool:=(allI l.length λi=>decide (pF (l.getD i default)=0))&&decide (l.length≤64)
def je(r:bC):Bool:=((((((((decide (0≤r.Pos)&&decide (r.Pos≤1099511627776))&&l1 r.aq)&&decide (r.aq.br=r.Pos))&&tr r.bP)&&n3 r.bU)&&nn r.Place)&&rX r.bc)&&BI r.Queue)
structure qM(n:Nat)(r:bC):Prop where
 st:BB n r.aq
 xW:r.bP.length<n
 lr:∀i,n7 (r.bP.getD i default)
 vd:r.bU.length<n
 oP:∀i,qJ n (r.bU.getD i default)
 pl:r.Place.aE.length<n
 xX:∀i,r5 n (r.Place.aE.getD i default)
 aF:r.bc.length<n
 kl:∀i,(r.bc.getD i default).Key.length<n
 n8:r.Queue.length<n
 ve:∀i,rZ n (r.Queue.getD i default)
def afa:n7 default:=by
 refine⟨⟨by show([]:av3).length≤_;simp,by show([]:List Param).length≤_;simp,λi hi=>by exact absurd hi (by show¬ i<([]:List Param).length;simp),trivial⟩,by show([]:av3).length≤_;simp,by show h8 []≤_;simp [h8],by show dC []≤_;simp [dC]⟩
section
variable {n:Nat} (hn:100000000≤n) (aV:n≤9223372036854775808)
include hn aV
theorem arS{l:List bg}(aa:l.length<n)(h:∀i,n7 (l.getD i default)):JF n l=some (tr l):=by
 unfold JF tr;rw [ip (L:=zY n l) (chk:=λi=>!(decide (hf (l.getD i default)=[])||decide (16384<(((hf (l.getD i default)).length:Nat):Int)))&&(!decide (0<(i:Int))||Op.bytesLess (l.getD (pv i) default).Name (l.getD i default).Name)) (no:=false) (yes:=true) aa,mm]
 ·simp only [fp];by_cases au:l.length≤16
  ·simp only [au,show¬ 16<l.length by omega,avM,avN,avP,Bool.and_true]
  ·simp only [au,show 16<l.length by omega,avM,avN,avO,Bool.and_false]
 ·intro m i hi;simp only [zY,JE,avV,hi,avM,avO,b1 hi,aT,an,avU,cR (show i≤9223372036854775806 by omega),VQ (h i) hn,ml hi (show l.length≤9223372036854775807 by omega)]
  exact iQ (by simp only [dH,el,Bool.not_and,Bool.not_or,Bool.not_not,←u4])
 ·intro m;simp only [zY,JE,Rm,avZ,avN,avP]
theorem arT{l:List bg}(aa:l.length<n)(h:∀i,n7 (l.getD i default)):K4 n l=some (tr l):=by
 unfold K4 tr;rw [ip (L:=AL n l) (chk:=λi=>!(decide (hf (l.getD i default)=[])||decide (16384<(((hf (l.getD i default)).length:Nat):Int)))&&(!decide (0<(i:Int))||Op.bytesLess (l.getD (pv i) default).Name (l.getD i default).Name)) (no:=false) (yes:=decide (l.length≤16)) aa,rW]
 ·intro m i hi;simp only [AL,K3,avV,hi,avM,avO,b1 hi,aT,an,avU,cR (show i≤9223372036854775806 by omega),arQ (h i) hn,Bz hi,ml hi (show l.length≤9223372036854775807 by omega),av0]
  exact iQ (by simp only [dH,el,Bool.not_and,Bool.not_or,Bool.not_not])
 ·intro m;simp only [AL,K3,Tk,avZ,avN,avP,lR]
theorem afb(x y:Int):decide (x<y) = !decide (y≤x):=by
 by_cases h:y≤x
 ·rw [decide_eq_true h,decide_eq_false (by omega)];rfl
 ·rw [decide_eq_false h,decide_eq_true (by omega)];rfl
theorem afc{r:bC}(h:qM n r):zZ n r=some (je r):=by
 have e1:w6 n r n 0=some (if(allI r.Queue.length λi=>decide (pF (r.Queue.getD i default)=0)) then((n3 r.bU&&nn r.Place)&&rX r.bc)else false):=by
  refine ip (L:=w6 n r) h.n8 ?_ ?_
  ·intro m i hi;simp only [w6,JG,avV,hi,avM,avO,b1 hi,aT,avU,cR (show i≤9223372036854775806 by have:=h.n8;omega)]
   rw [Vy (by omega) aV (h.ve i),an]
   exact iQ rfl
  ·intro m;simp only [w6,JG,Rn,avZ,avN,avP];rw [VB (by omega) aV h.vd h.oP,aeK (by omega) aV h.pl h.xX,aq7 (by omega) aV h.aF]
   simp only [an,oN,el];cases n3 r.bU<;>cases nn r.Place<;>rfl
 unfold zZ;rw [e1,aeT (by omega) aV h.st,arS hn aV h.xW h.lr]
 simp only [an,oN,dH,el,fp];unfold je BI;rw [show decide (r.Pos<0) = !decide (0≤r.Pos)from afb hn aV _ _,show decide (1099511627776<r.Pos) = !decide (r.Pos≤1099511627776)from afb hn aV _ _]
 by_cases au:r.Queue.length≤64
 ·simp only [au,show¬ 64<r.Queue.length by omega,avM,avN,Bool.and_true,Bool.or_false,rW]
  cases decide (0≤r.Pos)<;>cases decide (r.Pos≤1099511627776)<;>cases l1 r.aq<;>cases decide (r.aq.br=r.Pos)<;>cases tr r.bP<;>cases n3 r.bU<;>cases nn r.Place<;>cases rX r.bc<;>simp
 ·simp only [au,show 64<r.Queue.length by omega,avM,avN,Bool.and_false,av0,avO]
theorem arU{l:List Request}(aa:l.length<n)(h:∀i,rZ n (l.getD i default)):K9 n l=some (BI l):=by
 unfold K9 BI;rw [ip (L:=AN n l) (chk:=λi=>decide (pF (l.getD i default)=0)) (no:=false) (yes:=decide (l.length≤64)) aa,rW]
 ·intro m i hi;simp only [AN,K8,avV,hi,avM,avO,b1 hi,aT,an,avU,cR (show i≤9223372036854775806 by omega),ara (show 2000≤n by omega) aV (h i)]
  exact iQ rfl
 ·intro m;simp only [AN,K8,Tn,avZ,avN,avP,lR]
theorem arV{r:bC}(h:qM n r):K' n r=some (je r):=by
 unfold K' je;rw [aeU (by omega) aV h.st,arT hn aV h.xW h.lr,ark (by omega) aV h.vd h.oP,are (by omega) aV h.pl h.xX,aq8 (by omega) aV h.aF h.kl,arU hn aV h.n8 h.ve]
 simp only [an,oN,el];cases decide (0≤r.Pos)<;>cases decide (r.Pos≤1099511627776)<;>cases l1 r.aq<;>cases decide (r.aq.br=r.Pos)<;>cases tr r.bP<;>cases n3 r.bU<;>cases nn r.Place<;>cases rX r.bc<;>rfl
omit hn aV in
theorem sa{L:Nat→Int→av7}{len:Nat}{m:Nat}(hm:len<m)(step:∀m i,i<len→L (m+1) (i:Int)=L m ((i+1:Nat):Int))(stop:∀m,L (m+1) (len:Int)=some true):L m 0=some true:=by
 have:=ip (chk:=λ_=>true) (no:=false) (yes:=true) hm (λm i hi=>by rw [step m i hi,if_pos rfl]) stop
 rw [this,mm]
 congr 1
 rw [jd];exact λ_ _=>rfl
theorem arW{s:aq}(h:BB n s):Kf n s s=some true:=by
 have Z:=h.rows;unfold Kf;simp only [avM,avQ,avP];refine sa (L:=uy n s s) Z (λm i hi=>?_) (λm=>?_)
 ·have ab:=(h.row i).Mt;simp only [uy,Ke,avV,hi,avM,avO,b1 hi,aT,avU,avQ,avP]
  have:=aeL (L:=An n (uy n s s m) (i:Int) s s) (len:=(s.Rows.getD i default).bp.length) (chk:=λ_=>true) (no:=false) (yes:=uy n s s m ((i+1:Nat):Int)) (m:=n) ab (λarX k hk=>by
   simp only [An,Kd,avV,avU,hk,avM,avO,b1 hk,aT,Bool.and_self,avQ,avP,av1,cR (show k≤9223372036854775806 by omega)]) (λarX=>by
   simp only [An,Kd,Sh,avU,avZ,avN,avP,cR (show i≤9223372036854775806 by omega)])
  rw [this,if_pos];rw [jd];exact λ_ _=>rfl
 ·simp only [uy,Ke,Sg,avZ,avN,avP]
theorem arY{l:List bg}(aa:l.length<n)(h:∀i,n7 (l.getD i default)):Kc n l l=some true:=by
 unfold Kc;simp only [avM,avQ,avP];refine sa (L:=Am n l l) aa (λm i hi=>?_) (λm=>?_)
 ·have Z:=h i;have ab:=Z.f;have aj:=Z.b;have aD:=A_ (l.getD i default).Params;simp only [Am,Kb,avV,hi,avM,avO,b1 hi,aT,avU,aoH (n:=n) (l.getD i default) (by omega) (by omega) (by omega) (by omega),an,avQ,avP,cR (show i≤9223372036854775806 by omega)]
 ·simp only [Am,Kb,Sf,avZ,avN,avP]
theorem arZ{o:Outcome}(h:xO n o):Ep n o o=some true:=by
 have Z:=h.out;unfold Ep;simp only [avM,avQ,avP];refine sa (L:=Ar n o o) Z (λm i hi=>?_) (λm=>?_)
 ·simp only [Ar,Km,avV,hi,avM,avO,b1 hi,aT,avU,Bool.and_self,avQ,avP,cR (show i≤9223372036854775806 by omega)]
 ·simp only [Ar,Km,Sm,avZ,avN,avP]
theorem ar0{s:b0}(h:qJ n s):Ko n s.b' s.b'=some true:=by
 have Z:=h.rep;unfold Ko;simp only [avM,avQ,avP];refine sa (L:=As n s.b' s.b') Z (λm i hi=>?_) (λm=>?_)
 ·have:=arZ hn aV (h.out i)
  simp only [As,Kn,Sn,avV,hi,avM,avO,b1 hi,aT,avU];rw [show Ep n ⟨(s.b'.getD i default).Outcome.Status,(s.b'.getD i default).Outcome.Code,(s.b'.getD i default).Outcome.Out⟩ ⟨(s.b'.getD i default).Outcome.Status,(s.b'.getD i default).Outcome.Code,(s.b'.getD i default).Outcome.Out⟩=some true from this]
  simp only [an,avO,avQ,avP,cR (show i≤9223372036854775806 by omega)]
 ·simp only [As,Kn,So,avZ,avN,avP]
theorem ar1{l:List b0}(aa:l.length<n)(h:∀i,qJ n (l.getD i default)):Kq n l l=some true:=by
 unfold Kq;simp only [avM,avQ,avP];refine sa (L:=At n l l) aa (λm i hi=>?_) (λm=>?_)
 ·simp only [At,Kp,avV,hi,avM,avO,b1 hi,aT,avU,ar0 hn aV (h i),an,avQ,avR,avP,Bool.false_or,cR (show i≤9223372036854775806 by omega)]
 ·simp only [At,Kp,Sp,avZ,avN,avP]
theorem ar2{p:b8}(aa:p.aE.length<n):Kh n p p=some true:=by
 unfold Kh;simp only [avM,avQ,avP];refine sa (L:=Ao n p p) aa (λm i hi=>?_) (λm=>?_)
 ·simp only [Ao,Kg,avV,hi,avM,avO,b1 hi,aT,avU,Bool.and_self,avQ,avP,cR (show i≤9223372036854775806 by omega)]
 ·simp only [Ao,Kg,Si,avZ,avN,avP]
theorem ar3{l:List bc}(aa:l.length<n):Kj n l l=some true:=by
 unfold Kj;simp only [avM,avQ,avP];refine sa (L:=Ap n l l) aa (λm i hi=>?_) (λm=>?_)
 ·simp only [Ap,Ki,avV,hi,avM,avO,b1 hi,aT,avU,Bool.and_self,avQ,avP,cR (show i≤9223372036854775806 by omega)]
 ·simp only [Ap,Ki,Sj,avZ,avN,avP]
theorem afd{l:kc}(aa:l.length<n):xc n l l=some true:=by
 unfold xc;simp only [avM,avQ,avP];refine sa (L:=Ai n l l) aa (λm i hi=>?_) (λm=>?_)
 ·simp only [Ai,J4,avV,hi,avM,avO,b1 hi,aT,avU,avQ,avP,cR (show i≤9223372036854775806 by omega)]
 ·simp only [Ai,J4,RV,avZ,avN,avP]
theorem ar4{r:Request}(h:rZ n r):Kl n r r=some true:=by
 have Z:=h.args;unfold Kl Sk;rw [afd hn aV h.FX,afd hn aV h.FY];simp only [avM,avQ,avP,beq_self_eq_true,avR,avO,an];refine sa (L:=Aq n r r) Z (λm i hi=>?_) (λm=>?_)
 ·simp only [Aq,Kk,avV,hi,avM,avO,b1 hi,aT,avU,Bool.and_self,avQ,avP,cR (show i≤9223372036854775806 by omega)]
 ·simp only [Aq,Kk,Sl,avZ,avN,avP]
theorem ar5{r:bC}(h:qM n r):Av n r r=some true:=by
 have Z:=h.n8;unfold Av;rw [arW hn aV h.st,arY hn aV h.xW h.lr,ar1 hn aV h.vd h.oP,ar2 hn aV h.pl,ar3 hn aV h.aF];simp only [avM,avQ,avR,avP,avO,an];refine sa (L:=Au n r r) Z (λm i hi=>?_) (λm=>?_)
 ·simp only [Au,Kr,avV,hi,avM,avO,b1 hi,aT,avU,ar4 hn aV (h.ve i),an,avQ,avP,cR (show i≤9223372036854775806 by omega)]
 ·simp only [Au,Kr,Sq,avZ,avN,avP]
end
end Go.Ab.Y

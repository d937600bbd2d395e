/- The plain law: what the functions compute answers as the statement says. -/
import Derived.Test.YtbncfepdlmnmiaaGreatDoorPlainA
set_option linter.all false
namespace Go.Ab.Y
open Go Go.Ab Go.Proofs
def aap(n:Nat)(op:Int):GA n op=some ((ev op:Nat):Int):=QD n op
def alj(n:Nat)(op:Int)(h:4≤op∧op≤8∨10≤op∧op≤17∨op=19):GB n op=some (spell (ro op)):=Z1 n op h
def aaq(n:Nat)(op:Int)(h:20≤op∧op≤27):GC n op=some (spell (iz op)):=by
 obtain rfl|rfl|rfl|rfl|rfl|rfl|rfl|rfl:op=20∨op=21∨op=22∨op=23∨op=24∨op=25∨op=26∨op=27:=by omega
 all_goals rfl
def aar(u:Nat)(h:u<18446744073709551616):hL ([(IntKind.u8.wrap (IntKind.u64.wrap (48+(Int.tmod (u:Int) 10))))]:List Int)=[UInt8.ofNat (48+u % 10)]∧lH ([(IntKind.u8.wrap (IntKind.u64.wrap (48+(Int.tmod (u:Int) 10))))]:List Int)=true:=by
 have:IntKind.u8.wrap (IntKind.u64.wrap (48+(Int.tmod (u:Int) 10)))=((48+u % 10:Nat):Int):=by
  rw [Int.tmod_eq_emod_of_nonneg (by omega),IntKind.wrap_u64,IntKind.wrap_u8];omega
 rw [this,Cq _ (by omega)]
 exact⟨Co _,Cp _⟩
def aas(u:Nat)(h:u<18446744073709551616):IntKind.u64.wrap (Int.tdiv (u:Int) 10)=((u / 10:Nat):Int):=by
 rw [Int.tdiv_eq_ediv_of_nonneg (by omega),IntKind.wrap_u64];omega
def alk(n:Nat)(i:Int)(hi:0≤i):∀(m f u:Nat) (acc:ap0),u<18446744073709551616→u<10 ^ m→acc.length+m≤1000000000→(0<u∨acc≠[])→o9 n i (m+f+1) (u:Int) acc=some ((if u=0 then[]else Lib.decDigits u)++acc):=by
 intro m;induction m with
 |zero=>
  intro f u acc hu Z ag dQ;have h0:u=0:=by simp at Z;omega
  subst h0;have Q2:acc≠[]:=by rcases dQ with h|h;exact absurd h (by omega);exact h
  have:¬ i<0:=by omega
  simp [o9,rf,Bb,Q2,this]
 |succ m bc=>
  intro f u acc hu Z ag dQ;rw [show m+1+f+1=m+f+1+1 by omega,show o9 n i (m+f+1+1)=rf n i (o9 n i (m+f+1))from rfl]
  simp only [rf,Bb];by_cases h0:u=0
  ·subst h0;have Q2:acc≠[]:=by rcases dQ with h|h;exact absurd h (by omega);exact h
   have:¬ i<0:=by omega
   simp [Q2,this]
  ·have hp:(0:Int)<(u:Int):=by omega
   obtain⟨d1,d2⟩:=aar u hu;rw [d1,d2,aas u hu];simp only [hp,apJ,apL,bg,apU,dB (show 1+acc.length≤9223372036854775807 by omega)]
   rw [bc f (u / 10) _ (by omega) (by rw [Nat.pow_succ]at Z;omega) (by simp;omega) (.inr (by simp))]
   rw [if_neg h0]
   conv=>rhs;rw [Lib.decDigits]
   by_cases gS:u<10
   ·rw [dif_pos gS,if_pos (by omega),Nat.mod_eq_of_lt gS];rfl
   ·rw [dif_neg gS,if_neg (by omega)];simp
def aat(n:Nat)(hn:30≤n)(i:Int)(h0:0≤i)(Z:i≤9223372036854775807):uO n i=some (Lib.decDigits i.toNat):=by
 unfold uO O7;obtain⟨u,rfl⟩:=Int.eq_ofNat_of_zero_le h0;have:¬ (u:Int)<0:=by omega
 simp only [this,apK,apM,aD,sL (show u<18446744073709551616 by omega),apR]
 obtain⟨k,rfl⟩:∃k,n=k+30:=⟨n-30,by omega⟩
 by_cases dQ:u=0
 ·subst dQ;rw [show o9 (k+30) ((0:Nat):Int) (k+30)=rf (k+30) ((0:Nat):Int) (o9 (k+30) ((0:Nat):Int) (k+28+1))from rfl]
  obtain⟨d1,d2⟩:=aar 0 (by omega)
  have hs:=dB (n:=([UInt8.ofNat (48+0 % 10)]:ap0).length+([]:ap0).length) (by decide)
  simp only [rf,d1,d2,aas 0 (by omega),hs,bg]
  rw [show o9 (k+30) ((0:Nat):Int) (k+28+1)=rf (k+30) ((0:Nat):Int) (o9 (k+30) ((0:Nat):Int) (k+28))from rfl]
  simp [rf,Bb,Lib.decDigits]
 ·have:=alk (k+30) (u:Int) h0 20 (k+9) u [] (by omega) (by omega) (by simp) (.inl (by omega))
  rw [if_neg dQ,List.append_nil,show 20+(k+9)+1=k+30 by omega]at this;exact this
def alm(n:Nat)(s:ap0)(hs:s.length≤9223372036854775807):∀m i,s.length<i+m→i≤s.length→xG n s m (i:Int)=some ((s.drop i).all okB):=by
 intro m;induction m with
 |zero=>intro i h af;omega
 |succ m bc=>
  intro i hm hi;simp only [xG,Pa,O_];by_cases h:i<s.length
  ·rw [gE s i 0 h,dw (by omega),bc (i+1) (by omega) (by omega)]
   simp only [h,cr h,apR,apS,apJ,apL,bg,apX,List.all_cons,rj,fm,eb,HA];cases okB (s.getD i 0)<;>simp
  ·rw [iZ s i h];simp [h]
def aau{n:Nat}(s:ap0)(h:s.length<n)(hs:s.length≤9223372036854775807):Pb n s=some (s.all okB):=by
 have:=alm n s hs n 0 (by omega) (by omega)
 rw [List.drop_zero]at this;exact this
def take_one(s:ap0)(i:Nat)(h:i<s.length):(s.take (i+1)).drop i=[s.getD i 0]:=by
 rw [List.drop_take,gE s i 0 h];simp
def aln(n:Nat)(s:ap0)(hs:s.length≤64):∀m i,s.length<i+m→i≤s.length→Bd n s m (34::gM (s.take i)) (i:Int)=some (quo s,0):=by
 intro m;induction m with
 |zero=>intro i h af;omega
 |succ m bc=>
  intro i hm hi;simp only [Bd,Pe,Pc,Pd,Gx];have hlen:=vc (s.take i);have qX:(s.take i).length≤i:=by simp;omega
  by_cases h:i<s.length
  ·(rw [gr (by omega)];simp only [apR];rw [take_one s i h])
   have hn:=bc (i+1) (by omega) (by omega)
   have bU:s.take (i+1)=s.take i++[s.getD i 0]:=by
    rw [List.take_add,gE s i 0 h,List.take_succ_cons,List.take_zero]
   rw [bU,Z3]at hn;generalize s.getD i 0=c at hn
   simp only [h,cr h,apS,apJ,apL,bg,apX,i7,eb,ajC (show i≤i+1 by omega) (show i+1≤s.length by omega)]
   by_cases hc:c.toNat=34∨c.toNat=92
   ·have hb:(decide (c.toNat=34)||decide (c.toNat=92))=true:=by rcases hc with hc|hc<;>rw [decide_eq_true hc]<;>simp
    rw [hb];simp only [apL];rw [dB (by simp only [apP,apQ];omega),dB (by simp only [apT,apP,apQ];omega)]
    simp only [bg];rw [show(34::gM (s.take i)++[92]++[c])=34::(gM (s.take i)++gM [c])by simp only [gM];rw [if_pos hc];simp]
    exact hn
   ·have hb:(decide (c.toNat=34)||decide (c.toNat=92))=false:=by rw [decide_eq_false (λe=>hc (Or.inl e)),decide_eq_false (λe=>hc (Or.inr e))];rfl
    rw [hb];simp only [apM];rw [dB (by simp only [apP,apQ];omega)]
    simp only [bg];rw [show(34::gM (s.take i)++[c])=34::(gM (s.take i)++gM [c])by simp only [gM];rw [if_neg hc];simp]
    exact hn
  ·have QE:i=s.length:=by omega
   subst QE;simp only [apS,Nat.lt_irrefl,apK,apM,List.take_length];have ag:=vc s;rw [dB (by simp only [apP,apQ];omega)]
   rfl
def alo{n:Nat}(s:ap0)(h:ki s=true)(hn:100<n):Gy n s=some (quo s,0):=by
 unfold ki at h;simp only [Bool.and_eq_true,decide_eq_true_eq]at h;unfold Gy;simp only [fm,show¬ 64<s.length by omega,apK,apM,aau s (show s.length<n by omega) (by omega),aD,h.1,apN]
 exact aln n s (by omega) n 0 (by omega) (by omega)
def alp(n:Nat):kH (n+1)=GD n (kH n) (uQ n):=rfl
def alq(n:Nat):uQ (n+1)=GE n (kH n) (uQ n):=rfl
def Cr{n:Nat}{e:Expr}{k:Nat}(h:kH n e=some (flat (dk e)))(ag:(flat (dk e)).length≤100000000):uQ (n+1) e (k:Int)=some (flat (ih e.Op (dk e) k)):=by
 rw [alq];unfold GE ih;rw [aap,h];simp only [aD,apS];by_cases hk:ev e.Op<k
 ·simp only [hk,apJ,apL,apY];rw [gA (by simp;omega),gA (by simp;omega)]
  simp only [bg,flat,nA,spell,fW];simp
 ·simp only [hk,apK,apM,apZ]
def alr:∀(h:Nat) (e:Expr) (n:Nat),ii e≤h→h4 e→2*h+200≤n→dr e≤1000000→kH n e=some (flat (dk e)):=by
 intro h;induction h with
 |zero=>intro e n he;rw [Cd]at he;omega
 |succ h bc=>
  intro e n he e0 hn akQ;obtain⟨n,rfl⟩:∃j,n=j+1:=⟨n-1,by omega⟩
  obtain⟨n,rfl⟩:∃j,n=j+1:=⟨n-1,by omega⟩
  have mX:=(HK e).1 e0;have u':=rl e;rw [alp];unfold GD;rw [aap];simp only [aD];rcases QA e e0 with⟨Z,aE⟩|⟨Z,aE⟩|⟨Z,aE⟩|⟨ak,aE⟩|⟨a,aE,ha,bz,gX⟩|⟨a,b,aE,ha,hb,bz,gX⟩
  ·have e2:flat (dk e)=Lib.decDigits e.N.toNat++[]:=by rw [aE];rfl
   rw [aat _ (by omega) e.N (mX.2.1 Z).1 (mX.2.1 Z).2,e2,List.append_nil]
   simp only [Z,apJ,apL,aD]
  ·have e2:flat (dk e)=quo e.S++[]:=by rw [aE];rfl
   rw [alo e.S (mX.2.2.2.2.1 Z) (by omega),e2,List.append_nil]
   simp only [Z,show¬ (2:Int)=1 by omega,apJ,apK,apL,apM,aD]
  ·have e2:flat (dk e)=e.S++[]:=by rw [aE];rfl
   rw [e2,List.append_nil];simp only [Z,show¬ (3:Int)=1 by omega,show¬ (3:Int)=2 by omega,apJ,apK,apL,apM]
  ·have hw:=yg e.Op;have QG:=aaq (n+1) e.Op (by omega)
   have jW:ev e.Op=9:=by
    have:e.Op=25∨e.Op=26∨e.Op=27:=by omega
    rcases this with h|h|h<;>rw [h]<;>decide
   have eZ:e.aw=[]:=by rw [aE]
   have e2:flat (dk e)=spell (iz e.Op)++([40]++([41]++[])):=by
    generalize e.Op=op at ak aE
    rw [aE];simp only [dk,rp,sJ];rw [if_neg (by omega),if_neg (by omega),if_neg (by omega)];rfl
   rw [QG,e2];simp only [aD];rw [gA (show(spell (iz e.Op)).length+([40,41]:ap0).length≤1000000000000 by simp;omega)]
   simp only [jW,eZ,show¬ e.Op=1 by omega,show¬ e.Op=2 by omega,show¬ e.Op=3 by omega,show¬ e.Op=18 by omega,show¬ e.Op=9 by omega,apK,apM,apQ,i7,apJ,apL,bg]
   simp
  ·have Ci:dr e=30+(dr a+1):=by rw [aE];simp [dr,lM]
   have pn:=bc a n (by omega) ha (by omega) (by omega)
   have QH:=bc a (n+1) (by omega) ha (by omega) (by omega)
   have Ch:=pN (ii a) a (Nat.le_refl _) ha;have eZ:e.aw=[a]:=by rw [aE]
   have au:=ol a.Op (dk a) 3;have dR:=ol a.Op (dk a) 8
   have e2:dk e=if e.Op=18 then some (lP [110,111,116])::none::ih a.Op (dk a) 3 else if e.Op=9 then some (fW [45])::ih a.Op (dk a) 8 else some (iz e.Op)::some (fW [40])::(dk a++[some (fW [41])]):=by
    generalize e.Op=op at gX aE
    rw [aE];simp only [dk,rp,sJ];rw [if_neg (by omega),if_neg (by omega),if_neg (by omega)]
   rw [e2,eZ];simp only [apP,apQ,sD (show 0<0+1 by omega),bg,List.getD_cons_zero,show¬ e.Op=1 by omega,show¬ e.Op=2 by omega,show¬ e.Op=3 by omega,apK,apM]
   by_cases vd:e.Op=18
   ·have:=Cr (k:=3) pn (by omega)
    rw [vd];simp only [apJ,apL,apY,show ev 18=3 from rfl]
    rw [this];simp only [aD];rw [gA (by simp;omega)]
    rfl
   ·by_cases gS:e.Op=9
    ·have:=Cr (k:=8) pn (by omega)
     rw [gS];simp only [show¬ (9:Int)=18 by omega,apJ,apK,apL,apM,apY,apZ,show ev 9=8 from rfl]
     rw [this];simp only [aD];rw [gA (by simp;omega)]
     rfl
    ·have akR:20≤e.Op∧e.Op≤24:=by omega
     have jW:ev e.Op=9:=by
      have:e.Op=20∨e.Op=21∨e.Op=22∨e.Op=23∨e.Op=24:=by omega
      rcases this with h|h|h|h|h<;>rw [h]<;>decide
     have hw:=yg e.Op;rw [aaq (n+1) e.Op (by omega),QH,if_neg vd,if_neg gS]
     have e3:flat (some (iz e.Op)::some (fW [40])::(dk a++[some (fW [41])]))=spell (iz e.Op)++([40]++(flat (dk a)++([41]++[]))):=by
      simp only [flat,nA];rfl
     rw [e3];generalize spell (iz e.Op)=W at hw
     simp only [vd,gS,jW,apK,apJ,apM,apL,aD];rw [gA (show W.length+(0+1)≤1000000000000 by omega),gA (show(W++([40]:ap0)).length+(flat (dk a)).length≤1000000000000 by simp;omega),gA (show((W++([40]:ap0))++flat (dk a)).length+(0+1)≤1000000000000 by simp;omega)]
     simp only [show((0+1:Nat):Int)=1 from rfl,show¬ (1:Int)=0 by omega,show((9:Nat):Int)=9 from rfl,apJ,apK,apL,apM,bg]
     simp
  ·have Ci:dr e=30+(dr a+1+(dr b+1)):=by rw [aE];simp [dr,lM]
   have pn:=bc a n (by omega) ha (by omega) (by omega)
   have QI:=bc b n (by omega) hb (by omega) (by omega)
   have Ch:=pN (ii a) a (Nat.le_refl _) ha;have Z5:=pN (ii b) b (Nat.le_refl _) hb;have eZ:e.aw=[a,b]:=by rw [aE]
   have jW:=ZZ gX;have akS:=QF e.Op
   have e2:dk e=ih a.Op (dk a) (if ev e.Op=4 then 5 else ev e.Op)++none::some (ro e.Op)::none::ih b.Op (dk b) (ev e.Op+1):=by
    generalize e.Op=op at gX aE
    rw [aE,QB gX]
   have au:=ol a.Op (dk a) (if ev e.Op=4 then 5 else ev e.Op)
   have dR:=ol b.Op (dk b) (ev e.Op+1);have ve:=Cr (k:=ev e.Op+1) QI (by omega)
   rw [e2,eZ,alj (n+1) e.Op gX];simp only [apP,apQ,sD (show 0<0+1+1 by omega),bg,List.getD_cons_zero,List.getD_cons_succ,show¬ e.Op=1 by omega,show¬ e.Op=2 by omega,show¬ e.Op=3 by omega,show¬ e.Op=18 by omega,show¬ e.Op=9 by omega,apK,apM,i7,show¬ ev e.Op=9 by omega,show aP 1 (0+1+1)=true from rfl]
   by_cases aQ:ev e.Op=4
   ·have qO:=Cr (k:=5) pn (by omega)
    rw [aQ]at ve ⊢;rw [if_pos rfl];rw [if_pos aQ]at au;simp only [apJ,apL];rw [show uQ (n+1) a 5=_ from qO,show uQ (n+1) b 5=_ from ve]
    simp only [aD];rw [aQ]at dR;rw [gA (by simp;omega),gA (by simp;omega),gA (by simp;omega),gA (by simp only [apT,apP,apQ];omega)]
    simp only [bg,nA,flat];simp
   ·have qO:=Cr (k:=ev e.Op) pn (by omega)
    rw [if_neg aQ]at au ⊢;simp only [aQ,apK,apM];rw [qO,gr (by omega),ve]
    simp only [aD];rw [gA (by simp;omega),gA (by simp;omega),gA (by simp;omega),gA (by simp only [apT,apP,apQ];omega)]
    simp only [bg,nA,flat];simp
def als(n d:Nat)(hd:d≤100):∀m i,d<i+m→i≤d→Bc n (d:Int) m (ind i) (i:Int)=some (ind d):=by
 intro m;induction m with
 |zero=>intro i h af;omega
 |succ m bc=>
  intro i hm hi;simp only [Bc,O9,O8,apS];by_cases h:i<d
  ·simp only [h,apJ,apL];rw [dB (by rw [Cm];simp;omega),gr (by omega),←QO,bc (i+1) (by omega) (by omega)]
   rfl
  ·simp only [h,apK,apM];rw [show i=d by omega]
def alt{n d:Nat}(hd:d≤100)(hn:d<n):O' n (d:Int)=some (ind d):=als n d hd n 0 (by omega) (by omega)
def aav{n:Nat}{e:Expr}(h:lR e)(hn:300≤n)(a':dr e≤1000000):kH n e=some (f8 e):=alr (ii e) e n (Nat.le_refl _) h.1 (by have:=h.2;omega) a'
def alu(n:Nat):qg (n+1)=GF n (qg n) (xJ n):=rfl
def alv(n:Nat):xJ (n+1)=GG n (qg n) (xJ n):=rfl
set_option maxHeartbeats 4000000 in
def alw{n:Nat}{s:Stmt}{d:Nat}(e0:yj s d)(a':fst s≤300000)(hn:500≤n)
 (hb:qg n s.Body ((d+1:Nat):Int)=some (ga s.Body (d+1))) (he:qg n s.bX ((d+1:Nat):Int)=some (ga s.bX (d+1))):xJ (n+1) s (d:Int)=some (fS s d):=by
 obtain⟨hd,hsh,cC,mX⟩:=(HP s d).1 e0;have Z:=nB _ _ cC;have af:=nB _ _ mX;have hi:=Cm d;obtain⟨Op,Name,Max,A,B,Body,bX⟩:=s
 dsimp only at hb he cC mX Z af
 have nb:dr A≤300000∧dr B≤300000∧ep Body≤300000∧ep bX≤300000:=by simp only [fst]at a';omega
 obtain⟨f1,f2,f3,f4⟩:=nb;rw [alv];unfold GG;rw [alt (by omega) (by omega)]
 simp only [aD,lN,gr (show d≤4611686018427387904 by omega)]
 have d9:lR A→kH n A=some (f8 A)∧(f8 A).length≤1200000:=λh=>⟨aav h (by omega) (by omega),by have:=lS h;omega⟩
 have cB:lR B→kH n B=some (f8 B)∧(f8 B).length≤1200000:=λh=>⟨aav h (by omega) (by omega),by have:=lS h;omega⟩
 have bB:gF Name=true→Name.length≤16:=λh=>by obtain⟨_,_,_,_,_,_,h⟩:=Qx h;exact h
 have c7:0≤Max∧Max≤999→uO n Max=some (Lib.decDigits Max.toNat)∧(Lib.decDigits Max.toNat).length≤21:=λh=>⟨aat n (by omega) Max h.1 (by omega),yf Max h.1 (by omega)⟩
 unfold fS;unfold Ck at hsh;simp only at hsh
 rcases hsh with⟨aA,aE,zu,ha⟩|⟨aE,ha,pG⟩|⟨aA,aE,ha⟩|⟨aE,ha⟩|⟨aE,zu,J9,ha,pG⟩|⟨aE,J9⟩
 ·obtain⟨a7,a2⟩:=d9 ha;have a3:=bB zu;rcases aA with rfl|rfl
  ·simp (disch:=first|omega|(simp only [apT,apP,apQ];omega)) only [a7,decide_true,cond_true,aD,dB,bg,if_true,er,cat]
   simp
  ·simp (disch:=first|omega|(simp only [apT,apP,apQ];omega)) only [a7,show¬ (2:Int)=1 by omega,decide_true,decide_false,cond_false,if_false,cond_true,aD,dB,bg,if_true,er,cat]
   simp
 ·cases aE;obtain⟨a7,a2⟩:=d9 ha;obtain⟨b4,hR⟩:=cB pG;simp (disch:=first|omega|(simp only [apT,apP,apQ];omega)) only [a7,b4,show¬ (3:Int)=1 by omega,show¬ (3:Int)=2 by omega,decide_true,decide_false,cond_false,if_false,cond_true,aD,dB,bg,if_true,er,cat]
  simp
 ·obtain⟨a7,a2⟩:=d9 ha;rcases aA with rfl|rfl<;>simp (disch:=first|omega|(simp only [apT,apP,apQ];omega)) only [a7,show¬ (4:Int)=1 by omega,show¬ (4:Int)=2 by omega,show¬ (4:Int)=3 by omega,show¬ (7:Int)=1 by omega,show¬ (7:Int)=2 by omega,show¬ (7:Int)=3 by omega,show¬ (7:Int)=4 by omega,show¬ (7:Int)=5 by omega,show¬ (7:Int)=6 by omega,decide_true,decide_false,cond_false,if_false,cond_true,aD,dB,bg,if_true,er,cat]<;>simp
 ·cases aE;obtain⟨a7,a2⟩:=d9 ha;have bR:¬ (5:Int)=1∧¬ (5:Int)=2∧¬ (5:Int)=3∧¬ (5:Int)=4∧¬ (5:Int)=7∧¬ (5:Int)=8∧¬ (5:Int)=6:=by omega
  obtain⟨e1,e2,e3,h3,ym,HR,HS⟩:=bR;by_cases dQ:bX.length=0
  ·simp (disch:=first|omega|(simp only [apT,apP,apQ];omega)) only [a7,hb,e1,e2,e3,h3,HS,ym,HR,dQ,Bf,Int.lt_irrefl,show¬ ((0:Int)<((0:Nat):Int))by omega,decide_true,decide_false,cond_false,if_false,cond_true,aD,dB,bg,if_true,er,cat]
   simp
  ·have hp:(0:Int)<((bX.length:Nat):Int):=by omega
   simp (disch:=first|omega|(simp only [apT,apP,apQ];omega)) only [a7,hb,he,hp,e1,e2,e3,h3,HS,ym,HR,dQ,Bf,decide_true,decide_false,cond_false,if_false,cond_true,aD,dB,bg,if_true,er,cat]
   simp
 ·cases aE;obtain⟨a7,a2⟩:=d9 ha;obtain⟨b4,hR⟩:=cB pG;obtain⟨m1,m2⟩:=c7 ⟨by omega,by omega⟩
  have a3:=bB zu;have bR:¬ (6:Int)=1∧¬ (6:Int)=2∧¬ (6:Int)=3∧¬ (6:Int)=4∧¬ (6:Int)=7∧¬ (6:Int)=8∧¬ (6:Int)=5:=by omega
  obtain⟨e1,e2,e3,h3,ym,HR,tA⟩:=bR;simp (disch:=first|omega|(simp only [apT,apP,apQ];omega)) only [a7,b4,m1,hb,e1,e2,e3,h3,tA,ym,HR,decide_true,decide_false,cond_false,if_false,cond_true,aD,dB,bg,if_true,er,cat]
  simp
 ·cases aE;obtain⟨m1,m2⟩:=c7 ⟨by omega,by omega⟩
  have bR:¬ (8:Int)=1∧¬ (8:Int)=2∧¬ (8:Int)=3∧¬ (8:Int)=4∧¬ (8:Int)=7∧¬ (8:Int)=5∧¬ (8:Int)=6:=by omega
  obtain⟨e1,e2,e3,h3,ym,tA,HS⟩:=bR;simp (disch:=first|omega|(simp only [apT,apP,apQ];omega)) only [m1,e1,e2,e3,h3,tA,HS,ym,decide_true,decide_false,cond_false,if_false,cond_true,aD,dB,bg,if_true,er,cat]
  simp
def alx:∀(n:Nat) (l:List Stmt) (d:Nat),k7 l d→ep l≤300000→2*ep l+600≤n→qg n l (d:Int)=some (ga l d):=by
 intro n;induction n using Nat.strongRecOn with
 |_ n bc=>
  intro l d e0 a' hn;obtain⟨n,rfl⟩:∃k,n=k+2:=⟨n-2,by omega⟩
  have hlen:=B9 l;rw [alu];unfold GF
  have iy:∀m i,l.length<i+m→i≤l.length→Be (n+1) (qg (n+1)) (xJ (n+1)) l (d:Int) m (ga (l.take i) d) (i:Int)=some (ga l d):=by
   intro m;induction m with
   |zero=>intro i Z af;omega
   |succ m ny=>
    intro i Z af;simp only [Be,Ph,Pg,apS,apR,u9];by_cases hi:i<l.length
    ·simp only [hi,apJ,apL,cr hi,bg];have dS:=QP l i d hi e0;have QS:k7 (l.take i) d:=((QQ (l.take i) (l.drop i) d).1 (by rw [List.take_append_drop];exact e0)).1
     have oN:=nB _ _ QS
     have zx:ep l=ep (l.take i)+(fst (l.getD i default)+1+ep (l.drop (i+1))):=by
      have:ep l=ep (l.take i++l.drop i):=by rw [List.take_append_drop]
      rw [Qo,gE l i default hi]at this;simpa only [ep]using this
     have f9:=ny (i+1) (by omega) (by omega)
     rw [va l i hi,QR]at f9;generalize l.getD i default=s at dS zx f9
     have hx:=aaf s d dS;have u':=fst_eq s;obtain⟨_,_,aly,alz⟩:=(HP s d).1 dS;have hb:=bc n (by omega) s.Body (d+1) aly (by omega) (by omega)
     have he:=bc n (by omega) s.bX (d+1) alz (by omega) (by omega)
     rw [alw dS (by omega) (by omega) hb he,aD,dB (by omega),bg,gr (by omega)]
     simpa only [ga,List.append_nil]using f9
    ·simp only [hi,apK,apM];rw [List.take_of_length_le (by omega)]
  exact iy (n+1) 0 (by omega) (by omega)
def alA(n:Nat)(t:Int):Pi n t=some (vh t):=aaj n t
def aaw(x:ap0):∀l:List ap0,Lib.joinTail [44,32] (l++[x])=Lib.joinTail [44,32] l++([44,32]++x)
 |[]=>by simp [Lib.joinTail]
 |y::l=>by rw [List.cons_append,QV,QV,aaw x l];simp
def alB(x:ap0)(l:List ap0):Lib.join (l++[x]) [44,32]=(if l.length=0 then Lib.join l [44,32]else Lib.join l [44,32]++[44,32])++x:=by
 cases l with
 |nil=>simp [Lib.join,Lib.joinTail]
 |cons y l=>rw [List.cons_append,Lib.join_cons,Lib.join_cons,aaw,if_neg (by simp)];simp
def alC{n:Nat}(p:bi)(hi:pp p)(ay:nz p=0)(hn:3000000≤n)(a':hP p.Params≤300000)(cB:ep p.Body≤300000):uR n p=some (nC p):=by
 have hp:=QM hi ay;obtain⟨Z,af,au⟩:=hp;obtain⟨aQ,bj⟩:=QT af;have de:=pm Z;have dR:=nB p.Body 1 au;unfold uR;rw [ZW p (by omega) (by omega) (by omega) (by omega) (by omega) (by omega) (by omega),ay]
 simp only [aD,apJ,apN,apM];rw [dB (by simp only [apP,apQ];omega),dB (by simp only [apT,apP,apQ];omega)]
 simp only [bg]
 have iy:∀m i,p.Params.length<i+m→i≤p.Params.length→Bh n p m ((([112,114,111,99,32]++p.Name)++[40])++om (p.Params.take i)) (i:Int)=some (nC p):=by
  intro m;induction m with
  |zero=>intro i g1 g2;omega
  |succ m bc=>
   intro i g1 g2;have aax:(om (p.Params.take i)).length≤24*(p.Params.take i).length:=QW λx hx=>bj x (List.mem_of_mem_take hx)
   have alD:(p.Params.take i).length≤6:=by simp;omega
   simp only [Bh,Pl,GH,Pk,apS,apR];by_cases hi:i<p.Params.length
   ·have hx:=bj (p.Params.getD i default) (by rw [List.getD_eq_getElem?_getD,List.getElem?_eq_getElem hi];exact List.getElem_mem hi)
    have hnx:=pm hx.1;have aan:=QU (p.Params.getD i default).fP;have f9:=bc (i+1) (by omega) (by omega)
    unfold om at f9 aax ⊢;rw [va p.Params i hi,List.map_append]at f9;simp only [List.map_cons,List.map_nil]at f9;rw [alB]at f9;generalize l6:p.Params.getD i default=x at f9 hnx aan
    simp only [hi,apJ,apL,cr hi,bg,alA,aD,gr (show i≤4611686018427387904 by omega),fm]
    by_cases h0:i=0
    ·subst h0;simp (disch:=first|omega|(simp only [apT,apP,apQ];omega)) only [Nat.lt_irrefl,decide_false,cond_false,dB,bg]
     rw [←f9];simp [pq]
    ·simp (disch:=first|omega|(simp only [apT,apP,apQ];omega)) only [show 0<i by omega,decide_true,cond_true,dB,bg]
     rw [←f9,if_neg (by rw [List.length_map,List.length_take];omega)];simp [pq]
   ·simp only [hi,apK,apM];obtain rfl:i=p.Params.length:=by omega
    unfold Pj;rw [List.take_length]at aax alD ⊢;rw [show(1:Int)=((1:Nat):Int)from rfl,alx n p.Body 1 au cB (by omega)]
    simp (disch:=first|omega|(simp only [apT,apP,apQ];omega)) only [aD,dB,bg]
    simp [nC,er,cat,ind]
 have:=iy n 0 (by omega) (by omega)
 rw [show om (p.Params.take 0)=[]from rfl,List.append_nil]at this
 exact this
def alE{β:Type}{L:Nat→Int→Option β}{len:Nat}{chk:Nat→Bool}{no yes:β}
 (step:∀m i,i<len→L (m+1) (i:Int)=if chk i then L m ((i+1:Nat):Int)else some no) (stop:∀m,L (m+1) (len:Int)=some yes):
 ∀m i,len<i+m→i≤len→L m (i:Int)=some (if(List.range' i (len-i)).all chk then yes else no):=by
 intro m;induction m with
 |zero=>intro i h af;omega
 |succ m bc=>
  intro i h af;by_cases hi:i<len
  ·rw [step m i hi,bc (i+1) (by omega) (by omega),show len-i=(len-(i+1))+1 by omega,List.range'_succ,List.all_cons]
   cases chk i
   ·rfl
   ·rw [if_pos rfl,Bool.true_and]
  ·obtain rfl:i=len:=by omega
   rw [stop m];simp
def Q3{β:Type}{L:Nat→Int→Option β}{len:Nat}{chk:Nat→Bool}{no yes:β}{m:Nat}(hm:len<m)
 (step:∀m i,i<len→L (m+1) (i:Int)=if chk i then L m ((i+1:Nat):Int)else some no) (stop:∀m,L (m+1) (len:Int)=some yes):
 L m 0=some (if(List.range len).all chk then yes else no):=by
 have:=alE step stop m 0 (by omega) (by omega)
 rwa [Nat.sub_zero,←List.range_eq_range']at this
def pr(c:UInt8):Bool:=decide (97≤c.toNat∧c.toNat≤122)||decide (48≤c.toNat∧c.toNat≤57)||decide (c.toNat=47)||decide (c.toNat=46)||decide (c.toNat=95)||decide (c.toNat=45)
def iQ(k:ap0):Bool:=decide (1≤k.length)&&decide (k.length≤24)&&(List.range k.length).all λi=>pr (k.getD i 0)
def alF{n:Nat}{s:ap0}(h:24<n):Eg n s=some (decide (s.length≤24)&&(List.range s.length).all λi=>pr (s.getD i 0)):=by
 unfold Eg;by_cases ag:s.length≤24
 ·simp only [fm,show¬ 24<s.length by omega,apK,apM,ag,apJ,Bool.true_and]
  rw [Q3 (L:=wC n s) (len:=s.length) (chk:=λi=>pr (s.getD i 0)) (no:=false) (yes:=true) (by omega)]
  ·cases (List.range s.length).all λi=>pr (s.getD i 0)<;>rfl
  ·intro m i hi;simp only [wC,Ef,KP,apS,hi,apJ,apL,cr hi,bg,aD,apR,gr (show i≤4611686018427387904 by omega),sE,lp,i7,eb,e4]
   have:(((((decide (97≤(s.getD i 0).toNat)&&decide ((s.getD i 0).toNat≤122)||(decide (48≤(s.getD i 0).toNat)&&decide ((s.getD i 0).toNat≤57)))||decide ((s.getD i 0).toNat=47))||decide ((s.getD i 0).toNat=46))||decide ((s.getD i 0).toNat=95))||decide ((s.getD i 0).toNat=45))=pr (s.getD i 0):=by
    simp [pr,Bool.decide_and]
   rw [this];cases pr (s.getD i 0)<;>rfl
  ·intro m;simp only [wC,Ef,KQ,apW,apK,apM]
 ·simp only [fm,show 24<s.length by omega,apJ,apL,ag,apK,Bool.false_and]
def HT{n:Nat}{k:ap0}(h:24<n):ub n k=some (iQ k):=by
 unfold ub iQ;rw [alF h];cases k with
 |nil=>rfl
 |cons c l=>simp [aD]
def alG(c:Nat):(((((decide (c<97)||decide (122<c))&&(decide (c<48)||decide (57<c))) && !decide (c=47)) && !decide (c=46)) && !decide (c=95) && !decide (c=45)) = !(decide (97≤c∧c≤122)||decide (48≤c∧c≤57)||decide (c=47)||decide (c=46)||decide (c=95)||decide (c=45)):=by
 rw [Bool.eq_iff_iff];simp only [Bool.and_eq_true,Bool.or_eq_true,decide_eq_true_eq,Bool.not_eq_true',Bool.or_eq_false_iff,decide_eq_false_iff_not];omega
def HU{n:Nat}{k:ap0}(h:k.length<n)(hk:k.length≤9223372036854775807):uJ n k=some (iQ k):=by
 unfold uJ;rw [Q3 (L:=xn n k) (len:=k.length) (chk:=λi=>pr (k.getD i 0)) (no:=false) (yes:=decide (1≤k.length)&&decide (k.length≤24)) h]
 ·unfold iQ;cases (List.range k.length).all λi=>pr (k.getD i 0)<;>simp
 ·intro m i hi;simp only [xn,FT,apS,hi,apJ,apL,cr hi,bg,apR,dw (show i≤9223372036854775806 by omega),rj,fm,i7,eb,e4]
  have:=alG (k.getD i 0).toNat
  rw [show(decide (97≤(k.getD i 0).toNat∧(k.getD i 0).toNat≤122)||decide (48≤(k.getD i 0).toNat∧(k.getD i 0).toNat≤57)||decide ((k.getD i 0).toNat=47)||decide ((k.getD i 0).toNat=46)||decide ((k.getD i 0).toNat=95)||decide ((k.getD i 0).toNat=45))=pr (k.getD i 0)from rfl]at this
  rw [this];cases pr (k.getD i 0)<;>rfl
 ·intro m;simp only [xn,FT,NU,apW,apK,apM,sE,lp,e4]
def aay(n:Nat)(s:ap0):∀m,zP n s m=wP n s m
 | 0=>rfl
 |m+1=>by
  show KT n s (zP n s m)=_
  rw [aay n s m];rfl
def alH{n:Nat}{s:ap0}(h:s.length<n)(hs:s.length≤9223372036854775807):zQ n s=some (ki s):=by
 unfold zQ;rw [aay];exact Zu h hs
def aaz(n:Nat)(s:ap0):∀m,AW n s m=xG n s m
 | 0=>rfl
 |m+1=>by
  show NT n s (AW n s m)=_
  rw [aaz n s m];rfl
def alI{n:Nat}{s:ap0}(h:s.length<n)(hs:s.length≤9223372036854775807):FSb n s=some (ki s):=by
 unfold FSb ki;by_cases ag:s.length≤64
 ·simp only [fm,show¬ 64<s.length by omega,apK,apM,ag,apJ,Bool.and_true]
  rw [aaz];exact aau s h hs
 ·simp only [fm,show 64<s.length by omega,apJ,apL,ag,apK,Bool.and_false]
def js(v:bG):Bool:=if v.Kind=0 then decide (v.N=0)&&decide (v.S=[])else if v.Kind=1 then decide (v.S=[])else decide (v.Kind=2)&&decide (v.N=0)&&ki v.S
def HV{n:Nat}{v:bG}(h:v.S.length<n)(hs:v.S.length≤9223372036854775807):q7 n v=some (js v):=by
 unfold q7 js;by_cases h0:v.Kind=0
 ·simp [h0]
 ·by_cases Z:v.Kind=1
  ·simp [Z]
  ·by_cases af:v.Kind=2
   ·by_cases au:v.N=0
    ·simp [af,au,alH h hs]
    ·simp [af,au]
   ·simp [h0,Z,af]
def HW{n:Nat}{v:bG}(h:v.S.length<n)(hs:v.S.length≤9223372036854775807):sl n v=some (js v):=by
 unfold sl js;by_cases h0:v.Kind=0
 ·by_cases au:v.N=0<;>simp [h0,au]
 ·by_cases Z:v.Kind=1
  ·simp [Z]
  ·by_cases af:v.Kind=2
   ·by_cases au:v.N=0
    ·simp [af,au,alI h hs]
    ·simp [af,au]
   ·simp [h0,Z,af]
def bW(v:bG):ap0:=if v.Kind=1 then eV 1++ml v.N else if v.Kind=2 then eV 2++fE v.S else eV 0
def Q4{n:Nat}{v:bG}(hn:10≤n)(bB:e5 v.N)(hs:v.S.length≤4611686018427387904):uc n v=some (bW v):=by
 have Z:=nD bB;have af:=qs hs;have gv:=iA (u:=1) (by omega)
 have ir:=iA (u:=2) (by omega)
 have bR:gZ n 0=some (eV 0):=rv (u:=0) hn (by omega)
 have e1:gZ n 1=some (eV 1):=rv (u:=1) hn (by omega)
 have e2:gZ n 2=some (eV 2):=rv (u:=2) hn (by omega)
 unfold uc bW;by_cases cS:v.Kind=1
 ·simp (disch:=omega) only [cS,decide_true,cond_true,e1,aD,vj hn bB,dB,bg,if_true]
 ·by_cases al:v.Kind=2
  ·simp (disch:=omega) only [al,show¬ (2:Int)=1 by omega,decide_true,decide_false,cond_true,cond_false,e2,aD,qq hn hs,dB,bg,if_true,if_false]
  ·simp only [cS,al,apK,apM,bR,aD,apZ]
def Q5{n:Nat}{v:bG}(hn:10≤n)(bB:e5 v.N)(hs:v.S.length≤4611686018427387904):xO n v=some (bW v):=by
 have Z:=nD bB;have af:=qs hs;have gv:=iA (u:=1) (by omega)
 have ir:=iA (u:=2) (by omega)
 have bR:hh n 0=some (eV 0):=rx (u:=0) hn (by omega)
 have e1:hh n 1=some (eV 1):=rx (u:=1) hn (by omega)
 have e2:hh n 2=some (eV 2):=rx (u:=2) hn (by omega)
 unfold xO bW;by_cases cS:v.Kind=1
 ·simp (disch:=omega) only [cS,decide_true,cond_true,e1,aD,vi hn bB,dB,bg,if_true]
 ·by_cases al:v.Kind=2
  ·simp (disch:=omega) only [al,show¬ (2:Int)=1 by omega,decide_true,decide_false,cond_true,cond_false,e2,aD,qr hn hs,dB,bg,if_true,if_false]
  ·simp only [cS,al,apK,apM,bR,aD,apZ]
def Q6{v:bG}(bB:e5 v.N)(hs:v.S.length≤4611686018427387904):(bW v).length≤v.S.length+20:=by
 have Z:=nD bB;have af:=qs hs;have l0:=iA (u:=0) (by omega)
 have gv:=iA (u:=1) (by omega)
 have ir:=iA (u:=2) (by omega)
 unfold bW;split
 ·simp;omega
 ·split
  ·simp;omega
  ·omega
def jL:List Token→Nat
 |[]=>0
 |t::l=>(spell t).length+jL l
def aaA:∀l m:List Token,jL (l++m)=jL l+jL m
 |[],m=>by simp [jL]
 |t::l,m=>by simp only [List.cons_append,jL,aaA l m];omega
def cJ(l:List Token)(i:Nat):Nat:=jL (l.take i)
def ip{α β:Type}(Q:α→β→Prop)(p:Option (aV α β)):Prop:=∀a z,p=some (.ret a z)→Q a z
def ip.ret{α β:Type}{Q:α→β→Prop}{a:α}{z:β}(h:Q a z):ip Q (some (.ret a z)):=λdU aaB e=>by cases e;exact h
def ip.bl{α β:Type}{Q:α→β→Prop}{x:V}{z:β}:ip Q (some (.bl x z)):=λdU aaB e=>by cases e
def ip.none{α β:Type}{Q:α→β→Prop}:ip Q none:=λdU aaB e=>by cases e
def ip.bind{α β dJ gT:Type}{Q:α→β→Prop}{R:dJ→gT→Prop}{p:Option (aV α β)}{f:α→β→Option (aV dJ gT)}{h:V→β→Option (aV dJ gT)}(hp:ip Q p)(a':∀a z,Q a z→ip R (f a z))(bz:∀x z,ip R (h x z)):
 ip R (Option.bind p λr=>aV.on r f h):=by
 match p,hp with
 |.none,_=>exact .none
 |some (.ret a z),hp=>exact a' a z (hp a z rfl)
 |some (.bl x z),_=>exact bz x z
def ip.bif{dJ gT:Type}{R:dJ→gT→Prop}{c:Bool}{p q:Option (aV dJ gT)}(Z:c=true→ip R p)(af:c=false→ip R q):ip R (bif c then p else q):=by cases c;exact af rfl;exact Z rfl
def ip.av{dJ gT:Type}{R:dJ→gT→Prop}{c:Bool}{p:Option (aV dJ gT)}(Z:ip R p):ip R (Go.Ab.av c p):=by cases c;exact .none;exact Z
section
variable {l:List Token}
theorem aaC(e:Expr)(k:Nat):jL (Cf e k)=jL (aad e)+if ev e.Op<k then 2 else 0:=by
 unfold Cf ih;split
 ·have Z:(spell (fW [40])).length=1:=rfl;have af:(spell (fW [41])).length=1:=rfl;have au:jL (aad e)=jL (lO (dk e)):=rfl;simp only [lO,Qy,jL,aaA,Z,af,au];omega
 ·rfl
theorem alJ(e:Expr){j k:Nat}(h:j≤k):jL (Cf e j)≤jL (Cf e k):=by
 rw [aaC,aaC];split<;>split<;>omega
def Q7(l:List Token)(i kj:Nat)(e:Expr)(z:Int):Prop:=∃k:Nat,z=(k:Int)∧i≤k∧k≤l.length∧lQ e∧cJ l i+jL (Cf e kj)≤cJ l k
theorem Q7.mono{i j kj aaD:Nat}{e:Expr}{z:Int}(h:Q7 l j kj e z)(hi:i≤j)(hp:cJ l i≤cJ l j)(jW:aaD≤kj):Q7 l i aaD e z:=by
 obtain⟨k,Z,af,au,aQ,bj⟩:=h;have:=alJ e jW
 exact⟨k,Z,by omega,au,aQ,by omega⟩
end
section
variable {l:List Token}
end
section
variable {l:List Token}
end
section
variable {l:List Token}
end
section
variable {l:List Token}
end
abbrev lT(α:Type):=ap0→Except Int (α×ap0)
structure kM{α:Type}(D:lT α)(E:α→ap0)(ok:α→Prop):Prop where
 rt:∀v t,ok v→D (E v++t) = .ok (v,t)
 mm:∀x v t,D x = .ok (v,t)→x=E v++t∧ok v
 iP:∀x e,D x = .error e→e≠0
def HX{α β:Type}(D:lT α)(k:α→lT β):lT (α×β):=λx=>match D x with
 |.ok (v,t)=>match k v t with
  |.ok (w,u)=>.ok ((v,w),u)
  |.error e=>.error e
 |.error e=>.error e
def kM.dep{α β:Type}{D:lT α}{E:α→ap0}{ok:α→Prop}{k:α→lT β}{dq:α→β→ap0}{aaE:α→β→Prop}(h:kM D E ok)(af:∀a,ok a→kM (k a) (dq a) (aaE a)):
 kM (HX D k) (λp=>E p.1++dq p.1 p.2) (λp=>ok p.1∧aaE p.1 p.2) where
 rt:=fun⟨v,w⟩ t ⟨au,aQ⟩=>by simp only [HX,List.append_assoc,h.rt v _ au,(af v au).rt w t aQ]
 mm:=
  λx ⟨v,w⟩ t hx=>by
  unfold HX at hx;split at hx
  ·rename_i v0 t0 hd;obtain⟨au,aQ⟩:=h.mm _ _ _ hd;split at hx
   ·rename_i Cs SN hk;obtain⟨bj,cb⟩:=(af v0 aQ).mm _ _ _ hk;cases hx;exact⟨by rw [au,bj,List.append_assoc],aQ,cb⟩
   ·cases hx
  ·cases hx
 iP:=
  λx e hx=>by
  unfold HX at hx;split at hx
  ·rename_i v0 t0 hd;split at hx
   ·cases hx
   ·rename_i bR hk;cases hx;exact(af v0 (h.mm _ _ _ hd).2).iP _ _ hk
  ·rename_i bR hd;cases hx;exact h.iP _ _ hd
def HY{α β:Type}(f:α→β)(D:lT α):lT β:=λx=>match D x with
 |.ok (v,t)=>.ok (f v,t)
 |.error e=>.error e
def kM.map{α β:Type}{D:lT α}{E:α→ap0}{ok:α→Prop}(h:kM D E ok)(f:α→β)(g:β→α)(yn:β→Prop)(dm:β→ap0)(Z:∀b,yn b→f (g b)=b∧ok (g b)∧dm b=E (g b))(af:∀a,ok a→g (f a)=a∧yn (f a)):
 kM (HY f D) dm yn where
 rt:=λv t ay=>by
  obtain⟨au,aQ,bj⟩:=Z v ay;simp only [HY,bj,h.rt _ t aQ,au]
 mm:=λx v t hx=>by
  unfold HY at hx;split at hx
  ·rename_i v0 t0 hd;cases hx;obtain⟨au,aQ⟩:=h.mm _ _ _ hd;obtain⟨bj,cb⟩:=af _ aQ;obtain⟨_,_,de⟩:=Z _ cb;exact⟨by rw [de,bj,au],cb⟩
  ·cases hx
 iP:=λx e hx=>by
  unfold HY at hx;split at hx
  ·cases hx
  ·rename_i bR hd;cases hx;exact h.iP _ _ hd
def HZ{α:Type}(p:α→Bool)(e:Int)(D:lT α):lT α:=λx=>match D x with
 |.ok (v,t)=>if p v then .ok (v,t)else .error e
 |.error f=>.error f
def kM.chk{α:Type}{D:lT α}{E:α→ap0}{ok:α→Prop}(h:kM D E ok)(p:α→Bool)(e:Int)(he:e≠0):kM (HZ p e D) E (λv=>ok v∧p v=true) where
 rt:=λv t ⟨Z,af⟩=>by simp only [HZ,h.rt v t Z,af,apY]
 mm:=
  λx v t hx=>by
  unfold HZ at hx;split at hx
  ·rename_i v0 t0 hd;split at hx
   ·rename_i hp;cases hx;exact⟨(h.mm _ _ _ hd).1,(h.mm _ _ _ hd).2,hp⟩
   ·cases hx
  ·cases hx
 iP:=λx f hx=>by
  unfold HZ at hx;split at hx
  ·split at hx
   ·cases hx
   ·cases hx;exact he
  ·rename_i bR hd;cases hx;exact h.iP _ _ hd
def fX{α:Type}(E:α→ap0)(l:List α):ap0:=(l.map E).flatten
def vk{α:Type}(E:α→ap0)(v:α)(l:List α):fX E (v::l)=E v++fX E l:=rfl
def alK{α:Type}(E:α→ap0):fX E []=[]:=rfl
def Ct{α:Type}(D:lT α):Nat→lT (List α)
 | 0,x=>.ok ([],x)
 |n+1,x=>match D x with
  |.ok (v,t)=>match Ct D n t with
   |.ok (l,u)=>.ok (v::l,u)
   |.error e=>.error e
  |.error e=>.error e
def kM.rep{α:Type}{D:lT α}{E:α→ap0}{ok:α→Prop}(h:kM D E ok):∀n,kM (Ct D n) (fX E) (λl=>l.length=n∧∀v∈l,ok v)
 | 0=>{
  rt:=λv t ⟨Z,_⟩=>by
   obtain rfl:=List.eq_nil_of_length_eq_zero Z;rfl
  mm:=λx v t hx=>by cases hx;exact⟨rfl,rfl,λv ay=>by cases ay⟩
  iP:=λx e hx=>by cases hx}
 |n+1=>{
  rt:=λv t ⟨Z,af⟩=>by
   cases v with
   |nil=>simp at Z
   |cons a l=>
    have au:=h.rt a (fX E l++t) (af a (by simp))
    have aQ:=(kM.rep h n).rt l t ⟨by simpa using Z,λv ay=>af v (by simp [ay])⟩
    simp only [Ct,vk,List.append_assoc,au,aQ]
  mm:=
   λx v t hx=>by
   unfold Ct at hx;split at hx
   ·rename_i v0 t0 hd;split at hx
    ·rename_i l0 SN hk;cases hx;obtain⟨au,aQ⟩:=h.mm _ _ _ hd;obtain⟨bj,cb,de⟩:=(kM.rep h n).mm _ _ _ hk;refine⟨by rw [au,bj,vk,List.append_assoc],by simp [cb],λv ay=>?_⟩
     rcases List.mem_cons.1 ay with rfl|ay
     ·exact aQ
     ·exact de v ay
    ·cases hx
   ·cases hx
  iP:=λx e hx=>by
   unfold Ct at hx;split at hx
   ·split at hx
    ·cases hx
    ·rename_i bR hk;cases hx;exact(kM.rep h n).iP _ _ hk
   ·rename_i bR hd;cases hx;exact h.iP _ _ hd}
def ja(z:Int):Prop:=0≤z∧z<18446744073709551616
def iR(z:Int):ap0:=eV z.toNat
def dc{α:Type}(E:α→ap0)(l:List α):ap0:=eV l.length++fX E l
def H0{α:Type}{E:α→ap0}:∀{l:List α},(∀v∈l,E v≠[])→l.length≤(fX E l).length
 |[],_=>by simp
 |v::l,h=>by
  have Z:(E v).length≠0:=by simpa using h v (by simp)
  have af:=H0 (E:=E) (l:=l) λw hw=>h w (by simp [hw])
  simp only [vk,apT,apP];omega
def sM(b:Bool):ap0:=if b then[1] else[0]
def Q8(u:Nat):eV u≠[]:=by rw [eV];split<;>simp
def kM.as{α:Type}{D:lT α}{E:α→ap0}{ok:α→Prop}(h:kM D E ok)(dm:α→ap0)(yn:α→Prop)(Z:∀v,yn v↔ok v)(af:∀v,ok v→dm v=E v):kM D dm yn where
 rt:=λv t ay=>by rw [af v ((Z v).1 ay)];exact h.rt v t ((Z v).1 ay)
 mm:=λx v t hx=>by
  obtain⟨au,aQ⟩:=h.mm x v t hx;exact⟨by rw [af v aQ];exact au,(Z v).2 aQ⟩
 iP:=h.iP
def sN(v:bG):Prop:=js v=true∧e5 v.N
def alL{s:ap0}(h:ki s=true):s.length≤64:=by
 unfold ki at h;simp only [Bool.and_eq_true,decide_eq_true_eq]at h;exact h.2
def alM{v:bG}(h:js v=true):v=⟨0,0,[]⟩∨(v.Kind=1∧v.S=[])∨(v.Kind=2∧v.N=0∧ki v.S=true):=by
 obtain⟨k,n,s⟩:=v;unfold js at h;simp only at h ⊢
 split at h
 ·rename_i h0;simp only [Bool.and_eq_true,decide_eq_true_eq]at h;obtain⟨rfl,rfl⟩:=h;exact .inl (by rw [h0])
 ·split at h
  ·rename_i Z;exact .inr (.inl ⟨Z,by simpa using h⟩)
  ·simp only [Bool.and_eq_true,decide_eq_true_eq]at h;exact .inr (.inr ⟨h.1.1,h.1.2,h.2⟩)
def res{α:Type}(z:α)(s:ap0):Except Int (α×ap0)→α×Int×Int
 |.ok (v,t)=>(v,((s.length-t.length:Nat):Int),0)
 |.error e=>(z,0,e)
def aaF{i:Nat}(h:i≤9223372036854775807):ap2 (i:Int)=(i:Int):=by rw [wr]<;>omega
def sO:∀a b:ap0,(!Op.bytesLess a b)=(Op.bytesLess b a||decide (b=a))
 |[],[]=>rfl
 |[],b::y=>rfl
 |a::x,[]=>rfl
 |a::x,b::y=>by
  simp only [Op.bytesLess,sO x y,Bool.not_or,Bool.not_and];rcases Nat.lt_trichotomy a.toNat b.toNat with h|h|h
  ·have Z:a<b:=h;have af:¬ b<a:=by show¬ b.toNat<a.toNat;omega
   have au:a≠b:=by intro e;subst e;omega
   simp [Z,af,Ne.symm au]
  ·obtain rfl:a=b:=UInt8.toNat_inj.1 h;simp
  ·have Z:b<a:=h;have af:¬ a<b:=by show¬ a.toNat<b.toNat;omega
   have au:a≠b:=by intro e;subst e;omega
   simp [Z,af,au]
def aaG:∀a b c:ap0,Op.bytesLess a b=true→Op.bytesLess b c=true→Op.bytesLess a c=true
 |_,[],_,h,_=>by simp [Op.bytesLess]at h
 |_,b::y,[],_,h=>by simp [Op.bytesLess]at h
 |[],b::y,c::z,_,_=>rfl
 |a::x,b::y,c::z,Z,af=>by
  simp only [Op.bytesLess,Bool.or_eq_true,Bool.and_eq_true,decide_eq_true_eq,beq_iff_eq]at Z af ⊢;rcases Z with Z|⟨rfl,Z⟩
  ·rcases af with af|⟨rfl,af⟩
   ·left;show a.toNat<c.toNat;have au:a.toNat<b.toNat:=Z;have aQ:b.toNat<c.toNat:=af;omega
   ·exact .inl Z
  ·rcases af with af|⟨rfl,af⟩
   ·exact .inl af
   ·exact .inr ⟨rfl,aaG x y z Z af⟩
def ij{β:Type}{c k:Bool}{x y:β}(h:c = !k):(bif c then x else y)=if k then y else x:=by subst h;cases k<;>rfl
def lq{i len:Nat}{b:Bool}(hi:i<len)(ag:len≤9223372036854775807):(b||(!(decide (0<(i:Int)))||aP (ap2 ((i:Int)-1)) len))=true:=by
 cases i with
 |zero=>simp
 |succ i=>
  rw [show((i+1:Nat):Int)-1=(i:Int)by omega,aaF (by omega),cr (by omega)];simp
def yo{i len:Nat}{b c:Bool}(hi:i<len):(b||(c||aP (i:Int) len))=true:=by rw [cr hi];simp
def alN{i len:Nat}{b:Bool}(hi:i<len):(b||aP (i:Int) len)=true:=by rw [cr hi];simp
def allI(len:Nat)(chk:Nat→Bool):Bool:=(List.range len).all chk
def kl{len:Nat}{chk:Nat→Bool}:allI len chk=true↔∀i,i<len→chk i=true:=by
 unfold allI;simp
def lU(b:Bool):(if b then true else false)=b:=by cases b<;>rfl
def qt(b c:Bool):(if b then c else false)=(b&&c):=by cases b<;>rfl
def hZ{β:Type}{L:Nat→Int→Option β}{len:Nat}{chk:Nat→Bool}{no yes:β}{m:Nat}(hm:len<m)
 (step:∀m i,i<len→L (m+1) (i:Int)=if chk i then L m ((i+1:Nat):Int)else some no) (stop:∀m,L (m+1) (len:Int)=some yes):
 L m 0=some (if allI len chk then yes else no):=Q3 hm step stop
abbrev pv(i:Nat):Nat:=(ap2 ((i:Int)-1)).toNat
def aaH(i:Nat)(h:i≤9223372036854775807):pv (i+1)=i:=by
 unfold pv;(rw [show((i+1:Nat):Int)-1=(i:Int)by omega,aaF (by omega)];simp only [apR])
def alO(len:Nat)(a b:Nat→Bool):(allI len λi=>a i&&b i)=(allI len a&&allI len b):=by
 rw [Bool.eq_iff_iff];simp only [kl,Bool.and_eq_true];exact⟨λh=>⟨λi hi=>(h i hi).1,λi hi=>(h i hi).2⟩,λh i hi=>⟨h.1 i hi,h.2 i hi⟩⟩
def alP{L:Nat→Int→ap5}{len:Nat}{p:Nat→Bool}
 (step:∀m i,i<len→L (m+1) (i:Int)=if p i then some (i:Int)else L m ((i+1:Nat):Int)) (stop:∀m,L (m+1) (len:Int)=some (-1)):
 ∀m i,len<i+m→i≤len→∃r,L m (i:Int)=some r∧decide (0≤r)=(List.range' i (len-i)).any p:=by
 intro m;induction m with
 |zero=>intro i h af;omega
 |succ m bc=>
  intro i h af;by_cases hi:i<len
  ·rw [step m i hi,show len-i=(len-(i+1))+1 by omega,List.range'_succ,List.any_cons]
   cases hp:p i
   ·obtain⟨r,au,aQ⟩:=bc (i+1) (by omega) (by omega)
    exact⟨r,by rw [if_neg (by simp)];exact au,by rw [aQ];simp⟩
   ·exact⟨(i:Int),by simp,by simp⟩
  ·obtain rfl:i=len:=by omega
   exact⟨-1,stop m,by simp⟩
def Q9{L:Nat→Int→ap5}{len:Nat}{p:Nat→Bool}{m:Nat}(hm:len<m)
 (step:∀m i,i<len→L (m+1) (i:Int)=if p i then some (i:Int)else L m ((i+1:Nat):Int)) (stop:∀m,L (m+1) (len:Int)=some (-1)):
 ∃r,L m 0=some r∧decide (0≤r) = !allI len λi=>!p i:=by
 obtain⟨r,Z,af⟩:=alP step stop m 0 (by omega) (by omega)
 refine⟨r,Z,?_⟩
 rw [af,Nat.sub_zero,←List.range_eq_range'];unfold allI;rw [List.not_all_eq_any_not];simp
section
variable {n:Nat} (hn:2000≤n) (bB:n≤9223372036854775808)
include hn bB
def yp(l:List aY):Bool:=allI l.length λi=>iQ (l.getD i default).Key&&js (l.getD i default).bo&&(!decide (0<(i:Int))||Op.bytesLess (l.getD (pv i) default).Key (l.getD i default).Key)
def oo(l:List aY):Bool:=yp l&&allI l.length λi=>!decide ((l.getD i default).bo.Kind=0)
def vl(n:Nat)(p:aY):Prop:=p.Key.length<n∧p.bo.S.length<n
theorem alQ{l:List aY}(ag:l.length<n)(h:∀i,vl n (l.getD i default)):Fb n l=some (yp l):=by
 unfold Fb yp;rw [hZ (L:=w6 n l) (no:=false) (yes:=true) ag,lU]
 ·intro m i hi;have Z:=h i;simp only [w6,Fa,apS,hi,apJ,apL,cr hi,bg,aD,apR,dw (show i≤9223372036854775806 by omega),HT (show 24<n by omega),lq hi (show l.length≤9223372036854775807 by omega)]
  rw [show q7 n (⟨((l.getD i default).bo).Kind,((l.getD i default).bo).N,((l.getD i default).bo).S⟩:bG)=_ from HV (v:=(l.getD i default).bo) (by have:=Z.2;omega) (by have:=Z.2;omega)]
  cases hk:iQ (l.getD i default).Key
  ·simp only [apO,apN,apM,apL,aD,Bool.true_or,bg,Bool.false_and];rfl
  ·simp only [apO,apN,apM,apL,aD,lq hi (show l.length≤9223372036854775807 by omega),bg,Bool.true_and]
   exact ij (by simp only [eb,e4,Bool.not_and,Bool.not_or,Bool.not_not])
 ·intro m;simp only [w6,Fa,L1,apW,apK,apM]
theorem alR{l:List aY}(ag:l.length<n)(h:∀i,vl n (l.getD i default)):Ar n l=some (oo l):=by
 unfold Ar L0 LZ oo;rw [alQ hn bB ag h,aD]
 obtain⟨r,Z,af⟩:=Q9 (L:=w5 n l) (len:=l.length) (p:=λi=>decide ((l.getD i default).bo.Kind=0)) ag (by
  intro m i hi;simp only [w5,E_,LX,apS,hi,apJ,apL,cr hi,bg,aD,apR,dw (show i≤9223372036854775806 by omega),apV,apY]) (by
  intro m;simp only [w5,E_,LY,apW,apK,apM])
 rw [Z];simp only [aD,af];cases yp l<;>simp
theorem alS{l:List aY}(ag:l.length<n)(h:∀i,vl n (l.getD i default)):FY n l=some (oo l):=by
 have e1:FV n l=some (allI l.length λi=>iQ (l.getD i default).Key&&(!decide (0<(i:Int))||Op.bytesLess (l.getD (pv i) default).Key (l.getD i default).Key)):=by
  unfold FV;rw [hZ (L:=xo n l) (no:=false) (yes:=true) ag,lU]
  ·intro m i hi;have Z:=h i;simp only [xo,FU,apS,hi,apJ,apL,cr hi,bg,aD,apR,dw (show i≤9223372036854775806 by omega),HU (show(l.getD i default).Key.length<n by have:=Z.1;omega) (by have:=Z.1;omega),yo hi,lq hi (show l.length≤9223372036854775807 by omega),apX]
   exact ij (by simp only [eb,e4,Bool.not_and,Bool.not_or,Bool.not_not,←sO])
  ·intro m;simp only [xo,FU,NV,apW,apK,apM]
 have e2:AX n l=some ((allI l.length λi=>js (l.getD i default).bo)&&allI l.length λi=>iQ (l.getD i default).Key&&(!decide (0<(i:Int))||Op.bytesLess (l.getD (pv i) default).Key (l.getD i default).Key)):=by
  unfold AX;rw [hZ (L:=xp n l) (chk:=λi=>js (l.getD i default).bo) (no:=false) (yes:=allI l.length λi=>iQ (l.getD i default).Key&&(!decide (0<(i:Int))||Op.bytesLess (l.getD (pv i) default).Key (l.getD i default).Key)) ag,qt]
  ·intro m i hi;have Z:=h i;simp only [xp,FW,apS,hi,apJ,apL,cr hi,bg,aD,apR,dw (show i≤9223372036854775806 by omega),HW (show(l.getD i default).bo.S.length<n by have:=Z.2;omega) (by have:=Z.2;omega)]
   exact ij rfl
  ·intro m;simp only [xp,FW,NW,apW,apK,apM,e1,aD]
 unfold FY;rw [hZ (L:=xq n l) (chk:=λi=>!decide ((l.getD i default).bo.Kind=0)) (no:=false) (yes:=(allI l.length λi=>js (l.getD i default).bo)&&allI l.length λi=>iQ (l.getD i default).Key&&(!decide (0<(i:Int))||Op.bytesLess (l.getD (pv i) default).Key (l.getD i default).Key)) ag,qt]
 ·unfold oo yp;simp only [alO]
  congr 1
  generalize (allI l.length λi=>iQ (l.getD i default).Key)=a
  generalize (allI l.length λi=>js (l.getD i default).bo)=b
  cases a<;>cases b<;>simp [Bool.and_comm]
 ·intro m i hi;simp only [xq,FX,apS,hi,apJ,apL,cr hi,bg,aD,apR,dw (show i≤9223372036854775806 by omega)]
  exact ij (by simp)
 ·intro m;simp only [xq,FX,NX,apW,apK,apM,e2,aD]
def qu(l:List bd):Bool:=(allI l.length λi=>iQ (l.getD i default).Key && !decide ((l.getD i default).Count<1) && !decide (1099511627776<(l.getD i default).Count)&&(!decide (0<(i:Int))||Op.bytesLess (l.getD (pv i) default).Key (l.getD i default).Key))&&decide (((l.length:Nat):Int)≤32)
theorem alT{l:List bd}(ag:l.length<n):FB n l=some (qu l):=by
 unfold FB qu;rw [hZ (L:=xc n l) (no:=false) (yes:=decide (((l.length:Nat):Int)≤32)) ag,qt]
 ·intro m i hi;simp only [xc,FA,apS,hi,apJ,apL,cr hi,bg,aD,apR,dw (show i≤9223372036854775806 by omega),HT (show 24<n by omega),lq hi (show l.length≤9223372036854775807 by omega)]
  exact ij (by simp only [eb,e4,Bool.not_and,Bool.not_or,Bool.not_not])
 ·intro m;simp only [xc,FA,Np,apW,apK,apM]
theorem alU{l:List bd}(ag:l.length<n)(h:∀i,(l.getD i default).Key.length<n):Gd n l=some (qu l):=by
 unfold Gd qu;rw [hZ (L:=xA n l) (no:=false) (yes:=decide (((l.length:Nat):Int)≤32)) ag,qt]
 ·intro m i hi;have Z:=h i;simp only [xA,Gc,apS,hi,apJ,apL,cr hi,bg,aD,apR,dw (show i≤9223372036854775806 by omega),HU (show(l.getD i default).Key.length<n by omega) (by omega),yo hi,alN hi,lq hi (show l.length≤9223372036854775807 by omega),apX]
  exact ij (by simp only [eb,e4,Bool.not_and,Bool.not_or,Bool.not_not,←sO])
 ·intro m;simp only [xA,Gc,Oy,apW,apK,apM]
def ps(l:List ap0):Bool:=(allI l.length λi=>iQ (l.getD i default)&&(!decide (0<(i:Int))||Op.bytesLess (l.getD (pv i) default) (l.getD i default)))
theorem aaI{l:List ap0}(ag:l.length<n):zL n l=some (ps l&&decide (((l.length:Nat):Int)≤64)):=by
 unfold zL ps;rw [hZ (L:=wD n l) (no:=false) (yes:=decide (((l.length:Nat):Int)≤64)) ag,qt]
 ·intro m i hi;simp only [wD,Eh,apS,hi,apJ,apL,cr hi,bg,aD,apR,dw (show i≤9223372036854775806 by omega),HT (show 24<n by omega),lq hi (show l.length≤9223372036854775807 by omega)]
  exact ij (by simp only [eb,e4,Bool.not_and,Bool.not_or,Bool.not_not,←sO])
 ·intro m;simp only [wD,Eh,KR,apW,apK,apM]
theorem aaJ{l:List ap0}(ag:l.length<n)(h:∀i,(l.getD i default).length<n):Bi n l=some (ps l):=by
 unfold Bi ps;rw [hZ (L:=xL n l) (no:=false) (yes:=true) ag,lU]
 ·intro m i hi;have Z:=h i;simp only [xL,GK,apS,hi,apJ,apL,cr hi,bg,aD,apR,dw (show i≤9223372036854775806 by omega),HU (show(l.getD i default).length<n by omega) (by omega),yo hi,lq hi (show l.length≤9223372036854775807 by omega),apX]
  exact ij (by simp only [eb,e4,Bool.not_and,Bool.not_or,Bool.not_not])
 ·intro m;simp only [xL,GK,Pn,apW,apK,apM]
def qv(f:e9):Bool:=bif f.dV then decide (f.Reads.length=0)&&decide (f.co.length=0) else(ps f.Reads&&decide (f.Reads.length≤64))&&(ps f.co&&decide (f.co.length≤64))
theorem alV{f:e9}(Z:f.Reads.length<n)(af:f.co.length<n):zM n f=some (qv f):=by
 unfold zM qv;rw [aaI hn bB Z,aaI hn bB af];simp only [aD,i7,lp,e4];cases f.dV
 ·simp only [apM];cases ps f.Reads&&decide (f.Reads.length≤64)<;>rfl
 ·rfl
theorem alW{f:e9}(Z:f.Reads.length<n)(af:f.co.length<n)(au:∀i,(f.Reads.getD i default).length<n)(aQ:∀i,(f.co.getD i default).length<n):Bj n f=some (qv f):=by
 unfold Bj qv;rw [aaJ hn bB Z au,aaJ hn bB af aQ];simp only [i7,lp,e4];cases f.dV
 ·simp only [apM];cases decide (f.Reads.length≤64)<;>cases decide (f.co.length≤64)<;>cases ps f.Reads<;>cases ps f.co<;>rfl
 ·rfl
end
def nE(c b:Bool):(bif c then some b else some default)=some (c&&b):=by cases c<;>rfl
def aaK{l:Nat}{b:Bool}:(b||decide (l<1)||decide (16<l)||aP 0 l)=true:=by
 by_cases h:l<1
 ·rw [decide_eq_true h];simp
 ·rw [sD (by omega)];simp
def aaL{α:Type}(l:List α)(d:α){i k:Nat}(h:k<i):(l.take i).getD k d=l.getD k d:=by
 simp [List.getD_eq_getElem?_getD,List.getElem?_take,h]
section
variable {n:Nat} (hn:2000≤n) (bB:n≤9223372036854775808)
include hn bB
def oq(l:List bG):Bool:=allI l.length λi=>js (l.getD i default) && !decide ((l.getD i default).Kind=0)
def qw(r:Request):Int:=
 bif (((decide (r.Client<1)||decide (32<r.Client))||decide (r.Seq<1))||decide (1099511627776<r.Seq))then 1 else
 bif !gF r.bi then 7 else
 bif decide (6<r.aw.length)then 2 else
 bif !oq r.aw then 1 else
 bif ((!qv r.bp||r.bp.dV)||(!r.dX&&decide (0<r.bp.Reads.length+r.bp.co.length)))then 1 else 0
structure sP(n:Nat)(r:Request):Prop where
 proc:r.bi.length≤1000
 args:r.aw.length<n
 vals:∀i,(r.aw.getD i default).S.length<n
 H2:r.bp.Reads.length<n
 H3:r.bp.co.length<n
 ry:r.bp.Reads.length≤1000000
 wl:r.bp.co.length≤1000000
 rd:∀i,(r.bp.Reads.getD i default).length<n
 wr:∀i,(r.bp.co.getD i default).length<n
theorem aaM{r:Request}(h:sP n r):o0 n r=some (qw r):=by
 have Z:=h.proc;have af:=h.args
 obtain⟨c,e1,e2⟩:=Q9 (L:=wE n r.aw) (len:=r.aw.length) (p:=λi=>!(js (r.aw.getD i default) && !decide ((r.aw.getD i default).Kind=0))) af (by
  intro m i hi;have:=h.vals i
  simp only [wE,Ei,KU,apS,hi,apJ,apL,cr hi,bg,apR,dw (show i≤9223372036854775806 by omega),HV (show(r.aw.getD i default).S.length<n by omega) (by omega),nE,aD]
  cases js (r.aw.getD i default)<;>cases decide ((r.aw.getD i default).Kind=0)<;>rfl) (by
  intro m;simp only [wE,Ei,KV,apW,apK,apM])
 have e3:(allI r.aw.length λi=>!!(js (r.aw.getD i default) && !decide ((r.aw.getD i default).Kind=0)))=oq r.aw:=by simp only [Bool.not_not];rfl
 rw [e3]at e2;unfold o0 KX KW qw;rw [B8 n _ (by omega),e1,show zM n ⟨r.bp.dV,r.bp.Reads,r.bp.co⟩=_ from alV hn bB (f:=r.bp) h.H2 h.H3]
 have au:=h.H2;have aQ:=h.H3;have vH:=h.ry;have alX:=h.wl;have h3:ap2 (((r.bp.Reads.length:Nat):Int)+((r.bp.co.length:Nat):Int))=((r.bp.Reads.length+r.bp.co.length:Nat):Int):=by rw [wr]<;>omega
 simp only [aD,e2,h3,eb,e4,fm];cases ((decide (r.Client<1)||decide (32<r.Client))||decide (r.Seq<1))||decide (1099511627776<r.Seq)<;>cases gF r.bi<;>cases decide (6<r.aw.length)<;>cases oq r.aw<;>cases ((!qv r.bp||r.bp.dV)||(!r.dX&&decide (0<r.bp.Reads.length+r.bp.co.length)))<;>rfl
theorem aaN{r:Request}(h:sP n r):qh n r=some (qw r):=by
 have Z:=h.proc;have af:=h.args;have au:=h.H2;have aQ:=h.H3;have vH:=h.ry;have alX:=h.wl;have h3:ap2 (((r.bp.Reads.length:Nat):Int)+((r.bp.co.length:Nat):Int))=((r.bp.Reads.length+r.bp.co.length:Nat):Int):=by rw [wr]<;>omega
 have e1:uS n r n 0=some (if oq r.aw then(bif ((!qv r.bp||r.bp.dV)||(!r.dX&&decide (0<r.bp.Reads.length+r.bp.co.length)))then 1 else 0)else 1):=by
  refine hZ (L:=uS n r) af ?_ ?_
  ·intro m i hi;have:=h.vals i
   simp only [uS,GL,apS,hi,apJ,apL,cr hi,bg,apR,dw (show i≤9223372036854775806 by omega),HW (show(r.aw.getD i default).S.length<n by omega) (by omega),aD,apX]
   exact ij (by simp only [eb,e4,Bool.not_and,Bool.not_or,Bool.not_not])
  ·intro m;simp only [uS,GL,Po,apW,apK,apM];rw [show Bj n ⟨r.bp.dV,r.bp.Reads,r.bp.co⟩=_ from alW hn bB (f:=r.bp) h.H2 h.H3 h.rd h.wr]
   simp only [aD,h3,eb,e4,fm];cases ((!qv r.bp||r.bp.dV)||(!r.dX&&decide (0<r.bp.Reads.length+r.bp.co.length)))<;>rfl
 unfold qh qw;rw [B7 _ (by omega) (by omega) (by omega),e1]
 simp only [aD,eb,e4,fm];cases ((decide (r.Client<1)||decide (32<r.Client))||decide (r.Seq<1))||decide (1099511627776<r.Seq)<;>cases gF r.bi<;>cases decide (6<r.aw.length)<;>cases oq r.aw<;>rfl
def H4(c:UInt8):Bool:=!(decide (c.toNat<33)||decide (126<c.toNat))
def mn(s:ap0):Bool:=(allI s.length λi=>H4 (s.getD i 0))&&decide (s.length≤24)
theorem aaO{s:ap0}(hs:s.length<n):As n s=some (mn s):=by
 unfold As mn;rw [hZ (L:=w7 n s) (no:=false) (yes:=decide (s.length≤24)) hs,qt]
 ·intro m i hi;simp only [w7,Fe,apS,hi,apJ,apL,cr hi,bg,apR,dw (show i≤9223372036854775806 by omega),apX,rj,fm]
  exact ij (by simp only [eb,H4,Bool.not_not])
 ·intro m;simp only [w7,Fe,L6,apW,apK,apM,lp]
theorem aaP{s:ap0}(hs:s.length<n):A1 n s=some (mn s):=by
 unfold A1 mn;rw [hZ (L:=xy n s) (chk:=λi=>H4 (s.getD i 0)) (no:=false) (yes:=true) hs,lU]
 ·simp only [fm];by_cases h:s.length≤24
  ·simp only [h,show¬ 24<s.length by omega,apJ,apK,apM,Bool.and_true]
  ·simp only [h,show 24<s.length by omega,apJ,apK,apL,Bool.and_false]
 ·intro m i hi;simp only [xy,F9,apS,hi,apJ,apL,cr hi,bg,apR,dw (show i≤9223372036854775806 by omega),apX,rj,fm]
  exact ij (by simp only [eb,H4,Bool.not_not])
 ·intro m;simp only [xy,F9,Ov,apW,apK,apM]
def qx(n:Int):Bool:=decide (1≤n)&&decide (n≤16)
def Q'(n:Int):Bool:=decide (1≤n)&&decide (n≤1099511627776)
def qy(l:List Part)(i:Nat):Bool:=
 let x:=l.getD i default
 bif decide (x.fy=0)then decide (x.dE=[]) else((((qx x.fy && !decide (x.fy=x.Node))&&mn x.dE) && !Op.bytesLess x.dE x.dO)&&(decide (i+1=l.length)||Op.bytesLess x.dE (l.getD (i+1) default).dO))
def sQ(l:List Part)(i:Nat):Bool:=
 let x:=l.getD i default
 (!decide (0<(i:Int))||(mn x.dO&&Op.bytesLess (l.getD (pv i) default).dO x.dO))&&(((Q' x.Id&&qx x.Node)&&qy l i)&&allI i λk=>!decide ((l.getD k default).Id=x.Id))
def ot(p:b1):Bool:=!((((decide (p.Version<0)||decide (1099511627776<p.Version))||decide (p.aF.length<1))||decide (16<p.aF.length)) || !decide ((p.aF.getD 0 default).dO=[]))&&allI p.aF.length (sQ p.aF)
def qz(n:Nat)(x:Part):Prop:=x.dO.length<n∧x.dE.length<n
theorem alY{l:List Part}(ag:l.length<n){i:Nat}(hi:i<l.length)(h:∀i,qz n (l.getD i default)):Fg n l (i:Int)=some (qy l i):=by
 unfold Fg At qy;have Z:=(h i).2
 (rw [cr hi,bg];simp only [apR];rw [aaO hn bB (by omega),dw (by omega)])
 simp only [aD,e4,eb,nE,Int.ofNat_inj,show(decide (1≤(l.getD i default).fy)&&decide ((l.getD i default).fy≤16))=qx (l.getD i default).fy from rfl]
 cases decide ((l.getD i default).fy=0)
 ·simp only [apM];by_cases e:i+1=l.length
  ·simp only [e,apJ,Bool.true_or,apX,bg];cases qx (l.getD i default).fy<;>cases decide ((l.getD i default).fy=(l.getD i default).Node)<;>rfl
  ·rw [cr (show i+1<l.length by omega)]
   simp only [e,apR,apK,Bool.false_or,apX,bg];cases qx (l.getD i default).fy<;>cases decide ((l.getD i default).fy=(l.getD i default).Node)<;>rfl
 ·rfl
theorem alZ{p:b1}(ag:p.aF.length<n)(h:∀i,qz n (p.aF.getD i default)):Au n p=some (ot p):=by
 have e1:ut n p n 0=some (allI p.aF.length (sQ p.aF)):=by
  rw [hZ (L:=ut n p) (chk:=sQ p.aF) (no:=false) (yes:=true) ag,lU]
  ·intro m i hi;have Z:=h i;have af:=Z.1;have c':(p.aF.take i).length<n:=by simp;omega
   obtain⟨c,f1,f2⟩:=Q9 (L:=w8 n (p.aF.take i) (p.aF.getD i default).Id) (len:=(p.aF.take i).length) (p:=λk=>decide (((p.aF.take i).getD k default).Id=(p.aF.getD i default).Id)) c' (by
    intro m k hk;have lE:k≤9223372036854775806:=by omega
    simp only [w8,Ff,L7,apS,hk,apJ,apL,cr hk,bg,aD,apR,dw lE];cases decide (((p.aF.take i).getD k default).Id=(p.aF.getD i default).Id)<;>rfl) (by
    intro m;simp only [w8,Ff,L8,apW,apK,apM])
   have f3:(allI (p.aF.take i).length λk=>!decide (((p.aF.take i).getD k default).Id=(p.aF.getD i default).Id))=allI i λk=>!decide ((p.aF.getD k default).Id=(p.aF.getD i default).Id):=by
    rw [show(p.aF.take i).length=i by simp;omega,Bool.eq_iff_iff,kl,kl]
    constructor
    ·intro g k hk;have:=g k hk;rwa [aaL _ _ hk]at this
    ·intro g k hk;have:=g k hk;rwa [aaL _ _ hk]
   rw [f3]at f2;simp only [ut,Fh,L',L9,L_,At,apS,hi,apJ,apL,cr hi,bg,aD,apR,dw (show i≤9223372036854775806 by omega),aaO hn bB (show(p.aF.getD i default).dO.length<n by omega),nE,f1,alY hn bB ag hi h,Zt (Nat.le_of_lt hi),apX]
   have g1:(!decide (0<(i:Int))||(!(decide (0<(i:Int))&&mn (p.aF.getD i default).dO)||aP (ap2 ((i:Int)-1)) p.aF.length))=true:=by
    have:=lq (b:=!(decide (0<(i:Int))&&mn (p.aF.getD i default).dO)) hi (show p.aF.length≤9223372036854775807 by omega)
    rw [←this];cases decide (0<(i:Int))<;>simp
   simp only [g1,bg,←sO,eb,e4];unfold sQ Q' qx;simp only
   cases hd:decide (0<(i:Int))
   ·simp only [Bool.false_and,apM,apO,Bool.true_or,Bool.true_and];cases (decide (1≤(p.aF.getD i default).Id)&&decide ((p.aF.getD i default).Id≤1099511627776))
    ·rfl
    ·cases (decide (1≤(p.aF.getD i default).Node)&&decide ((p.aF.getD i default).Node≤16))
     ·rfl
     ·cases qy p.aF i
      ·rfl
      ·simp only [apN,Bool.or_self,apO,apL,aD,f2,Bool.false_or,Bool.true_and];exact ij rfl
   ·simp only [Bool.true_and,apL,apN,Bool.false_or];cases mn (p.aF.getD i default).dO
    ·rfl
    ·cases Op.bytesLess (p.aF.getD (pv i) default).dO (p.aF.getD i default).dO
     ·rfl
     ·cases (decide (1≤(p.aF.getD i default).Id)&&decide ((p.aF.getD i default).Id≤1099511627776))
      ·rfl
      ·cases (decide (1≤(p.aF.getD i default).Node)&&decide ((p.aF.getD i default).Node≤16))
       ·rfl
       ·cases qy p.aF i
        ·rfl
        ·simp only [apN,Bool.or_self,apO,apL,apM,aD,f2,Bool.false_or,Bool.true_and];exact ij rfl
  ·intro m;simp only [ut,Fh,Ma,apW,apK,apM]
 unfold Au ot;rw [e1];simp only [eb,rj,fm,aaK,bg];cases (((decide (p.Version<0)||decide (1099511627776<p.Version))||decide (p.aF.length<1))||decide (16<p.aF.length)) || !decide ((p.aF.getD 0 default).dO=[])<;>rfl
end
def al0{β:Type}{L:Nat→Int→Option β}{len:Nat}{chk:Nat→Bool}{no:β}{yes:Option β}
 (step:∀m i,i<len→L (m+1) (i:Int)=if chk i then L m ((i+1:Nat):Int)else some no) (stop:∀m,L (m+1) (len:Int)=yes):
 ∀m i,len<i+m→i≤len→L m (i:Int)=if(List.range' i (len-i)).all chk then yes else some no:=by
 intro m;induction m with
 |zero=>intro i h af;omega
 |succ m bc=>
  intro i h af;by_cases hi:i<len
  ·rw [step m i hi,bc (i+1) (by omega) (by omega),show len-i=(len-(i+1))+1 by omega,List.range'_succ,List.all_cons]
   cases chk i
   ·rfl
   ·rw [if_pos rfl,Bool.true_and]
  ·obtain rfl:i=len:=by omega
   rw [stop m];simp
def al1{β:Type}{L:Nat→Int→Option β}{len:Nat}{chk:Nat→Bool}{no:β}{yes:Option β}{m:Nat}(hm:len<m)
 (step:∀m i,i<len→L (m+1) (i:Int)=if chk i then L m ((i+1:Nat):Int)else some no) (stop:∀m,L (m+1) (len:Int)=yes):
 L m 0=if allI len chk then yes else some no:=by
 have:=al0 step stop m 0 (by omega) (by omega)
 rwa [Nat.sub_zero,←List.range_eq_range']at this
section
variable {n:Nat} (hn:2000≤n) (bB:n≤9223372036854775808)
include hn bB
theorem al2{l:List Part}{i:Nat}(hi:i<l.length)(h:∀i,qz n (l.getD i default))(fc:ap0)(hnx:i+1<l.length→fc=(l.getD (i+1) default).dO):
 F' n (l.getD i default) fc (decide (((i+1:Nat):Int)=((l.length:Nat):Int)))=some (qy l i):=by
 unfold F' qy;have Z:=(h i).2;rw [aaP hn bB (by omega)]
 simp only [nE,aD,e4,eb,Int.ofNat_inj,show(decide (1≤(l.getD i default).fy)&&decide ((l.getD i default).fy≤16))=qx (l.getD i default).fy from rfl]
 cases decide ((l.getD i default).fy=0)
 ·simp only [apM];by_cases e:i+1=l.length
  ·simp only [e,apJ,Bool.true_or];cases qx (l.getD i default).fy<;>cases decide ((l.getD i default).fy=(l.getD i default).Node)<;>cases mn (l.getD i default).dE<;>rfl
  ·rw [hnx (by omega)]
   simp only [e,apK,Bool.false_or];cases qx (l.getD i default).fy<;>cases decide ((l.getD i default).fy=(l.getD i default).Node)<;>cases mn (l.getD i default).dE<;>rfl
 ·rfl
theorem aaQ{p:b1}(ag:p.aF.length<n)(h:∀i,qz n (p.aF.getD i default))(h0:(p.aF.getD 0 default).dO=[])(al:Int→ap4){i:Nat}(hi:i<p.aF.length)(fc:ap0)(hnx:i+1<p.aF.length→fc=(p.aF.getD (i+1) default).dO):
 A2 n al p (i:Int) fc=if sQ p.aF i then al ((i+1:Nat):Int)else some false:=by
 have Z:=(h i).1
 have tA:uL n al p (i:Int) n 0=if(allI i λk=>!decide ((p.aF.getD k default).Id=(p.aF.getD i default).Id))then al ((i+1:Nat):Int)else some false:=by
  refine al1 (L:=uL n al p (i:Int)) (by omega) ?_ ?_
  ·intro m k hk;have lE:k<p.aF.length:=by omega
   simp only [uL,F_,apS,hk,apJ,apL,cr lE,bg,apR,dw (show k≤9223372036854775806 by omega)]
   exact ij (by rw [Bool.not_not])
  ·intro m;simp only [uL,F_,Ox,apW,apK,apM,dw (show i≤9223372036854775806 by omega)]
 unfold A2
 (simp only [apR];rw [aaP hn bB (by omega),aD,lq hi (by omega),bg,dw (by omega),al2 hn bB hi h fc hnx,nE,aD,tA])
 simp only [eb,e4,←sO];unfold sQ Q' qx;simp only
 have g0:(decide (0<(i:Int)))=false→mn (p.aF.getD i default).dO=true:=by
  intro e;obtain rfl:i=0:=by have:=of_decide_eq_false e;omega
  rw [h0];rfl
 have c1:decide ((p.aF.getD i default).Id<1) = !decide (1≤(p.aF.getD i default).Id):=by
  by_cases g:(p.aF.getD i default).Id<1
  ·rw [decide_eq_true g,decide_eq_false (by omega)];rfl
  ·rw [decide_eq_false g,decide_eq_true (by omega)];rfl
 have c2:decide (1099511627776<(p.aF.getD i default).Id) = !decide ((p.aF.getD i default).Id≤1099511627776):=by
  by_cases g:(1099511627776<(p.aF.getD i default).Id)
  ·rw [decide_eq_true g,decide_eq_false (by omega)];rfl
  ·rw [decide_eq_false g,decide_eq_true (by omega)];rfl
 have c3:decide ((p.aF.getD i default).Node<1) = !decide (1≤(p.aF.getD i default).Node):=by
  by_cases g:(p.aF.getD i default).Node<1
  ·rw [decide_eq_true g,decide_eq_false (by omega)];rfl
  ·rw [decide_eq_false g,decide_eq_true (by omega)];rfl
 have c4:decide (16<(p.aF.getD i default).Node) = !decide ((p.aF.getD i default).Node≤16):=by
  by_cases g:(16<(p.aF.getD i default).Node)
  ·rw [decide_eq_true g,decide_eq_false (by omega)];rfl
  ·rw [decide_eq_false g,decide_eq_true (by omega)];rfl
 rw [c1,c2,c3,c4,←apV,←apV];generalize (allI i λk=>!decide ((p.aF.getD k default).Id=(p.aF.getD i default).Id))=z
 cases hd:decide (0<(i:Int))
 ·rw [g0 hd];cases decide (1≤(p.aF.getD i default).Id)<;>cases decide ((p.aF.getD i default).Id≤1099511627776)<;>cases decide (1≤(p.aF.getD i default).Node)<;>cases decide ((p.aF.getD i default).Node≤16)<;>cases qy p.aF i<;>cases z<;>rfl
 ·cases mn (p.aF.getD i default).dO<;>cases Op.bytesLess (p.aF.getD (pv i) default).dO (p.aF.getD i default).dO<;>cases decide (1≤(p.aF.getD i default).Id)<;>cases decide ((p.aF.getD i default).Id≤1099511627776)<;>cases decide (1≤(p.aF.getD i default).Node)<;>cases decide ((p.aF.getD i default).Node≤16)<;>cases qy p.aF i<;>cases z<;>rfl
theorem al3{p:b1}(ag:p.aF.length<n)(h:∀i,qz n (p.aF.getD i default)):Gb n p=some (ot p):=by
 unfold Gb ot;simp only [eb,rj,fm,aaK,bg];cases h0:(((decide (p.Version<0)||decide (1099511627776<p.Version))||decide (p.aF.length<1))||decide (16<p.aF.length)) || !decide ((p.aF.getD 0 default).dO=[])
 ·have aaR:(p.aF.getD 0 default).dO=[]:=by
   simp only [Bool.or_eq_false_iff,Bool.not_eq_false',decide_eq_true_eq]at h0;exact h0.2
  rw [apM];rw [hZ (L:=xz n p) (chk:=sQ p.aF) (no:=false) (yes:=true) ag,lU]
  ·rfl
  ·intro m i hi;simp only [xz,Ga,apS,hi,apJ,apL,cr hi,bg,dw (show i≤9223372036854775806 by omega)]
   by_cases e:i+1<p.aF.length
   ·rw [cr e];simp only [e,apJ,apL,bg,apR];exact aaQ hn bB ag h aaR _ hi _ (λ_=>rfl)
   ·simp only [e,apK,apM];exact aaQ hn bB ag h aaR _ hi _ (λg=>absurd g e)
  ·intro m;simp only [xz,Ga,Ow,apW,apK,apM]
 ·rfl
def sR(o:Outcome):Bool:=bif decide (o.Status=1) then(decide (o.Code=0)&&decide (o.Out.length≤16))&&oq o.Out else((decide (o.Status=2)&&decide (0≤o.Code))&&decide (o.Code≤1009))&&decide (o.Out.length=0)
structure yq(n:Nat)(o:Outcome):Prop where
 out:o.Out.length<n
 vals:∀i,(o.Out.getD i default).S.length<n
theorem al4{o:Outcome}(h:yq n o):Aj n o=some (sR o):=by
 have Z:=h.out
 have e1:uj n o n 0=some (oq o.Out):=by
  rw [hZ (L:=uj n o) (no:=false) (yes:=true) Z,lU]
  ·rfl
  ·intro m i hi;have:=h.vals i
   simp only [uj,EX,apS,hi,apJ,apL,cr hi,bg,apR,dw (show i≤9223372036854775806 by omega),HV (show(o.Out.getD i default).S.length<n by omega) (by omega),aD]
   exact ij (by simp only [eb,Bool.not_and,Bool.not_not])
  ·intro m;simp only [uj,EX,LN,apW,apK,apM]
 unfold Aj LM sR;rw [e1];simp only [eb,e4,fm,i7];cases decide (o.Status=1)
 ·simp only [apM];cases decide (o.Status=2)<;>rfl
 ·simp only [apL];by_cases g:o.Out.length≤16
  ·simp only [show¬ 16<o.Out.length by omega,g,apJ,apK]
   cases decide (o.Code=0)<;>rfl
  ·simp only [show 16<o.Out.length by omega,g,apJ,apK,apX,apL,Bool.and_false,Bool.false_and]
theorem al5{o:Outcome}(h:yq n o):A3 n o=some (sR o):=by
 have Z:=h.out
 have e1:uM n o.Out n 0=some (oq o.Out&&decide (o.Out.length≤16)):=by
  rw [hZ (L:=uM n o.Out) (chk:=λi=>js (o.Out.getD i default) && !decide ((o.Out.getD i default).Kind=0)) (no:=false) (yes:=decide (o.Out.length≤16)) Z,qt]
  ·rfl
  ·intro m i hi;have:=h.vals i
   simp only [uM,Ge,apS,hi,apJ,apL,cr hi,bg,apR,dw (show i≤9223372036854775806 by omega),HW (show(o.Out.getD i default).S.length<n by omega) (by omega),aD,apX]
   exact ij (by simp only [eb,Bool.not_and,Bool.not_not])
  ·intro m;simp only [uM,Ge,Oz,apW,apK,apM,lp]
 unfold A3 OA sR;rw [e1,nE,aD];simp only [e4,i7];cases decide (o.Status=1)
 ·rfl
 ·simp only [apL];cases decide (o.Code=0)<;>cases decide (o.Out.length≤16)<;>cases oq o.Out<;>rfl
def lV(fc:Int):Int:=bif (decide ((ap2 (fc-1))<8)) then(ap2 (fc-1))else 8
def vm(s:bV):Bool:=((decide (s.Client<1)||decide (32<s.Client))||decide (s.Next<1))||decide (1099511627776<s.Next)
omit hn bB in
theorem Q_{s:bV}(h:vm s=false):1≤s.Client∧s.Client≤32∧1≤s.Next∧s.Next≤1099511627776:=by
 simp only [vm,Bool.or_eq_false_iff,decide_eq_false_iff_not]at h;omega
def yr(s:bV)(i:Nat):Bool:=(decide ((s.b'.getD i default).Client=s.Client)&&decide ((s.b'.getD i default).Seq=s.Next-(s.b'.length:Int)+(i:Int)))&&sR (s.b'.getD i default).Outcome
def vn(s:bV):Bool:=(!vm s&&decide ((s.b'.length:Int)=lV s.Next))&&allI s.b'.length (yr s)
structure rz(n:Nat)(s:bV):Prop where
 rep:s.b'.length<n
 out:∀i,yq n (s.b'.getD i default).Outcome
theorem al6{s:bV}(h:rz n s):EZ n s=some (vn s):=by
 have Z:=h.rep;unfold EZ EW vn;simp only [eb];rw [show(((decide (s.Client<1)||decide (32<s.Client))||decide (s.Next<1))||decide (1099511627776<s.Next))=vm s from rfl]
 cases d9:vm s
 ·have hb:=Q_ d9;simp only [apO,apL,aD,Bool.false_or,Bool.true_and];rw [show(bif (decide ((ap2 (s.Next-1))<8)) then(ap2 (s.Next-1))else 8)=lV s.Next from rfl]
  rw [hZ (L:=wW n s) (chk:=yr s) (no:=false) (yes:=true) Z,lU]
  ·cases decide ((s.b'.length:Int)=lV s.Next)<;>rfl
  ·intro m i hi;simp only [wW,EY,apS,hi,apJ,apL,cr hi,bg,apR,dw (show i≤9223372036854775806 by omega)]
   rw [show Aj n (⟨((s.b'.getD i default).Outcome).Status,((s.b'.getD i default).Outcome).Code,((s.b'.getD i default).Outcome).Out⟩:Outcome)=_ from al4 hn bB (h.out i),nE,aD,wr (x:=s.Next-((s.b'.length:Nat):Int)) (by omega) (by omega),wr (x:=s.Next-((s.b'.length:Nat):Int)+(i:Int)) (by omega) (by omega)]
   refine ij ?_;unfold yr;simp only [eb,Bool.and_true,Bool.not_not];cases decide ((s.b'.getD i default).Client=s.Client)<;>cases decide ((s.b'.getD i default).Seq=s.Next-(s.b'.length:Int)+(i:Int))<;>rfl
  ·intro m;simp only [wW,EY,LO,apW,apK,apM]
 ·rfl
theorem al7{s:bV}(h:rz n s):Gg n s=some (vn s):=by
 have Z:=h.rep;unfold Gg OB vn;simp only [eb];rw [show(((decide (s.Client<1)||decide (32<s.Client))||decide (s.Next<1))||decide (1099511627776<s.Next))=vm s from rfl]
 cases d9:vm s
 ·have hb:=Q_ d9;simp only [apO,apL,aD,Bool.false_or,Bool.true_and];rw [show(bif (decide ((ap2 (s.Next-1))<8)) then(ap2 (s.Next-1))else 8)=lV s.Next from rfl]
  rw [hZ (L:=xB n s) (chk:=yr s) (no:=false) (yes:=true) Z,lU]
  ·cases decide ((s.b'.length:Int)=lV s.Next)<;>rfl
  ·intro m i hi;simp only [xB,Gf,apS,hi,apJ,apL,cr hi,bg,apR,dw (show i≤9223372036854775806 by omega)]
   rw [show A3 n (⟨((s.b'.getD i default).Outcome).Status,((s.b'.getD i default).Outcome).Code,((s.b'.getD i default).Outcome).Out⟩:Outcome)=_ from al5 hn bB (h.out i),nE,aD,wr (x:=((s.b'.length:Nat):Int)-(i:Int)) (by omega) (by omega),show s.Next-(((s.b'.length:Nat):Int)-(i:Int))=s.Next-((s.b'.length:Nat):Int)+(i:Int)by omega,wr (x:=s.Next-((s.b'.length:Nat):Int)+(i:Int)) (by omega) (by omega)]
   refine ij ?_;unfold yr;simp only [eb,Bool.and_true,Bool.not_not];cases decide ((s.b'.getD i default).Client=s.Client)<;>cases decide ((s.b'.getD i default).Seq=s.Next-(s.b'.length:Int)+(i:Int))<;>rfl
  ·intro m;simp only [xB,Gf,OC,apW,apK,apM]
 ·rfl
def pt(l:List bV):Bool:=allI l.length λi=>vn (l.getD i default)&&(!decide (0<(i:Int)) || !decide ((l.getD i default).Client≤(l.getD (pv i) default).Client))
theorem aaS{l:List bV}(ag:l.length<n)(h:∀i,rz n (l.getD i default)):sf n l=some (pt l):=by
 unfold sf pt;rw [hZ (L:=wX n l) (no:=false) (yes:=true) ag,lU]
 ·intro m i hi;simp only [wX,E0,apS,hi,apJ,apL,cr hi,bg,apR,dw (show i≤9223372036854775806 by omega),al6 hn bB (h i),aD,lq hi (show l.length≤9223372036854775807 by omega)]
  exact ij (by simp only [eb,e4,Bool.not_and,Bool.not_or,Bool.not_not])
 ·intro m;simp only [wX,E0,LP,apW,apK,apM]
theorem aaT{l:List bV}(ag:l.length<n)(h:∀i,rz n (l.getD i default)):uN n l=some (pt l):=by
 unfold uN pt;rw [hZ (L:=xC n l) (no:=false) (yes:=true) ag,lU]
 ·intro m i hi;simp only [xC,Gh,apS,hi,apJ,apL,cr hi,bg,apR,dw (show i≤9223372036854775806 by omega),al7 hn bB (h i),aD,yo hi,lq hi (show l.length≤9223372036854775807 by omega),apX]
  exact ij (by simp only [eb,e4,Bool.not_and,Bool.not_or,Bool.not_not])
 ·intro m;simp only [xC,Gh,OD,apW,apK,apM]
end
def aaU{β:Type}{c d k:Bool}{x y:β}(h:k=(!c && !d)):(bif c then x else(bif d then x else y))=if k then y else x:=by subst h;cases c<;>cases d<;>rfl
def al8{α σ R:Type}[Inhabited α]{l:List α}{g:σ→α→σ}{I:Nat→σ→Prop}{L:Nat→σ→Int→Option R}{fin:σ→Option R}
 (step:∀m acc i,i<l.length→I i acc→L (m+1) acc (i:Int)=L m (g acc (l.getD i default)) ((i+1:Nat):Int)∧I (i+1) (g acc (l.getD i default)))
 (stop:∀m acc,I l.length acc→L (m+1) acc (l.length:Int)=fin acc):
 ∀m i acc,l.length<i+m→i≤l.length→I i acc→L m acc (i:Int)=fin ((l.drop i).foldl g acc):=by
 intro m;induction m with
 |zero=>intro i acc h af;omega
 |succ m bc=>
  intro i acc h af n1;by_cases hi:i<l.length
  ·obtain⟨au,aQ⟩:=step m acc i hi n1;rw [au,bc (i+1) _ (by omega) (by omega) aQ,gE l i default hi,List.foldl_cons]
  ·obtain rfl:i=l.length:=by omega
   rw [stop m acc n1,List.drop_of_length_le (Nat.le_refl _)];rfl
def aaV{α σ R:Type}[Inhabited α]{l:List α}{g:σ→α→σ}{I:Nat→σ→Prop}{L:Nat→σ→Int→Option R}{fin:σ→Option R}{m:Nat}(hm:l.length<m){acc:σ}(h0:I 0 acc)
 (step:∀m acc i,i<l.length→I i acc→L (m+1) acc (i:Int)=L m (g acc (l.getD i default)) ((i+1:Nat):Int)∧I (i+1) (g acc (l.getD i default)))
 (stop:∀m acc,I l.length acc→L (m+1) acc (l.length:Int)=fin acc):L m acc 0=fin (l.foldl g acc):=
 al8 step stop m 0 acc (by omega) (by omega) h0
def fold_map{α β:Type}(f:α→β):∀(l:List α) (acc:List β),l.foldl (λa x=>a++[f x]) acc=acc++l.map f
 |[],acc=>by simp
 |x::l,acc=>by rw [List.foldl_cons,fold_map f l];simp
def H5{m k:Nat}(h:m*k≤140737488355328):room m k=true:=by simp [room];exact h
def al9{α:Type}[Inhabited α]{l:List α}{i:Nat}(h:i<l.length):l.getD i default∈l:=by
 rw [List.getD_eq_getElem?_getD,List.getElem?_eq_getElem h];exact List.getElem_mem h
section
variable {n:Nat} (hn:2000≤n) (bB:n≤9223372036854775808)
include hn bB
def Ra(a b:bG):Bool:=decide (a.Kind=b.Kind)&&(decide (a.N=b.N)&&(decide (a.S=b.S)&&true))
def vo(r:Row)(floor last:Int)(i:Nat):Bool:=
 ((!decide ((r.br.getD i default).cd<floor) && !decide (last<(r.br.getD i default).cd))&&js (r.br.getD i default).bo) &&
 !(decide (0<(i:Int))&&(decide ((r.br.getD i default).cd≤(r.br.getD (pv i) default).cd)||Ra (r.br.getD i default).bo (r.br.getD (pv i) default).bo))
def qA(r:Row)(floor last:Int):Bool:=!(decide (r.br.length=0)||decide ((r.br.getD 0 default).bo.Kind=0))&&allI r.br.length (vo r floor last)
structure yt(n:Nat)(r:Row):Prop where
 key:r.Key.length<n
 Rb:r.br.length<n
 val:∀i,(r.br.getD i default).bo.S.length<n
omit hn bB in
theorem aaW{i len:Nat}{b:Bool}(hi:i<len)(ag:len≤9223372036854775807):(!(decide (0<(i:Int)))||(b||aP (ap2 ((i:Int)-1)) len))=true:=by
 have:=lq (b:=b) hi ag
 rw [←this];cases decide (0<(i:Int))<;>cases b<;>simp
omit hn bB in
theorem aaX{i len:Nat}(hi:i<len)(ag:len≤9223372036854775807):(!(decide (0<(i:Int)))||aP (ap2 ((i:Int)-1)) len)=true:=by
 have:=lq (b:=false) hi ag
 rw [Bool.false_or]at this;exact this
omit hn bB in
theorem aaY{l:Nat}:(decide (l=0)||aP 0 l)=true:=by
 by_cases h:l=0
 ·rw [decide_eq_true h];rfl
 ·rw [sD (by omega)];simp
theorem al'{r:Row}(h:yt n r)(floor last:Int):Ep n r floor last=some (qA r floor last):=by
 have Z:=h.Rb;unfold Ep qA;rw [hZ (L:=wJ n floor last r) (chk:=vo r floor last) (no:=false) (yes:=true) Z,lU]
 ·simp only [i7,aaY,bg,eb];cases decide (r.br.length=0)||decide ((r.br.getD 0 default).bo.Kind=0)<;>rfl
 ·intro m i hi;have af:=h.val i;simp only [wJ,Eo,apS,hi,apJ,apL,cr hi,bg,apR,dw (show i≤9223372036854775806 by omega),aaW hi (show r.br.length≤9223372036854775807 by omega),aaX hi (show r.br.length≤9223372036854775807 by omega)]
  rw [show q7 n (⟨((r.br.getD i default).bo).Kind,((r.br.getD i default).bo).N,((r.br.getD i default).bo).S⟩:bG)=_ from HV (v:=(r.br.getD i default).bo) (by omega) (by omega),nE,aD]
  refine aaU ?_;unfold vo;simp only [Ra,eb,e4,Bool.not_and,Bool.not_or,Bool.not_not];cases decide ((r.br.getD i default).cd<floor)<;>cases decide (last<(r.br.getD i default).cd)<;>cases js (r.br.getD i default).bo<;>rfl
 ·intro m;simp only [wJ,Eo,K3,apW,apK,apM]
theorem al_{r:Row}(h:yt n r)(floor last:Int):F2 n r floor last=some (iQ r.Key&&qA r floor last):=by
 have Z:=h.Rb;have h0:=h.key;unfold F2 qA;rw [HU (by omega) (by omega),aD]
 rw [hZ (L:=xu n floor last r) (chk:=vo r floor last) (no:=false) (yes:=true) Z,lU]
 ·have g:∀b:Bool,(b||decide (r.br.length=0)||aP 0 r.br.length)=true:=λb=>by rw [Bool.or_assoc,aaY];simp
  simp only [i7,eb,g,bg];cases iQ r.Key<;>cases decide (r.br.length=0)<;>cases decide ((r.br.getD 0 default).bo.Kind=0)<;>rfl
 ·intro m i hi;have af:=h.val i;simp only [xu,F1,N1,apS,hi,apJ,apL,cr hi,bg,apR,dw (show i≤9223372036854775806 by omega),aaW hi (show r.br.length≤9223372036854775807 by omega),aaX hi (show r.br.length≤9223372036854775807 by omega)]
  rw [show sl n (⟨((r.br.getD i default).bo).Kind,((r.br.getD i default).bo).N,((r.br.getD i default).bo).S⟩:bG)=_ from HW (v:=(r.br.getD i default).bo) (by omega) (by omega),aD,aD]
  refine aaU ?_;unfold vo;simp only [Ra,eb,e4,Bool.not_and,Bool.not_or,Bool.not_not];cases decide ((r.br.getD i default).cd<floor)<;>cases decide (last<(r.br.getD i default).cd)<;>cases js (r.br.getD i default).bo<;>rfl
 ·intro m;simp only [xu,F1,N2,apW,apK,apM]
def mo(s:ar):Bool:=!((decide (s.bw<0)||decide (s.bq<s.bw))||decide (1099511627776<s.bq)) &&
 allI s.Rows.length λi=>(iQ (s.Rows.getD i default).Key&&(!decide (0<(i:Int))||Op.bytesLess (s.Rows.getD (pv i) default).Key (s.Rows.getD i default).Key))&&qA (s.Rows.getD i default) s.bw s.bq
structure vp(n:Nat)(s:ar):Prop where
 rows:s.Rows.length<n
 row:∀i,yt n (s.Rows.getD i default)
theorem aaZ{s:ar}(h:vp n s):ud n s=some (mo s):=by
 have Z:=h.rows;unfold ud mo;rw [hZ (L:=wK n s) (chk:=λi=>(iQ (s.Rows.getD i default).Key&&(!decide (0<(i:Int))||Op.bytesLess (s.Rows.getD (pv i) default).Key (s.Rows.getD i default).Key))&&qA (s.Rows.getD i default) s.bw s.bq) (no:=false) (yes:=true) Z,lU]
 ·simp only [eb];cases (decide (s.bw<0)||decide (s.bq<s.bw))||decide (1099511627776<s.bq)<;>rfl
 ·intro m i hi;have af:=(h.row i).key;simp only [wK,Er,apS,hi,apJ,apL,cr hi,bg,aD,apR,dw (show i≤9223372036854775806 by omega),HT (show 24<n by omega),lq hi (show s.Rows.length≤9223372036854775807 by omega),al' hn bB (h.row i),nE,←sO]
  refine ij ?_;simp only [eb,e4];cases iQ (s.Rows.getD i default).Key<;>cases decide (0<(i:Int))<;>cases Op.bytesLess (s.Rows.getD (pv i) default).Key (s.Rows.getD i default).Key<;>rfl
 ·intro m;simp only [wK,Er,K4,apW,apK,apM]
theorem aa0{s:ar}(h:vp n s):uK n s=some (mo s):=by
 have Z:=h.rows;unfold uK mo;rw [hZ (L:=xv n s) (chk:=λi=>(iQ (s.Rows.getD i default).Key&&(!decide (0<(i:Int))||Op.bytesLess (s.Rows.getD (pv i) default).Key (s.Rows.getD i default).Key))&&qA (s.Rows.getD i default) s.bw s.bq) (no:=false) (yes:=true) Z,lU]
 ·simp only [eb];cases (decide (s.bw<0)||decide (s.bq<s.bw))||decide (1099511627776<s.bq)<;>rfl
 ·intro m i hi;simp only [xv,F3,apS,hi,apJ,apL,cr hi,bg,aD,apR,dw (show i≤9223372036854775806 by omega),al_ hn bB (h.row i),yo hi,lq hi (show s.Rows.length≤9223372036854775807 by omega),apX]
  refine ij ?_;simp only [eb,e4];cases iQ (s.Rows.getD i default).Key<;>cases decide (0<(i:Int))<;>cases Op.bytesLess (s.Rows.getD (pv i) default).Key (s.Rows.getD i default).Key<;>cases qA (s.Rows.getD i default) s.bw s.bq<;>rfl
 ·intro m;simp only [xv,F3,N3,apW,apK,apM]
def rA(l:List aY)(at_:Int):ar:=⟨at_,at_,l.map λp=>⟨p.Key,[⟨at_,p.bo⟩]⟩⟩
def mZ(l:List aY)(at_:Int):ar×Int:=bif ((!oo l||decide (at_<0))||decide (1099511627776<at_)) then(⟨0,0,[]⟩,1) else(rA l at_,0)
theorem ama{l:List aY}(ag:l.length<n)(eG:l.length≤1000000000)(h:∀i,vl n (l.getD i default))(at_:Int):AM n l at_=some (mZ l at_):=by
 unfold AM mZ;rw [alR hn bB ag h,aD,aaV (L:=xf n at_ l) (g:=λa p=>a++[⟨p.Key,[⟨at_,p.bo⟩]⟩]) (I:=λi acc=>acc.length=i) (fin:=λv=>some (⟨at_,at_,v⟩,0)) ag rfl,fold_map]
 ·simp only [eb,List.nil_append];cases (!oo l||decide (at_<0))||decide (1099511627776<at_)<;>rfl
 ·intro m acc i hi n1;have:room (acc.length+1) 40=true:=H5 (by omega)
  simp only [xf,FF,apS,hi,apJ,apL,cr hi,bg,apR,dw (show i≤9223372036854775806 by omega),apU,this]
  exact⟨trivial,by simp [n1]⟩
 ·intro m acc n1;simp only [xf,FF,Ns,apW,apK,apM]
theorem amb{l:List aY}(ag:l.length<n)(eG:l.length≤1000000000)(h:∀i,vl n (l.getD i default))(at_:Int):xt n l at_=some (mZ l at_):=by
 unfold xt mZ;rw [alS hn bB ag h,aD,aaV (L:=xr n l at_) (g:=λa p=>a++[⟨p.Key,[⟨at_,p.bo⟩]⟩]) (I:=λi acc=>acc.length=i) (fin:=λv=>some (⟨at_,at_,v⟩,0)) ag rfl,fold_map]
 ·simp only [eb,List.nil_append];cases (!oo l||decide (at_<0))||decide (1099511627776<at_)<;>rfl
 ·intro m acc i hi n1;have:room (acc.length+1) 40=true:=H5 (by omega)
  simp only [xr,FZ,apS,hi,apJ,apL,cr hi,bg,apR,dw (show i≤9223372036854775806 by omega),apU,this]
  exact⟨trivial,by simp [n1]⟩
 ·intro m acc n1;simp only [xr,FZ,NY,apW,apK,apM]
end
def sS{α:Type}[Inhabited α]{P:α→Prop}{l:List α}(h:∀x∈l,P x)(h0:P default)(i:Nat):P (l.getD i default):=by
 by_cases hi:i<l.length
 ·exact h _ (al9 hi)
 ·rw [List.getD_eq_getElem?_getD,List.getElem?_eq_none (by omega)];exact h0
def nF{v:bG}(h:sN v):v.S.length≤64:=by
 rcases alM h.1 with h|h|h
 ·rw [h];simp
 ·rw [h.2];simp
 ·exact alL h.2.2
def jM(p:aY):ap0:=fE p.Key++bW p.bo
def H6(p:aY):Prop:=p.Key.length≤24∧sN p.bo
section
variable {n:Nat} (hn:2000≤n) (bB:n≤9223372036854775808) {s:ap0} (hs:s.length<min n 1000000000)
include hn bB hs
end
def sT(x:Part):ap0:=ml x.Id++(fE x.dO++(ml x.Node++(ml x.fy++fE x.dE)))
def vq(x:Part):Prop:=e5 x.Id∧x.dO.length≤24∧e5 x.Node∧e5 x.fy∧x.dE.length≤24
def km(p:b1):ap0:=ml p.Version++dc sT p.aF
def amc{n:Nat}(hn:2000≤n){p:Part}(h:vq p):qz n p:=⟨by have:=h.2.1;omega,by have:=h.2.2.2.2;omega⟩
def amd{n:Nat}(hn:2000≤n){l:List Part}(h:∀p∈l,vq p)(i:Nat):qz n (l.getD i default):=sS (P:=qz n) (λx hx=>amc hn (h x hx)) ⟨by show 0<n;omega,by show 0<n;omega⟩ i
section
variable {n:Nat} (hn:2000≤n) (bB:n≤9223372036854775808) {s:ap0} (hs:s.length<min n 1000000000)
include hn bB hs
end
def m3(o:Outcome):ap0:=iR o.Status++(iR o.Code++dc bW o.Out)
def m4(o:Outcome):Prop:=(0≤o.Status∧o.Status≤9999)∧(0≤o.Code∧o.Code≤9999)∧o.Out.length≤16∧∀v∈o.Out,sN v
def Rc(c fc k:Int)(l:List Outcome):List eI:=(l.zipIdx 0).map λp=>⟨c,ap2 (fc-ap2 (k-(p.2:Int))),p.1⟩
def Cu{fc:Int}(h:1≤fc∧fc≤1099511627776):0≤lV fc∧lV fc≤8∧lV fc≤fc-1:=by
 unfold lV;rw [wr (x:=fc-1) (by omega) (by omega)]
 by_cases dR:fc-1<8
 ·rw [decide_eq_true dR,apL];omega
 ·rw [decide_eq_false dR,apM];omega
def iS(s:bV):ap0:=iR s.Client++(iR s.Next++fX m3 (s.b'.map (·.Outcome)))
def sU(s:bV):Prop:=(1≤s.Client∧s.Client≤32)∧(1≤s.Next∧s.Next≤1099511627776)∧s.b'=Rc s.Client s.Next (lV s.Next) (s.b'.map (·.Outcome))∧(s.b'.map (·.Outcome)).length=(lV s.Next).toNat∧∀o∈s.b'.map (·.Outcome),m4 o
def aa1{n:Nat}(hn:2000≤n){o:Outcome}(h:m4 o):yq n o:=
 ⟨by have:=h.2.2.1;omega,λi=>sS (P:=λv:bG=>v.S.length<n) (λx hx=>by have:=nF (h.2.2.2 x hx);omega) (by show 0<n;omega) i⟩
def ame{n:Nat}(hn:2000≤n){s:bV}(h:sU s):rz n s:=by
 have hk:=Cu h.2.1;have ag:s.b'.length=(lV s.Next).toNat:=by have:=h.2.2.2.1;simpa using this
 refine⟨by omega,λi=>sS (P:=λr:eI=>yq n r.Outcome) (λx hx=>aa1 hn (h.2.2.2.2 _ (List.mem_map_of_mem hx))) ?_ i⟩
 refine aa1 hn ?_;refine⟨by show(0:Int)≤0∧(0:Int)≤9999;omega,by show(0:Int)≤0∧(0:Int)≤9999;omega,by show([]:List bG).length≤16;simp,λv ay=>by cases ay⟩
def Rd{n:Nat}(hn:2000≤n){l:List bV}(h:∀s∈l,sU s)(i:Nat):rz n (l.getD i default):=by
 refine sS (P:=rz n) (λx hx=>ame hn (h x hx)) ⟨by show([]:List eI).length<n;simp;omega,λi=>⟨?_,λi=>?_⟩⟩ i
 ·show((([]:List eI).getD i default).Outcome).Out.length<n
  show([]:List bG).length<n
  simp;omega
 ·show((((([]:List eI).getD _ default).Outcome).Out).getD i default).S.length<n
  show 0<n
  omega
section
variable {n:Nat} (hn:2000≤n) (bB:n≤9223372036854775808) {s:ap0} (hs:s.length<min n 1000000000)
include hn bB hs
end
abbrev rB:=List ap0
def mp(b:Bool)(p:rB×rB):ap0:=if b then dc fE p.1++dc fE p.2 else[]
def H7(b:Bool)(p:rB×rB):Prop:=if b then(p.1.length≤64∧∀v∈p.1,v.length≤24)∧(p.2.length≤64∧∀v∈p.2,v.length≤24)else p=([],[])
def pu(r:Request):Prop:=ja r.Client∧ja r.Seq∧r.bi.length≤16∧(r.aw.length≤6∧∀v∈r.aw,sN v)∧H7 r.dX (r.bp.Reads,r.bp.co)∧r.bp.dV=false
def gN(r:Request):ap0:=iR r.Client++(iR r.Seq++(fE r.bi++(dc bW r.aw++(sM r.dX++mp r.dX (r.bp.Reads,r.bp.co)))))
def H8(r:Request):Bool:=(decide (r.Client≤32)&&decide (r.Seq≤1099511627776))&&decide (qw r=0)
def lr(h:bd):ap0:=fE h.Key++ml h.Count
def amf{n:Nat}(hn:2000≤n){r:Request}(h:pu r):sP n r:=by
 have bj:=h.2.2.2.2.1
 have hk:(r.bp.Reads.length≤64∧∀v∈r.bp.Reads,v.length≤24)∧(r.bp.co.length≤64∧∀v∈r.bp.co,v.length≤24):=by
  unfold H7 at bj;cases hd:r.dX
  ·rw [hd]at bj;simp only [Bool.false_eq_true,apZ,Prod.mk.injEq]at bj;rw [bj.1,bj.2];simp
  ·rw [hd]at bj;exact bj
 have hd:∀l:rB,(∀v∈l,v.length≤24)→∀i,(l.getD i default).length<n:=λl ag i=>sS (P:=λv:ap0=>v.length<n) (λx hx=>by have:=ag x hx;omega) (by show 0<n;omega) i
 exact⟨by have:=h.2.2.1;omega,by have:=h.2.2.2.1.1;omega,λi=>sS (P:=λv:bG=>v.S.length<n) (λx hx=>by have:=nF (h.2.2.2.1.2 x hx);omega) (by show 0<n;omega) i,by have:=hk.1.1;omega,by have:=hk.2.1;omega,by have:=hk.1.1;omega,by have:=hk.2.1;omega,hd _ hk.1.2,hd _ hk.2.2⟩
section
variable {n:Nat} (hn:2000≤n) (bB:n≤9223372036854775808) {s:ap0} (hs:s.length<min n 1000000000)
include hn bB hs
end
section
variable {n:Nat} (hn:2000≤n) (bB:n≤9223372036854775808) {s:ap0} (hs:s.length<min n 1000000000)
include hn bB hs
end
structure aa2(p:bi):Prop where
 v:nz p=0
 i:pp p
 w:aj5 p≤125000
def jt(p:bi):ap0:=if nz p=0 then nC p else[]
structure ou(p:bi):Prop where
 i:pp p
 n:p.Name.length≤300000
 f:hP p.Params≤300000
 b:ep p.Body≤300000
def aa2.fK{p:bi}(h:aa2 p):ou p:=by
 have hw:p.Name.length+hP p.Params+ep p.Body≤125000:=h.w;exact⟨h.i,by omega,by omega,by omega⟩
def aa3{n:Nat}{p:bi}(h:ou p)(hn:3000000≤n):se n p=some (jt p):=by
 have Z:=h.n;have af:=h.f;have au:=h.b;unfold jt;by_cases ay:nz p=0
 ·rw [if_pos ay];exact ala p h.i ay hn h.f h.b
 ·rw [if_neg ay];unfold se;rw [ZU p (by omega) (by omega) (by omega) (by omega) (by omega)]
  simp only [aD,ay,apK,apO,apL]
def aa4{n:Nat}{p:bi}(h:ou p)(hn:3000000≤n):uR n p=some (jt p):=by
 have Z:=h.n;have af:=h.f;have au:=h.b;unfold jt;by_cases ay:nz p=0
 ·rw [if_pos ay];exact alC p h.i ay hn h.f h.b
 ·rw [if_neg ay];unfold uR;rw [ZW p (by omega) (by omega) (by omega) (by omega) (by omega) (by omega) (by omega)]
  simp only [aD,ay,apK,apO,apL]
def aa5{p:bi}(h:ou p):(jt p).length≤1300000:=by
 unfold jt;by_cases ay:nz p=0
 ·rw [if_pos ay];have:=aam (QM h.i ay)
  have au:=h.b;omega
 ·rw [if_neg ay];simp
def Cv(x:ar):(⟨x.bw,x.bq,x.Rows⟩:ar)=x:=rfl
def vr(x:b1):(⟨x.Version,x.aF⟩:b1)=x:=rfl
def H9(x:Request):(⟨x.Client,x.Seq,x.bi,x.aw,x.dX,(⟨x.bp.dV,x.bp.Reads,x.bp.co⟩:e9)⟩:Request)=x:=rfl
def H_(x:bH):(⟨x.Pos,(⟨x.ar.bw,x.ar.bq,x.ar.Rows⟩:ar),x.bI,x.bO,(⟨x.Place.Version,x.Place.aF⟩:b1),x.bd,x.Queue,x.b2⟩:bH)=x:=rfl
def sV(l:List bi):Bool:=(allI l.length λi=>!(decide (jt (l.getD i default)=[])||decide (16384<(((jt (l.getD i default)).length:Nat):Int)))&&(!decide (0<(i:Int))||Op.bytesLess (l.getD (pv i) default).Name (l.getD i default).Name))&&decide (l.length≤16)
def vt(l:List Request):Bool:=(allI l.length λi=>decide (qw (l.getD i default)=0))&&decide (l.length≤64)
def k9(r:bH):Bool:=((((((((decide (0≤r.Pos)&&decide (r.Pos≤1099511627776))&&mo r.ar)&&decide (r.ar.bq=r.Pos))&&sV r.bI)&&pt r.bO)&&ot r.Place)&&qu r.bd)&&vt r.Queue)
structure Cw(n:Nat)(r:bH):Prop where
 st:vp n r.ar
 Cx:r.bI.length<n
 pw:∀i,ou (r.bI.getD i default)
 vu:r.bO.length<n
 nG:∀i,rz n (r.bO.getD i default)
 pl:r.Place.aF.length<n
 yu:∀i,qz n (r.Place.aF.getD i default)
 bU:r.bd.length<n
 jQ:∀i,(r.bd.getD i default).Key.length<n
 nH:r.Queue.length<n
 vv:∀i,sP n (r.Queue.getD i default)
def aa6:ou default:=by
 refine⟨⟨by show([]:ap0).length≤_;simp,by show([]:List Param).length≤_;simp,λi hi=>by exact absurd hi (by show¬ i<([]:List Param).length;simp),trivial⟩,by show([]:ap0).length≤_;simp,by show hP []≤_;simp [hP],by show ep []≤_;simp [ep]⟩
section
variable {n:Nat} (hn:3000000≤n) (bB:n≤9223372036854775808)
include hn bB
theorem amg{l:List bi}(ag:l.length<n)(h:∀i,ou (l.getD i default)):FD n l=some (sV l):=by
 unfold FD sV;rw [hZ (L:=xd n l) (chk:=λi=>!(decide (jt (l.getD i default)=[])||decide (16384<(((jt (l.getD i default)).length:Nat):Int)))&&(!decide (0<(i:Int))||Op.bytesLess (l.getD (pv i) default).Name (l.getD i default).Name)) (no:=false) (yes:=true) ag,lU]
 ·simp only [fm];by_cases aE:l.length≤16
  ·simp only [aE,show¬ 16<l.length by omega,apJ,apK,apM,Bool.and_true]
  ·simp only [aE,show 16<l.length by omega,apJ,apK,apL,Bool.and_false]
 ·intro m i hi;simp only [xd,FC,apS,hi,apJ,apL,cr hi,bg,aD,apR,dw (show i≤9223372036854775806 by omega),aa3 (h i) hn,lq hi (show l.length≤9223372036854775807 by omega)]
  exact ij (by simp only [eb,e4,Bool.not_and,Bool.not_or,Bool.not_not,←sO])
 ·intro m;simp only [xd,FC,Nq,apW,apK,apM]
theorem amh{l:List bi}(ag:l.length<n)(h:∀i,ou (l.getD i default)):GJ n l=some (sV l):=by
 unfold GJ sV;rw [hZ (L:=xK n l) (chk:=λi=>!(decide (jt (l.getD i default)=[])||decide (16384<(((jt (l.getD i default)).length:Nat):Int)))&&(!decide (0<(i:Int))||Op.bytesLess (l.getD (pv i) default).Name (l.getD i default).Name)) (no:=false) (yes:=decide (l.length≤16)) ag,qt]
 ·intro m i hi;simp only [xK,GI,apS,hi,apJ,apL,cr hi,bg,aD,apR,dw (show i≤9223372036854775806 by omega),aa4 (h i) hn,yo hi,lq hi (show l.length≤9223372036854775807 by omega),apX]
  exact ij (by simp only [eb,e4,Bool.not_and,Bool.not_or,Bool.not_not])
 ·intro m;simp only [xK,GI,Pm,apW,apK,apM,lp]
theorem aa7(x y:Int):decide (x<y) = !decide (y≤x):=by
 by_cases h:y≤x
 ·rw [decide_eq_true h,decide_eq_false (by omega)];rfl
 ·rw [decide_eq_false h,decide_eq_true (by omega)];rfl
theorem ami{r:bH}(h:Cw n r):xe n r=some (k9 r):=by
 have e1:uE n r n 0=some (if(allI r.Queue.length λi=>decide (qw (r.Queue.getD i default)=0)) then((pt r.bO&&ot r.Place)&&qu r.bd)else false):=by
  refine hZ (L:=uE n r) h.nH ?_ ?_
  ·intro m i hi;simp only [uE,FE,apS,hi,apJ,apL,cr hi,bg,apR,dw (show i≤9223372036854775806 by have:=h.nH;omega)]
   rw [aaM (by omega) bB (h.vv i),aD]
   exact ij rfl
  ·intro m;simp only [uE,FE,Nr,apW,apK,apM];rw [aaS (by omega) bB h.vu h.nG,alZ (by omega) bB h.pl h.yu,alT (by omega) bB h.bU]
   simp only [aD,nE,e4];cases pt r.bO<;>cases ot r.Place<;>rfl
 unfold xe;rw [e1,aaZ (by omega) bB h.st,amg hn bB h.Cx h.pw]
 simp only [aD,nE,eb,e4,fm];unfold k9 vt;rw [show decide (r.Pos<0) = !decide (0≤r.Pos)from aa7 hn bB _ _,show decide (1099511627776<r.Pos) = !decide (r.Pos≤1099511627776)from aa7 hn bB _ _]
 by_cases aE:r.Queue.length≤64
 ·simp only [aE,show¬ 64<r.Queue.length by omega,apJ,apK,Bool.and_true,Bool.or_false,qt]
  cases decide (0≤r.Pos)<;>cases decide (r.Pos≤1099511627776)<;>cases mo r.ar<;>cases decide (r.ar.bq=r.Pos)<;>cases sV r.bI<;>cases pt r.bO<;>cases ot r.Place<;>cases qu r.bd<;>simp
 ·simp only [aE,show 64<r.Queue.length by omega,apJ,apK,Bool.and_false,apX,apL]
theorem amj{l:List Request}(ag:l.length<n)(h:∀i,sP n (l.getD i default)):GN n l=some (vt l):=by
 unfold GN vt;rw [hZ (L:=xM n l) (chk:=λi=>decide (qw (l.getD i default)=0)) (no:=false) (yes:=decide (l.length≤64)) ag,qt]
 ·intro m i hi;simp only [xM,GM,apS,hi,apJ,apL,cr hi,bg,aD,apR,dw (show i≤9223372036854775806 by omega),aaN (show 2000≤n by omega) bB (h i)]
  exact ij rfl
 ·intro m;simp only [xM,GM,Pp,apW,apK,apM,lp]
theorem amk{r:bH}(h:Cw n r):Bk n r=some (k9 r):=by
 unfold Bk k9;rw [aa0 (by omega) bB h.st,amh hn bB h.Cx h.pw,aaT (by omega) bB h.vu h.nG,al3 (by omega) bB h.pl h.yu,alU (by omega) bB h.bU h.jQ,amj hn bB h.nH h.vv]
 simp only [aD,nE,e4];cases decide (0≤r.Pos)<;>cases decide (r.Pos≤1099511627776)<;>cases mo r.ar<;>cases decide (r.ar.bq=r.Pos)<;>cases sV r.bI<;>cases pt r.bO<;>cases ot r.Place<;>cases qu r.bd<;>rfl
end
abbrev Cy:=Int×List aY×rB×List bV×b1×List bd×List Request×Int
def jb(p:Cy):ap0:=ml p.1++(dc jM p.2.1++(dc fE p.2.2.1++(dc iS p.2.2.2.1++(km p.2.2.2.2.1++(dc lr p.2.2.2.2.2.1++(dc gN p.2.2.2.2.2.2.1++iR p.2.2.2.2.2.2.2))))))
structure yv(p:Cy):Prop where
 pos:e5 p.1
 pw:(p.2.1.length≤2147483647∧∀v∈p.2.1,H6 v)∧oo p.2.1=true
 src:p.2.2.1.length≤16∧∀s∈p.2.2.1,s.length≤16384
 nG:(p.2.2.2.1.length≤32∧∀v∈p.2.2.2.1,sU v)∧pt p.2.2.2.1=true
 rC:(e5 p.2.2.2.2.1.Version∧p.2.2.2.2.1.aF.length≤16∧∀v∈p.2.2.2.2.1.aF,vq v)∧ot p.2.2.2.2.1=true
 bU:p.2.2.2.2.2.1.length≤32∧∀h∈p.2.2.2.2.2.1,h.Key.length≤24∧e5 h.Count
 nH:p.2.2.2.2.2.2.1.length≤64∧∀v∈p.2.2.2.2.2.2.1,pu v∧H8 v=true
 Re:ja p.2.2.2.2.2.2.2
section
variable {n:Nat} (hn:3000000≤n) (bB:n≤9223372036854775808) {s:ap0} (hs:s.length<min n 1000000000)
include hn bB hs
end
section
variable {n:Nat} (hn:3000000≤n) (bB:n≤9223372036854775808) {s:ap0} (hs:s.length<min n 1000000000)
include hn bB hs
end
abbrev aml:bH:=⟨0,⟨0,0,[]⟩,[],[],⟨0,[]⟩,[],[],0⟩
def aa8{n:Nat}(hn:2000≤n):sP n default:=amf hn ⟨by show ja 0;unfold ja;omega,by show ja 0;unfold ja;omega,by show([]:ap0).length≤16;simp,⟨by show([]:List bG).length≤6;simp,λv ay=>by cases ay⟩,rfl,rfl⟩
def aa9{p:Cy}(h:yv p):p.2.1.length≤(jb p).length:=by
 have Z:=H0 (E:=jM) (l:=p.2.1) λv _=>by unfold jM fE;simp [Q8]
 unfold jb;rw [show dc jM p.2.1=eV p.2.1.length++fX jM p.2.1 from rfl]
 simp only [apT];omega
def Ia{n:Nat}(hn:2000≤n):Cw n aml:=by
 have h0:∀{α:Type} (l:List α),l=[]→l.length<n:=λl h=>by rw [h];show 0<n;omega
 exact {
  st:=by
   refine⟨h0 _ rfl,λi=>⟨?_,?_,λk=>?_⟩⟩
   ·show 0<n;omega
   ·exact h0 _ rfl
   ·show 0<n;omega
  Cx:=h0 _ rfl
  pw:=λi=>sS (P:=ou) (λx hx=>absurd hx (by show¬ x∈([]:List bi);simp)) aa6 i
  vu:=h0 _ rfl
  nG:=Rd hn (λx hx=>by cases hx)
  pl:=h0 _ rfl
  yu:=amd (by omega) (λx hx=>by cases hx)
  bU:=h0 _ rfl
  jQ:=λi=>by show 0<n;omega
  nH:=h0 _ rfl
  vv:=λi=>sS (P:=sP n) (λx hx=>absurd hx (by show¬ x∈([]:List Request);simp)) (aa8 hn) i}
section
variable {n:Nat} (hn:3000000≤n) (bB:n≤9223372036854775808) {s:ap0} (hs:s.length≤2000)
include hn bB hs
end
def kn{α R:Type}[Inhabited α]{l:List α}{E:α→ap0}{B:Nat}{L:Nat→ap0→Nat→Option R}{fin:ap0→Option R}
 (hs:∀m i acc,i<l.length→acc.length+(E (l.getD i default)).length≤B→L (m+1) acc i=L m (acc++E (l.getD i default)) (i+1))
 (he:∀m acc,acc.length≤B→L (m+1) acc l.length=fin acc):
 ∀m i acc,l.length<m+i→i≤l.length→acc.length+(fX E (l.drop i)).length≤B→L m acc i=fin (acc++fX E (l.drop i)):=by
 intro m;induction m with
 |zero=>intro i acc Z af;omega
 |succ m bc=>
  intro i acc Z af au;by_cases hi:i<l.length
  ·rw [gE l i default hi,vk]at au ⊢;rw [apT]at au;rw [hs m i acc hi (by omega),bc (i+1) _ (by omega) (by omega) (by rw [apT];omega),List.append_assoc]
  ·obtain rfl:i=l.length:=by omega
   rw [iZ l _ hi,alK]at au ⊢;rw [he m acc (by simpa using au),List.append_nil]
def yw{n:Nat}(hn:10≤n){z:Int}(h:ja z):gZ n (IntKind.u64.wrap z)=some (iR z):=by
 obtain⟨Z,af⟩:=h;have e:IntKind.u64.wrap z=((z.toNat:Nat):Int):=by rw [IntKind.wrap_u64];omega
 rw [e];exact rv hn (by omega)
def rD{n:Nat}(hn:10≤n){k:Nat}(h:k<18446744073709551616):gZ n (IntKind.u64.wrap (k:Int))=some (eV k):=by
 rw [sL h];exact rv hn h
def ko{n:Nat}{s t:ap0}(h:t.length+s.length≤10000000):iW n s (gt t)=some (((s.length:Nat):Int),gt (t++s)):=by
 unfold iW wU;simp only [aD,yl,Q0 (show t.length+s.length≤140737488355328 by omega),bg]
 rw [QX];rfl
def Ib{n:Nat}{t:ap0}(h:t.length≤10000000):p9 n (gt t)=some (t,gt t):=by
 unfold p9;simp only [Cp,Co,yl,show t.length≤9223372036854775807 by omega,apJ,Bool.and_self,bg]
def kp{α:Type}[Inhabited α]{P:α→Prop}{l:List α}(h:∀x∈l,P x){i:Nat}(hi:i<l.length):P (l.getD i default):=by
 rw [List.getD_eq_getElem?_getD,List.getElem?_eq_getElem hi];exact h _ (List.getElem_mem hi)
def amm{n:Nat}(hn:2000≤n){l:List aY}(ag:l.length<n)(h:∀p∈l,H6 p)(cB:(dc jM l).length≤1000000):E8 n l=some (dc jM l):=by
 have hlen:l.length≤(fX jM l).length:=H0 λv _=>by unfold jM fE;simp [Q8]
 unfold dc at cB ⊢;rw [apT]at cB
 have key:=kn (l:=l) (E:=jM) (B:=2000000) (L:=λm acc i=>w0 n l m (gt acc) (i:Int)) (fin:=λacc=>some acc)
  (λm i acc hi hb=>by
   obtain⟨Z,af⟩:=kp h hi;have au:=nF af;unfold jM at hb ⊢;rw [apT]at hb;simp only [w0,E7,hi,cr hi,apR,apS,apJ,apL,bg,dw (show i≤9223372036854775806 by omega)]
   rw [qq (by omega) (by omega),aD,ko (by omega),aD,
    show uc n (⟨((l.getD i default).bo).Kind,((l.getD i default).bo).N,((l.getD i default).bo).S⟩:bG)=_ from Q4 (v:=(l.getD i default).bo) (by omega) af.2 (by omega),aD,
    ko (by rw [apT];omega),aD,List.append_assoc])
  (λm acc ha=>by
   simp only [w0,E7,apS,Nat.lt_irrefl,apK,apM,LV];rw [Ib (by omega),aD])
 unfold E8;rw [rD (by omega) (by omega),aD,QY,ko (by simp;omega),aD]
 exact key n 0 _ (by omega) (by omega) (by simp;omega)
def amn{n:Nat}(hn:2000≤n){p:b1}(h0:e5 p.Version)(ag:p.aF.length≤16)(h:∀x∈p.aF,vq x)(cB:(km p).length≤1000000):zY n p=some (km p):=by
 have ay:=nD h0;unfold km dc at cB ⊢;simp only [apT]at cB
 have key:=kn (l:=p.aF) (E:=sT) (B:=2000000) (L:=λm acc i=>wM n p m (i:Int) acc) (fin:=λacc=>some acc)
  (λm i acc hi hb=>by
   obtain⟨Z,af,au,aQ,bj⟩:=kp h hi;unfold sT at hb ⊢;simp only [apT]at hb;simp only [wM,Ev,hi,cr hi,apR,apS,apJ,apL,bg,dw (show i≤9223372036854775806 by omega)]
   rw [vj (by omega) Z,aD,qq (by omega) (by omega),aD,vj (by omega) au,aD,vj (by omega) aQ,aD,qq (by omega) (by omega),aD]
   simp (disch:=omega) only [List.length_append,dB,bg,List.append_assoc])
  (λm acc ha=>by simp only [wM,Ev,apS,Nat.lt_irrefl,apK,apM,K9])
 unfold zY;rw [vj (by omega) h0,aD,rD (by omega) (by omega),aD,dB (by omega),bg,←List.append_assoc]
 exact key n 0 _ (by omega) (by omega) (by simp only [apT,List.drop_zero];omega)
def aa'{n:Nat}(hn:2000≤n){l:rB}(ag:l.length≤64)(h:∀x∈l,x.length≤24)(cB:(dc fE l).length≤1000000):zS n l=some (dc fE l):=by
 unfold dc at cB ⊢;simp only [apT]at cB
 have key:=kn (l:=l) (E:=fE) (B:=2000000) (L:=λm acc i=>wF n l m (i:Int) acc) (fin:=λacc=>some acc)
  (λm i acc hi hb=>by
   have Z:=kp h hi;simp only [wF,Ek,hi,cr hi,apR,apS,apJ,apL,bg,dw (show i≤9223372036854775806 by omega)]
   rw [qq (by omega) (by omega),aD]
   simp (disch:=omega) only [dB,bg])
  (λm acc ha=>by simp only [wF,Ek,apS,Nat.lt_irrefl,apK,apM,K0])
 unfold zS;rw [rD (by omega) (by omega),aD]
 exact key n 0 _ (by omega) (by omega) (by rw [List.drop_zero];omega)
def jN{z:Int}(h:ja z):(iR z).length≤10:=iA (by obtain⟨Z,af⟩:=h;omega)
def Rf{o:Outcome}(h:m4 o):ja o.Status∧ja o.Code:=⟨⟨h.1.1,by have:=h.1.2;omega⟩,⟨h.2.1.1,by have:=h.2.1.2;omega⟩⟩
def Ic{α β:Type}(E:β→ap0)(f:α→β)(l:List α):fX E (l.map f)=fX (λx=>E (f x)) l:=by
 unfold fX;rw [List.map_map];rfl
section
variable {n:Nat} (hn:2000≤n)
include hn
theorem amo(dD al:List Int→Int→Option ap0)(l:List bV)(i j:Nat)(hj:j≤9223372036854775806)(aA:m4 ((((l.getD i default).b').getD j default).Outcome))(acc:ap0)
 (cB:acc.length+(fX bW ((((l.getD i default).b').getD j default).Outcome.Out)).length≤2000000):
 ul n dD al l (i:Int) (j:Int) n (gt acc) 0=dD (gt (acc++fX bW ((((l.getD i default).b').getD j default).Outcome.Out))) ((j+1:Nat):Int):=by
 have ag:=aA.2.2.1
 have key:=kn (l:=(((l.getD i default).b').getD j default).Outcome.Out) (E:=bW) (B:=2000000) (L:=λm acc k=>ul n dD al l (i:Int) (j:Int) m (gt acc) (k:Int)) (fin:=λacc=>dD (gt acc) ((j+1:Nat):Int))
  (λm k acc hk hb=>by
   have af:=kp aA.2.2.2 hk;have au:=nF af;simp only [ul,E3,apR,hk,cr hk,apS,apJ,apL,bg,dw (show k≤9223372036854775806 by omega)]
   rw [Q4 (by omega) af.2 (by omega),aD,ko (by omega),aD])
  (λm acc ha=>by
   simp only [ul,E3,apR,apS,Nat.lt_irrefl,apK,apM,LS,dw hj])
 have:=key n 0 acc (by omega) (by omega) (by rw [List.drop_zero];exact cB)
 rw [List.drop_zero]at this;exact this
theorem amp(al:List Int→Int→Option ap0)(l:List bV)(i:Nat)(hi:i≤9223372036854775806)(ag:(l.getD i default).b'.length≤1000)(aA:∀r∈(l.getD i default).b',m4 r.Outcome)(acc:ap0)
 (cB:acc.length+(fX (λr:eI=>m3 r.Outcome) (l.getD i default).b').length≤2000000):
 un n al l (i:Int) n (gt acc) 0=al (gt (acc++fX (λr:eI=>m3 r.Outcome) (l.getD i default).b')) ((i+1:Nat):Int):=by
 have key:=kn (l:=(l.getD i default).b') (E:=λr:eI=>m3 r.Outcome) (B:=2000000) (L:=λm acc j=>un n al l (i:Int) m (gt acc) (j:Int)) (fin:=λacc=>al (gt acc) ((i+1:Nat):Int))
  (λm j acc hj hb=>by
   have af:=kp (P:=λr:eI=>m4 r.Outcome) aA hj
   obtain⟨au,aQ⟩:=Rf af;have bj:=af.2.2.1;have gv:=jN au;have ir:=jN aQ;have amq:=iA (u:=(((l.getD i default).b').getD j default).Outcome.Out.length) (by omega)
   unfold m3 dc at hb ⊢;simp only [apT]at hb;simp only [un,E4,apR,hj,cr hj,apS,apJ,apL,bg]
   rw [yw (by omega) au,aD,yw (by omega) aQ,aD,dB (by omega),bg,rD (by omega) (by omega),aD,dB (by rw [apT];omega),bg,
    ko (by simp only [apT];omega),aD]
   refine(amo hn _ al l i j (by omega) af _ (by simp only [apT];omega)).trans ?_
   simp only [List.append_assoc])
  (λm acc ha=>by
   simp only [un,E4,apR,apS,Nat.lt_irrefl,apK,apM,LR,dw hi])
 have:=key n 0 acc (by omega) (by omega) (by rw [List.drop_zero];exact cB)
 rw [List.drop_zero]at this;exact this
theorem amr{l:List bV}(ay:sf n l=some true)(ag:l.length≤32)(h:∀s∈l,sU s)(cB:(dc iS l).length≤1000000):An n l=some (dc iS l):=by
 unfold dc at cB ⊢;simp only [apT]at cB
 have key:=kn (l:=l) (E:=iS) (B:=2000000) (L:=λm acc i=>wZ n l m (gt acc) (i:Int)) (fin:=λacc=>some acc)
  (λm i acc hi hb=>by
   have af:=kp h hi;obtain⟨⟨c1,c2⟩,⟨d1,d2⟩,bj,cb,de⟩:=af;have cS:ja (l.getD i default).Client:=⟨by omega,by omega⟩
   have al:ja (l.getD i default).Next:=⟨by omega,by omega⟩
   have gv:=jN cS;have ir:=jN al;have hk:=Cu ⟨d1,d2⟩;have ak:(l.getD i default).b'.length≤1000:=by rw [List.length_map]at cb;omega
   have aA:∀r∈(l.getD i default).b',m4 r.Outcome:=λr ak=>de _ (List.mem_map_of_mem ak)
   unfold iS at hb ⊢;rw [Ic]at hb ⊢;simp only [apT]at hb;simp only [wZ,E6,apR,hi,cr hi,apS,apJ,apL,bg];rw [yw (by omega) cS,aD,yw (by omega) al,aD,dB (by omega),bg,ko (by simp only [apT];omega),aD]
   refine(amp hn _ l i (by omega) ak aA _ (by simp only [apT];omega)).trans ?_
   simp only [List.append_assoc])
  (λm acc ha=>by
   simp only [wZ,E6,apS,Nat.lt_irrefl,apK,apM,LQ];rw [Ib (by omega),aD])
 unfold An;rw [ay,aD,apN,apM,rD (by omega) (by omega),aD,QY,ko (by simp;omega),aD]
 have:=key n 0 (eV l.length) (by omega) (by omega) (by rw [List.drop_zero];omega)
 rw [List.drop_zero]at this;exact this
end
def ams{n:Nat}(hn:10≤n){z:Int}(h:ja z):gZ n z=some (iR z):=by
 obtain⟨Z,af⟩:=h;have e:z=((z.toNat:Nat):Int):=by omega
 have:=rv (n:=n) (u:=z.toNat) hn (by omega)
 rw [←e]at this;exact this
def amt{n:Nat}(b:Bool):K1 n b=some (sM b):=by cases b<;>rfl
def Cz(b:Bool):(sM b).length=1:=by cases b<;>rfl
section
variable {n:Nat} (hn:2000≤n)
include hn
theorem amu{r:Request}(h:pu r)(acc:ap0)(cB:acc.length+(sM r.dX++mp r.dX (r.bp.Reads,r.bp.co)).length≤2000000)(kJ:(mp r.dX (r.bp.Reads,r.bp.co)).length≤1000000):
 zU n r acc=some (acc++(sM r.dX++mp r.dX (r.bp.Reads,r.bp.co))):=by
 have bj:=h.2.2.2.2.1;rw [apT]at cB;unfold zU;rw [amt,aD,dB (by omega),bg]
 cases hd:r.dX
 ·simp only [apM,zT,mp,apZ,Bool.false_eq_true,List.append_nil]
 ·rw [hd]at bj cB kJ;obtain⟨⟨a7,a2⟩,b4,hR⟩:=bj;simp only at a7 a2 b4 hR
  simp only [mp,apY,apT]at cB kJ;rw [apL,aa' hn a7 a2 (by omega),aD,aa' hn b4 hR (by omega),aD]
  simp (disch:=omega) only [List.length_append,dB,bg,zT,mp,if_true,List.append_assoc]
theorem amv{r:Request}(ay:o0 n r=some 0)(h:pu r)(cB:(gN r).length≤1000000):Em n r=some (gN r):=by
 obtain⟨c1,c2,c3,⟨c4,c5⟩,ju,jc⟩:=id h;have gv:=jN c1;have ir:=jN c2;unfold gN dc at cB ⊢;simp only [apT]at cB
 have key:=kn (l:=r.aw) (E:=bW) (B:=900000) (L:=λm acc i=>wG n r m acc (i:Int)) (fin:=λacc=>zU n r acc)
  (λm i acc hi hb=>by
   have af:=kp c5 hi;have au:=nF af;simp only [wG,El,hi,cr hi,apR,apS,apJ,apL,bg,dw (show i≤9223372036854775806 by omega)]
   rw [Q4 (by omega) af.2 (by omega),aD,dB (by omega),bg])
  (λm acc ha=>by simp only [wG,El,apS,Nat.lt_irrefl,apK,apM])
 unfold Em;rw [ay,aD];simp only [apJ,apN,apM];have t1:=qs (s:=r.bi) (by omega)
 have CA:=iA (u:=r.aw.length) (by omega)
 have v1:(fX bW r.aw).length≤1000:=by
  have:∀l:List bG,(∀v∈l,sN v)→(fX bW l).length≤100*l.length:=by
   intro l;induction l with
   |nil=>intro _;simp [fX]
   |cons v l bc=>
    intro bz;have g:=bz v (by simp)
    have g2:=Q6 g.2 (by have:=nF g;omega)
    have g3:=nF g;have g4:=bc λw hw=>bz w (by simp [hw])
    rw [vk,apT,apP];omega
  have:=this r.aw c5
  omega
 rw [yw (by omega) c1,aD,yw (by omega) c2,aD,dB (by omega),bg,qq (by omega) (by omega),aD,dB (by simp only [apT];omega),bg,
  rD (by omega) (by omega),aD,dB (by simp only [apT];omega),bg]
 have:=key n 0 (((iR r.Client++iR r.Seq)++fE r.bi)++eV r.aw.length) (by omega) (by omega) (by rw [List.drop_zero];simp only [apT];omega)
 rw [List.drop_zero]at this;refine this.trans ?_;rw [amu hn h _ (by simp only [apT,Cz];simp only [apT,Cz]at cB;omega) (by omega)]
 simp only [List.append_assoc]
theorem amw{l:List Request}(ag:l.length≤64)(h:∀r∈l,pu r∧o0 n r=some 0)(cB:(dc gN l).length≤900000):wI n l=some (dc gN l):=by
 unfold dc at cB ⊢;simp only [apT]at cB
 have key:=kn (l:=l) (E:=gN) (B:=1000000) (L:=λm acc i=>wH n l m (i:Int) acc) (fin:=λacc=>some acc)
  (λm i acc hi hb=>by
   obtain⟨Z,af⟩:=kp h hi;simp only [wH,En,hi,cr hi,apR,apS,apJ,apL,bg,dw (show i≤9223372036854775806 by omega)]
   rw [af,aD];simp only [apJ,apN,apM];rw [amv hn af Z (by omega),aD,dB (by omega),bg])
  (λm acc ha=>by simp only [wH,En,apS,Nat.lt_irrefl,apK,apM,K2])
 unfold wI;simp only [fm,show¬ 64<l.length by omega,apK,apM]
 rw [rD (by omega) (by omega),aD]
 have:=key n 0 (eV l.length) (by omega) (by omega) (by rw [List.drop_zero];omega)
 rw [List.drop_zero]at this;exact this
theorem amx{r:bH}(aE:wI n r.Queue=some (dc gN r.Queue))(hc:ja r.b2)(acc:ap0)(cB:acc.length+(dc gN r.Queue).length≤3000000):
 Ao n r (gt acc)=some (acc++(dc gN r.Queue++iR r.b2)):=by
 have:=jN hc
 unfold Ao;rw [aE,aD,ko (by omega),aD,ams (by omega) hc,aD,ko (by rw [apT];omega),aD,Ib (by simp only [apT];omega),aD]
 simp only [List.append_assoc]
theorem amy{r:bH}(Z:An n r.bO=some (dc iS r.bO))(af:zY n r.Place=some (km r.Place))(au:r.bd.length≤32∧∀h∈r.bd,h.Key.length≤24∧e5 h.Count)
 (aE:wI n r.Queue=some (dc gN r.Queue)) (hc:ja r.b2) (acc:ap0) (cB:acc.length+(dc iS r.bO).length+(km r.Place).length+(dc lr r.bd).length+(dc gN r.Queue).length≤2000000):
 w2 n r (gt acc)=some (acc++(dc iS r.bO++(km r.Place++(dc lr r.bd++(dc gN r.Queue++iR r.b2))))):=by
 obtain⟨au,aQ⟩:=au;have CA:=iA (u:=r.bd.length) (by omega)
 have kJ:=cB;rw [show(dc lr r.bd).length=(eV r.bd.length).length+(fX lr r.bd).length by unfold dc;simp]at kJ
 have key:=kn (l:=r.bd) (E:=lr) (B:=2000000) (L:=λm acc i=>w1 n r m (gt acc) (i:Int)) (fin:=λacc=>Ao n r (gt acc))
  (λm i acc hi hb=>by
   obtain⟨g1,g2⟩:=kp aQ hi;unfold lr at hb ⊢;rw [apT]at hb;simp only [w1,E9,hi,cr hi,apR,apS,apJ,apL,bg,dw (show i≤9223372036854775806 by omega)]
   rw [qq (by omega) (by omega),aD,ko (by omega),aD,vj (by omega) g2,aD,ko (by rw [apT];omega),aD,List.append_assoc])
  (λm acc ha=>by simp only [w1,E9,apS,Nat.lt_irrefl,apK,apM])
 unfold w2;rw [Z,aD,ko (by omega),aD,af,aD,ko (by rw [apT];omega),aD,rD (by omega) (by omega),aD,ko (by simp only [apT];omega),aD]
 have:=key n 0 (((acc++dc iS r.bO)++km r.Place)++eV r.bd.length) (by omega) (by omega) (by rw [List.drop_zero];simp only [apT];omega)
 rw [List.drop_zero]at this;refine this.trans ?_;rw [amx hn aE hc _ (by simp only [apT];omega)]
 unfold dc;simp only [List.append_assoc]
end
section
variable {n:Nat} (hn:3000000≤n) (bB:n≤9223372036854775808)
include hn bB
end
section
variable {n:Nat} (hn:3000000≤n) (bB:n≤9223372036854775808) {s:ap0} (hs:s.length≤2000)
include hn bB hs
end
def yx{n:Nat}(hn:10≤n){z:Int}(h:ja z):hh n (IntKind.u64.wrap z)=some (iR z):=by
 obtain⟨Z,af⟩:=h;have e:IntKind.u64.wrap z=((z.toNat:Nat):Int):=by rw [IntKind.wrap_u64];omega
 rw [e];exact rx hn (by omega)
def rE{n:Nat}(hn:10≤n){k:Nat}(h:k<18446744073709551616):hh n (IntKind.u64.wrap (k:Int))=some (eV k):=by
 rw [sL h];exact rx hn h
def amz{n:Nat}(hn:10≤n){z:Int}(h:ja z):hh n z=some (iR z):=by
 obtain⟨Z,af⟩:=h;have e:z=((z.toNat:Nat):Int):=by omega
 have:=rx (n:=n) (u:=z.toNat) hn (by omega)
 rw [←e]at this;exact this
def amA{n:Nat}(b:Bool):Pw n b=some (sM b):=by cases b<;>rfl
section
variable {n:Nat} (hn:2000≤n)
include hn
theorem amB{l:List aY}(ag:l.length<n)(h:∀p∈l,H6 p)(cB:(dc jM l).length≤1000000):GS n l=some (dc jM l):=by
 have hlen:l.length≤(fX jM l).length:=H0 λv _=>by unfold jM fE;simp [Q8]
 unfold dc at cB ⊢;rw [apT]at cB
 have key:=kn (l:=l) (E:=jM) (B:=2000000) (L:=λm acc i=>xP n l m acc (i:Int)) (fin:=λacc=>some acc)
  (λm i acc hi hb=>by
   obtain⟨Z,af⟩:=kp h hi;have au:=nF af;unfold jM at hb ⊢;rw [apT]at hb;simp only [xP,GR,hi,cr hi,apR,apS,apJ,apL,bg,dw (show i≤9223372036854775806 by omega)]
   rw [qr (by omega) (by omega),aD,dB (by omega),bg,Q5 (by omega) af.2 (by omega),aD,dB (by rw [apT];omega),bg,List.append_assoc])
  (λm acc ha=>by simp only [xP,GR,apS,Nat.lt_irrefl,apK,apM,Pu])
 unfold GS;rw [rE (by omega) (by omega),aD]
 exact key n 0 _ (by omega) (by omega) (by rw [List.drop_zero];omega)
theorem amC{p:b1}(h0:e5 p.Version)(ag:p.aF.length≤16)(h:∀x∈p.aF,vq x)(cB:(km p).length≤1000000):Bn n p=some (km p):=by
 have ay:=nD h0;unfold km dc at cB ⊢;simp only [apT]at cB
 have key:=kn (l:=p.aF) (E:=sT) (B:=2000000) (L:=λm acc i=>xQ n p m acc (i:Int)) (fin:=λacc=>some acc)
  (λm i acc hi hb=>by
   obtain⟨Z,af,au,aQ,bj⟩:=kp h hi;unfold sT at hb ⊢;simp only [apT]at hb;simp only [xQ,GT,hi,cr hi,apR,apS,apJ,apL,bg,dw (show i≤9223372036854775806 by omega)]
   rw [vi (by omega) Z,aD,qr (by omega) (by omega),aD,vi (by omega) au,aD,vi (by omega) aQ,aD,qr (by omega) (by omega),aD]
   simp (disch:=omega) only [List.length_append,dB,bg,List.append_assoc])
  (λm acc ha=>by simp only [xQ,GT,apS,Nat.lt_irrefl,apK,apM,Pv])
 unfold Bn;rw [vi (by omega) h0,aD,rE (by omega) (by omega),aD,dB (by omega),bg,←List.append_assoc]
 exact key n 0 _ (by omega) (by omega) (by simp only [apT,List.drop_zero];omega)
theorem aa_{l:rB}(ag:l.length≤64)(h:∀x∈l,x.length≤24)(cB:(dc fE l).length≤1000000):Bo n l=some (dc fE l):=by
 unfold dc at cB ⊢;simp only [apT]at cB
 have key:=kn (l:=l) (E:=fE) (B:=2000000) (L:=λm acc i=>xR n l m acc (i:Int)) (fin:=λacc=>some acc)
  (λm i acc hi hb=>by
   have Z:=kp h hi;simp only [xR,GU,hi,cr hi,apR,apS,apJ,apL,bg,dw (show i≤9223372036854775806 by omega)]
   rw [qr (by omega) (by omega),aD]
   simp (disch:=omega) only [dB,bg])
  (λm acc ha=>by simp only [xR,GU,apS,Nat.lt_irrefl,apK,apM,Px])
 unfold Bo;rw [rE (by omega) (by omega),aD]
 exact key n 0 _ (by omega) (by omega) (by rw [List.drop_zero];omega)
theorem amD{o:Outcome}(aA:m4 o)(cB:(m3 o).length≤1000000):GZ n o=some (m3 o):=by
 obtain⟨au,aQ⟩:=Rf aA;have bj:=aA.2.2.1;have gv:=jN au;have ir:=jN aQ;have amq:=iA (u:=o.Out.length) (by omega)
 unfold m3 dc at cB ⊢;simp only [apT]at cB
 have key:=kn (l:=o.Out) (E:=bW) (B:=2000000) (L:=λm acc i=>xV n o m acc (i:Int)) (fin:=λacc=>some acc)
  (λm i acc hi hb=>by
   have af:=kp aA.2.2.2 hi;have au:=nF af;simp only [xV,GY,hi,cr hi,apR,apS,apJ,apL,bg,dw (show i≤9223372036854775806 by omega)]
   rw [Q5 (by omega) af.2 (by omega),aD,dB (by omega),bg])
  (λm acc ha=>by simp only [xV,GY,apS,Nat.lt_irrefl,apK,apM,Pz])
 unfold GZ;rw [yx (by omega) au,aD,yx (by omega) aQ,aD,dB (by omega),bg,rE (by omega) (by omega),aD,dB (by rw [apT];omega),bg]
 have:=key n 0 ((iR o.Status++iR o.Code)++eV o.Out.length) (by omega) (by omega) (by rw [List.drop_zero];simp only [apT];omega)
 rw [List.drop_zero]at this;refine this.trans ?_;simp only [List.append_assoc]
theorem amE(al:ap0→Int→Option ap0)(l:List bV)(i:Nat)(vR:i<l.length)(hi:i≤9223372036854775806)(ag:(l.getD i default).b'.length≤1000)(aA:∀r∈(l.getD i default).b',m4 r.Outcome)(acc:ap0)
 (cB:acc.length+(fX (λr:eI=>m3 r.Outcome) (l.getD i default).b').length≤1000000):
 uT n al l (i:Int) n acc 0=al (acc++fX (λr:eI=>m3 r.Outcome) (l.getD i default).b') ((i+1:Nat):Int):=by
 have key:=kn (l:=(l.getD i default).b') (E:=λr:eI=>m3 r.Outcome) (B:=1000000) (L:=λm acc j=>uT n al l (i:Int) m acc (j:Int)) (fin:=λacc=>al acc ((i+1:Nat):Int))
  (λm j acc hj hb=>by
   have af:=kp (P:=λr:eI=>m4 r.Outcome) aA hj
   simp only [uT,G1,apR,hj,cr hj,cr vR,apS,apJ,apL,bg,dw (show j≤9223372036854775806 by omega)]
   rw [amD hn af (by omega),aD,dB (by omega),bg])
  (λm acc ha=>by
   simp only [uT,G1,apR,cr vR,bg,apS,Nat.lt_irrefl,apK,apM,PB,dw hi])
 have:=key n 0 acc (by omega) (by omega) (by rw [List.drop_zero];exact cB)
 rw [List.drop_zero]at this;exact this
theorem amF{l:List bV}(ay:uN n l=some true)(ag:l.length≤32)(h:∀s∈l,sU s)(cB:(dc iS l).length≤900000):Br n l=some (dc iS l):=by
 unfold dc at cB ⊢;simp only [apT]at cB
 have key:=kn (l:=l) (E:=iS) (B:=1000000) (L:=λm acc i=>xW n l m acc (i:Int)) (fin:=λacc=>some acc)
  (λm i acc hi hb=>by
   have af:=kp h hi;obtain⟨⟨c1,c2⟩,⟨d1,d2⟩,bj,cb,de⟩:=af;have cS:ja (l.getD i default).Client:=⟨by omega,by omega⟩
   have al:ja (l.getD i default).Next:=⟨by omega,by omega⟩
   have gv:=jN cS;have ir:=jN al;have hk:=Cu ⟨d1,d2⟩;have ak:(l.getD i default).b'.length≤1000:=by rw [List.length_map]at cb;omega
   have aA:∀r∈(l.getD i default).b',m4 r.Outcome:=λr ak=>de _ (List.mem_map_of_mem ak)
   unfold iS at hb ⊢;rw [Ic]at hb ⊢;simp only [apT]at hb;simp only [xW,G2,apR,hi,cr hi,apS,apJ,apL,bg];rw [yx (by omega) cS,aD,dB (by omega),bg,yx (by omega) al,aD,dB (by rw [apT];omega),bg]
   refine(amE hn _ l i hi (by omega) ak aA _ (by simp only [apT];omega)).trans ?_
   simp only [List.append_assoc])
  (λm acc ha=>by simp only [xW,G2,apS,Nat.lt_irrefl,apK,apM,PA])
 unfold Br;rw [ay,aD,apN,apM,rE (by omega) (by omega),aD]
 have:=key n 0 (eV l.length) (by omega) (by omega) (by rw [List.drop_zero];omega)
 rw [List.drop_zero]at this;exact this
end
section
variable {n:Nat} (hn:2000≤n)
include hn
theorem amG{r:Request}(h:pu r)(acc:ap0)(cB:acc.length+(sM r.dX++mp r.dX (r.bp.Reads,r.bp.co)).length≤2000000)(kJ:(mp r.dX (r.bp.Reads,r.bp.co)).length≤1000000):
 Bq n r acc=some (acc++(sM r.dX++mp r.dX (r.bp.Reads,r.bp.co))):=by
 have bj:=h.2.2.2.2.1;rw [apT]at cB;unfold Bq;rw [amA,aD,dB (by omega),bg]
 cases hd:r.dX
 ·simp only [apM,Bp,mp,apZ,Bool.false_eq_true,List.append_nil]
 ·rw [hd]at bj cB kJ;obtain⟨⟨a7,a2⟩,b4,hR⟩:=bj;simp only at a7 a2 b4 hR
  simp only [mp,apY,apT]at cB kJ;rw [apL,aa_ hn a7 a2 (by omega),aD,dB (by rw [apT];omega),bg,aa_ hn b4 hR (by omega),aD]
  simp (disch:=omega) only [List.length_append,dB,bg,Bp,mp,if_true,List.append_assoc]
theorem amH{r:Request}(ay:qh n r=some 0)(h:pu r)(cB:(gN r).length≤1000000):GW n r=some (gN r):=by
 obtain⟨c1,c2,c3,⟨c4,c5⟩,ju,jc⟩:=id h;have gv:=jN c1;have ir:=jN c2;unfold gN dc at cB ⊢;simp only [apT]at cB
 have key:=kn (l:=r.aw) (E:=bW) (B:=900000) (L:=λm acc i=>xS n r m acc (i:Int)) (fin:=λacc=>Bq n r acc)
  (λm i acc hi hb=>by
   have af:=kp c5 hi;have au:=nF af;simp only [xS,GV,hi,cr hi,apR,apS,apJ,apL,bg,dw (show i≤9223372036854775806 by omega)]
   rw [Q5 (by omega) af.2 (by omega),aD,dB (by omega),bg])
  (λm acc ha=>by simp only [xS,GV,apS,Nat.lt_irrefl,apK,apM])
 unfold GW;rw [ay,aD];simp only [apJ,apN,apM];have t1:=qs (s:=r.bi) (by omega)
 have CA:=iA (u:=r.aw.length) (by omega)
 have v1:(fX bW r.aw).length≤1000:=by
  have:∀l:List bG,(∀v∈l,sN v)→(fX bW l).length≤100*l.length:=by
   intro l;induction l with
   |nil=>intro _;simp [fX]
   |cons v l bc=>
    intro bz;have g:=bz v (by simp)
    have g2:=Q6 g.2 (by have:=nF g;omega)
    have g3:=nF g;have g4:=bc λw hw=>bz w (by simp [hw])
    rw [vk,apT,apP];omega
  have:=this r.aw c5
  omega
 rw [yx (by omega) c1,aD,yx (by omega) c2,aD,dB (by omega),bg,qr (by omega) (by omega),aD,dB (by simp only [apT];omega),bg,
  rE (by omega) (by omega),aD,dB (by simp only [apT];omega),bg]
 have:=key n 0 (((iR r.Client++iR r.Seq)++fE r.bi)++eV r.aw.length) (by omega) (by omega) (by rw [List.drop_zero];simp only [apT];omega)
 rw [List.drop_zero]at this;refine this.trans ?_;rw [amG hn h _ (by simp only [apT,Cz];simp only [apT,Cz]at cB;omega) (by omega)]
 simp only [List.append_assoc]
theorem amI{l:List Request}(ag:l.length≤64)(h:∀r∈l,pu r∧qh n r=some 0)(cB:(dc gN l).length≤900000):xU n l=some (dc gN l):=by
 unfold dc at cB ⊢;simp only [apT]at cB
 have key:=kn (l:=l) (E:=gN) (B:=1000000) (L:=λm acc i=>xT n l m acc (i:Int)) (fin:=λacc=>some acc)
  (λm i acc hi hb=>by
   obtain⟨Z,af⟩:=kp h hi;simp only [xT,GX,hi,cr hi,apR,apS,apJ,apL,bg,dw (show i≤9223372036854775806 by omega)]
   rw [af,aD];simp only [apJ,apN,apM];rw [amH hn af Z (by omega),aD,dB (by omega),bg])
  (λm acc ha=>by simp only [xT,GX,apS,Nat.lt_irrefl,apK,apM,Py])
 unfold xU;simp only [fm,show¬ 64<l.length by omega,apK,apM]
 rw [rE (by omega) (by omega),aD]
 have:=key n 0 (eV l.length) (by omega) (by omega) (by rw [List.drop_zero];omega)
 rw [List.drop_zero]at this;exact this
end
def ls(r:bH)(A:List aY):Cy:=(r.Pos,A,r.bI.map jt,r.bO,r.Place,r.bd,r.Queue,r.b2)
section
variable {n:Nat} (hn:2000≤n)
include hn
theorem amJ{r:bH}(aE:xU n r.Queue=some (dc gN r.Queue))(hc:ja r.b2)(acc:ap0)(cB:acc.length+(dc gN r.Queue).length≤3000000):
 Bs n r acc=some (acc++(dc gN r.Queue++iR r.b2)):=by
 have:=jN hc
 unfold Bs;rw [aE,aD,dB (by omega),bg,amz (by omega) hc,aD,dB (by rw [apT];omega),bg]
 simp only [List.append_assoc]
theorem amK{r:bH}(Z:Br n r.bO=some (dc iS r.bO))(af:Bn n r.Place=some (km r.Place))(au:r.bd.length≤32∧∀h∈r.bd,h.Key.length≤24∧e5 h.Count)
 (aE:xU n r.Queue=some (dc gN r.Queue)) (hc:ja r.b2) (acc:ap0) (cB:acc.length+(dc iS r.bO).length+(km r.Place).length+(dc lr r.bd).length+(dc gN r.Queue).length≤2000000):
 xY n r acc=some (acc++(dc iS r.bO++(km r.Place++(dc lr r.bd++(dc gN r.Queue++iR r.b2))))):=by
 obtain⟨au,aQ⟩:=au;have CA:=iA (u:=r.bd.length) (by omega)
 have kJ:=cB;rw [show(dc lr r.bd).length=(eV r.bd.length).length+(fX lr r.bd).length by unfold dc;simp]at kJ
 have key:=kn (l:=r.bd) (E:=lr) (B:=2000000) (L:=λm acc i=>xX n r m acc (i:Int)) (fin:=λacc=>Bs n r acc)
  (λm i acc hi hb=>by
   obtain⟨g1,g2⟩:=kp aQ hi;unfold lr at hb ⊢;rw [apT]at hb;simp only [xX,G3,hi,cr hi,apR,apS,apJ,apL,bg,dw (show i≤9223372036854775806 by omega)]
   rw [qr (by omega) (by omega),aD,vi (by omega) g2,aD,dB (by omega),bg,dB (by rw [apT];omega),bg])
  (λm acc ha=>by simp only [xX,G3,apS,Nat.lt_irrefl,apK,apM])
 unfold xY;rw [Z,aD,af,aD,dB (by omega),bg,rE (by omega) (by omega),aD,dB (by rw [apT];omega),bg,dB (by simp only [apT];omega),bg]
 have:=key n 0 (acc++((dc iS r.bO++km r.Place)++eV r.bd.length)) (by omega) (by omega) (by rw [List.drop_zero];simp only [apT];omega)
 rw [List.drop_zero]at this;refine this.trans ?_;rw [amJ hn aE hc _ (by simp only [apT];omega)]
 unfold dc;simp only [List.append_assoc]
end
section
variable {n:Nat} (hn:3000000≤n) (bB:n≤9223372036854775808) {r:bH} {A:List aY} (hp:yv (ls r A)) (hs:(jb (ls r A)).length≤800000) (hg:∀q∈r.bI,ou q) (jj:r.bI.length≤1000)
include hn bB hp hs hg jj
theorem amL(Rg:xx n r.ar r.Pos=some (A,0))(Rh:uN n r.bO=some true)(Ri:∀q∈r.Queue,qh n q=some 0):Bt n r=some (jb (ls r A)):=by
 have amM:A.length≤(jb (ls r A)).length:=aa9 hp;have p1:=hs;unfold jb ls at hs;simp only [apT]at hs;have Rj:=amF (n:=n) (by omega) Rh hp.nG.1.1 hp.nG.1.2 (by show(dc iS r.bO).length≤_;omega)
 have Rk:=amC (n:=n) (by omega) hp.rC.1.1 hp.rC.1.2.1 hp.rC.1.2.2 (by show(km r.Place).length≤_;omega)
 have Rl:=amI (n:=n) (by omega) hp.nH.1 (λq aE=>⟨(hp.nH.2 q aE).1,Ri q aE⟩) (by show(dc gN r.Queue).length≤_;omega)
 have aW:=amB (n:=n) (l:=A) (by omega) (by omega) hp.pw.1.2 (by omega)
 have Di:e5 r.Pos:=hp.pos;have i1:(ml r.Pos).length≤10:=nD hp.pos;have CA:=iA (u:=r.bI.length) (by omega)
 have kV:dc fE (r.bI.map jt)=eV r.bI.length++fX (λq=>fE (jt q)) r.bI:=by
  unfold dc;rw [Ic,List.length_map]
 rw [kV]at hs;simp only [apT]at hs
 have j:∀B:ap0,B.length≤1000000→xY n r B=some (B++(dc iS r.bO++(km r.Place++(dc lr r.bd++(dc gN r.Queue++iR r.b2))))):=λB cB=>
  amK (by omega) Rj Rk hp.bU Rl hp.Re B (by omega)
 have key:=kn (l:=r.bI) (E:=λq=>fE (jt q)) (B:=1000000) (L:=λm acc i=>xZ n r m acc (i:Int)) (fin:=λacc=>xY n r acc)
  (λm i acc hi hb=>by
   have g:=kp hg hi;have g2:=aa5 g;simp only [xZ,G4,hi,cr hi,apR,apS,apJ,apL,bg,dw (show i≤9223372036854775806 by omega)]
   rw [aa4 g hn,aD,qr (by omega) (by omega),aD,dB (by omega),bg])
  (λm acc ha=>by simp only [xZ,G4,apS,Nat.lt_irrefl,apK,apM])
 unfold Bt;rw [Rg,aD,vi (by omega) Di,aD,aW,aD,dB (by omega),bg,rE (by omega) (by omega),aD,dB (by simp only [apT];omega),bg]
 have:=key n 0 ((ml r.Pos++dc jM A)++eV r.bI.length) (by omega) (by omega) (by rw [List.drop_zero];simp only [apT];omega)
 rw [List.drop_zero]at this;refine this.trans ?_;rw [j _ (by simp only [apT];omega)]
 unfold jb ls;simp only
 rw [kV];simp only [List.append_assoc]
end
section
variable {n:Nat} (hn:3000000≤n) (bB:n≤9223372036854775808) {r:bH} {A:List aY} (hp:yv (ls r A)) (hs:(jb (ls r A)).length≤800000) (hg:∀q∈r.bI,ou q) (jj:r.bI.length≤1000)
include hn bB hp hs hg jj
theorem amN(Rg:wL n r.ar r.Pos=some (A,0))(Rh:sf n r.bO=some true)(Ri:∀q∈r.Queue,o0 n q=some 0):w4 n r=some (jb (ls r A)):=by
 have amM:A.length≤(jb (ls r A)).length:=aa9 hp;have p1:=hs;unfold jb ls at hs;simp only [apT]at hs;have Rj:=amr (n:=n) (by omega) Rh hp.nG.1.1 hp.nG.1.2 (by show(dc iS r.bO).length≤_;omega)
 have Rk:=amn (n:=n) (by omega) hp.rC.1.1 hp.rC.1.2.1 hp.rC.1.2.2 (by show(km r.Place).length≤_;omega)
 have Rl:=amw (n:=n) (by omega) hp.nH.1 (λq aE=>⟨(hp.nH.2 q aE).1,Ri q aE⟩) (by show(dc gN r.Queue).length≤_;omega)
 have aW:=amm (n:=n) (l:=A) (by omega) (by omega) hp.pw.1.2 (by omega)
 have Di:e5 r.Pos:=hp.pos;have i1:(ml r.Pos).length≤10:=nD hp.pos;have CA:=iA (u:=r.bI.length) (by omega)
 have kV:dc fE (r.bI.map jt)=eV r.bI.length++fX (λq=>fE (jt q)) r.bI:=by
  unfold dc;rw [Ic,List.length_map]
 rw [kV]at hs;simp only [apT]at hs
 have j:∀B:ap0,B.length≤1000000→w2 n r (gt B)=some (B++(dc iS r.bO++(km r.Place++(dc lr r.bd++(dc gN r.Queue++iR r.b2))))):=λB cB=>
  amy (by omega) Rj Rk hp.bU Rl hp.Re B (by omega)
 have key:=kn (l:=r.bI) (E:=λq=>fE (jt q)) (B:=1000000) (L:=λm acc i=>w3 n r m (gt acc) (i:Int)) (fin:=λacc=>w2 n r (gt acc))
  (λm i acc hi hb=>by
   have g:=kp hg hi;have g2:=aa5 g;simp only [w3,E',hi,cr hi,apR,apS,apJ,apL,bg,dw (show i≤9223372036854775806 by omega)]
   rw [aa3 g hn,aD,qq (by omega) (by omega),aD,ko (by omega),aD])
  (λm acc ha=>by simp only [w3,E',apS,Nat.lt_irrefl,apK,apM])
 unfold w4;rw [Rg,aD,vj (by omega) Di,aD,QY,ko (by simp;omega),aD,aW,aD,ko (by simp;omega),aD,rD (by omega) (by omega),aD,ko (by simp only [apT,apQ];omega),aD]
 have:=key n 0 ((([]++ml r.Pos)++dc jM A)++eV r.bI.length) (by omega) (by omega) (by rw [List.drop_zero];simp only [apT,apQ];omega)
 rw [List.drop_zero]at this;refine this.trans ?_;rw [j _ (by simp only [apT,apQ];omega)]
 unfold jb ls;simp only
 rw [kV];simp only [List.append_assoc,List.nil_append]
end
def amO{L:Nat→Int→ap4}{len:Nat}{Q:Nat→Prop}{fin:ap4}
 (step:∀m i,i<len→L (m+1) (i:Int)=some false∨(Q i∧L (m+1) (i:Int)=L m ((i+1:Nat):Int))) (stop:∀m,L (m+1) (len:Int)=fin):
 ∀m i,len<m+i→i≤len→L m (i:Int)=some false∨((∀k,i≤k→k<len→Q k)∧L m (i:Int)=fin):=by
 intro m;induction m with
 |zero=>intro i Z af;omega
 |succ m bc=>
  intro i Z af;by_cases hi:i<len
  ·rcases step m i hi with h|⟨aE,h⟩
   ·exact Or.inl h
   ·rcases bc (i+1) (by omega) (by omega)with au|⟨au,aQ⟩
    ·exact Or.inl (h.trans au)
    ·refine Or.inr ⟨λk hk lE=>?_,h.trans aQ⟩
     by_cases e:k=i
     ·subst e;exact aE
     ·exact au k (by omega) lE
  ·obtain rfl:i=len:=by omega
   exact Or.inr ⟨λk hk lE=>by omega,stop m⟩
def sW{L:Nat→Int→ap4}{len m:Nat}{Q:Nat→Prop}{fin:ap4}(hm:len<m)
 (step:∀m i,i<len→L (m+1) (i:Int)=some false∨(Q i∧L (m+1) (i:Int)=L m ((i+1:Nat):Int))) (stop:∀m,L (m+1) (len:Int)=fin):
 L m 0=some false∨((∀k,k<len→Q k)∧L m 0=fin):=by
 rcases amO step stop m 0 (by omega) (by omega)with h|⟨Z,af⟩
 ·exact Or.inl h
 ·exact Or.inr ⟨λk hk=>Z k (by omega) hk,af⟩
structure aba(f:e9):Prop where
 r:f.Reads.length≤100
 w:f.co.length≤100
 rs:∀i,i<f.Reads.length→(f.Reads.getD i default).length≤100
 ws:∀i,i<f.co.length→(f.co.getD i default).length≤100
def amP{n:Nat}(hn:2000≤n)(f:e9):uG n f 100=some false∨(aba f∧uG n f 100=some true):=by
 unfold uG;simp only [fm,eb];by_cases Z:f.Reads.length≤100
 ·by_cases af:f.co.length≤100
  ·simp only [show¬ 100<f.Reads.length by omega,show¬ 100<f.co.length by omega,apK,Bool.or_false,apM]
   have hw:=sW (L:=uF n f) (len:=f.co.length) (m:=n) (Q:=λi=>(f.co.getD i default).length≤100) (fin:=some true) (by omega)
    (λm i hi=>by
     simp only [uF,FK,hi,cr hi,apR,apS,fm,apJ,apL,bg,dw (show i≤9223372036854775806 by omega)]
     by_cases h:(f.co.getD i default).length≤100
     ·right;simp only [show¬ 100<(f.co.getD i default).length by omega,apK,apM,h,true_and]
     ·left;simp only [show 100<(f.co.getD i default).length by omega,apJ,apL])
    (λm=>by simp only [uF,FK,NA,apS,Nat.lt_irrefl,apK,apM])
   have ak:=sW (L:=xj n f) (len:=f.Reads.length) (m:=n) (Q:=λi=>(f.Reads.getD i default).length≤100) (fin:=uF n f n 0) (by omega)
    (λm i hi=>by
     simp only [xj,FL,hi,cr hi,apR,apS,fm,apJ,apL,bg,dw (show i≤9223372036854775806 by omega)]
     by_cases h:(f.Reads.getD i default).length≤100
     ·right;simp only [show¬ 100<(f.Reads.getD i default).length by omega,apK,apM,h,true_and]
     ·left;simp only [show 100<(f.Reads.getD i default).length by omega,apJ,apL])
    (λm=>by simp only [xj,FL,NB,apS,Nat.lt_irrefl,apK,apM])
   rcases ak with ak|⟨hr,im⟩
   ·exact Or.inl ak
   ·rw [im];rcases hw with hw|⟨wn,zv⟩
    ·exact Or.inl hw
    ·exact Or.inr ⟨⟨Z,af,hr,wn⟩,zv⟩
  ·left;simp only [show 100<f.co.length by omega,apJ,apX,apL]
 ·left;simp only [show 100<f.Reads.length by omega,apJ,Bool.true_or,apL]
structure Rm(r:Request):Prop where
 p:r.bi.length≤300
 a:r.aw.length≤40
 vs:∀i,i<r.aw.length→(r.aw.getD i default).S.length≤300
 f:aba r.bp
def amQ{n:Nat}(hn:2000≤n)(r:Request):AR n r=some false∨(Rm r∧AR n r=some true):=by
 unfold AR;simp only [fm,eb];by_cases Z:r.bi.length≤300
 ·by_cases af:r.aw.length≤40
  ·simp only [show¬ 300<r.bi.length by omega,show¬ 40<r.aw.length by omega,apK,Bool.or_false,Bool.false_or,apO,apL]
   rcases amP hn r.bp with h|⟨au,h⟩
   ·left;rw [show uG n _ 100=some false from h];rfl
   ·rw [show uG n (⟨r.bp.dV,r.bp.Reads,r.bp.co⟩:e9) 100=some true from h,aD]
    simp only [apN,apM]
    rcases sW (L:=xk n r) (len:=r.aw.length) (m:=n) (Q:=λi=>(r.aw.getD i default).S.length≤300) (fin:=some true) (by omega)
     (λm i hi=>by
      simp only [xk,FM,hi,cr hi,apR,apS,fm,apJ,apL,bg,dw (show i≤9223372036854775806 by omega)]
      by_cases h:(r.aw.getD i default).S.length≤300
      ·right;simp only [show¬ 300<(r.aw.getD i default).S.length by omega,apK,apM,h,true_and]
      ·left;simp only [show 300<(r.aw.getD i default).S.length by omega,apJ,apL])
     (λm=>by simp only [xk,FM,NC,apS,Nat.lt_irrefl,apK,apM])with aQ|⟨aQ,bj⟩
    ·exact Or.inl aQ
    ·exact Or.inr ⟨⟨Z,af,aQ,au⟩,bj⟩
  ·left;simp only [show 40<r.aw.length by omega,apJ,apX,Bool.true_or,apN,apM,aD,apL]
 ·left;simp only [show 300<r.bi.length by omega,apJ,Bool.true_or,apN,apM,aD,apL]
def m5(r:Row):bG:=(r.br.getD (r.br.length-1) default).bo
def gG:List Row→List aY
 |[]=>[]
 |r::l=>if(m5 r).Kind=0 then gG l else⟨r.Key,m5 r⟩::gG l
structure yy(n:Nat)(a:Int)(r:Row):Prop where
 l:r.br.length<n
 b:r.br.length≤1000000000
 p:0<r.br.length
 s:∀i,i<r.br.length→(r.br.getD i default).cd≤a
def amR{n:Nat}{a:Int}{r:Row}(h:yy n a r):Et n r a=some ((r.br.length:Nat):Int):=by
 have ag:=h.l;have hb:=h.b;unfold Et
 have key:∀m i,r.br.length<m+i→i≤r.br.length→zV n a r m (i:Int)=some ((r.br.length:Nat):Int):=by
  intro m;induction m with
  |zero=>intro i Z af;omega
  |succ m bc=>
   intro i Z af;simp only [zV,K6,K5,apS,apR];by_cases hi:i<r.br.length
   ·simp only [hi,cr hi,apJ,apX,bg,apL,h.s i hi,dw (show i≤9223372036854775806 by omega)]
    exact bc (i+1) (by omega) (by omega)
   ·obtain rfl:i=r.br.length:=by omega
    simp only [Nat.lt_irrefl,apK,apO,Bool.true_or,bg,apM]
 exact key n 0 (by omega) (by omega)
def amS{n:Nat}{a:Int}{r:Row}(h:yy n a r):Eu n r a=some (m5 r):=by
 have ag:=h.l;have hb:=h.b;have hp:=h.p;unfold Eu;rw [amR h,aD];have e:ap2 (((r.br.length:Nat):Int)-1)=((r.br.length-1:Nat):Int):=by(try unfold ap2);rw [IntKind.wrap_i64];omega
 simp only [show¬ ((r.br.length:Nat):Int)=0 by omega,apK,apM,e,cr (show r.br.length-1<r.br.length by omega),bg,apR]
 rfl
def amT{n:Nat}{a:Int}{r:Row}(h:yy n a r):AZ n r a=some (m5 r):=by
 have ag:=h.l;have hb:=h.b;have hp:=h.p;unfold AZ
 have key:∀m i K N S,r.br.length<m+i→i≤r.br.length→AY n a r m K N S (i:Int)=some (if i=r.br.length then⟨K,N,S⟩else m5 r):=by
  intro m;induction m with
  |zero=>intro i K N S Z af;omega
  |succ m bc=>
   intro i K N S Z af;simp only [AY,N6,N5,F4,apS,apR];by_cases hi:i<r.br.length
   ·simp only [hi,cr hi,apJ,bg,apL,h.s i hi,dw (show i≤9223372036854775806 by omega)]
    rw [bc (i+1) _ _ _ (by omega) (by omega),if_neg (show¬ i=r.br.length by omega)]
    by_cases e:i+1=r.br.length
    ·rw [if_pos e];unfold m5;rw [←e,Nat.add_sub_cancel]
    ·rw [if_neg e]
   ·obtain rfl:i=r.br.length:=by omega
    simp only [Nat.lt_irrefl,apK,apM,apY]
 have:=key n 0 0 0 [] (by omega) (by omega)
 rw [if_neg (by omega)]at this
 exact this
section
variable {n:Nat} {s:ar} {a:Int} (ag:s.Rows.length≤1000) (hn:2000≤n) (h:∀i,i<s.Rows.length→yy n a (s.Rows.getD i default)) (a':s.bw≤a) (ha:a≤s.bq)
include ag hn h a' ha
theorem amU(ay:ud n s=some true):wL n s a=some (gG s.Rows,0):=by
 have key:∀m i acc,s.Rows.length<m+i→i≤s.Rows.length→acc.length≤i→zX n a s m (i:Int) acc=some (acc++gG (s.Rows.drop i),0):=by
  intro m;induction m with
  |zero=>intro i acc Z af;omega
  |succ m bc=>
   intro i acc Z af au;simp only [zX,K8,apS];by_cases hi:i<s.Rows.length
   ·simp only [hi,cr hi,apR,apJ,apL,bg];rw [amS (h i hi),aD,gE s.Rows i default hi,gG];by_cases k:(m5 (s.Rows.getD i default)).Kind=0
    ·simp only [k,apJ,apN,apM,zW,dw (show i≤9223372036854775806 by omega),apY]
     exact bc (i+1) _ (by omega) (by omega) (by omega)
    ·simp only [k,apK,apO,apL,apU,zW,dw (show i≤9223372036854775806 by omega),H5 (show(acc.length+1)*48≤140737488355328 by omega),bg,apZ]
     rw [bc (i+1) _ (by omega) (by omega) (by rw [apT,apU];omega)]
     simp
   ·obtain rfl:i=s.Rows.length:=by omega
    simp only [Nat.lt_irrefl,apK,apM,K7,iZ s.Rows _ hi,gG,List.append_nil]
 unfold wL;rw [ay,aD]
 have ak:Es n s a=some 0:=by
  unfold Es;simp only [show¬ a<s.bw by omega,show¬ s.bq<a by omega,apK,apM]
 simp only [apN,apM,ak,aD,apJ];exact key n 0 [] (by omega) (by omega) (by simp)
theorem amV(ay:uK n s=some true):xx n s a=some (gG s.Rows,0):=by
 have key:∀m i acc,s.Rows.length<m+i→i≤s.Rows.length→acc.length≤i→xw n a s m acc (i:Int)=some (acc++gG (s.Rows.drop i)):=by
  intro m;induction m with
  |zero=>intro i acc Z af;omega
  |succ m bc=>
   intro i acc Z af au;simp only [xw,Ot,apS];by_cases hi:i<s.Rows.length
   ·simp only [hi,cr hi,apR,apJ,apL,bg];rw [amT (h i hi),aD,gE s.Rows i default hi,gG];by_cases k:(m5 (s.Rows.getD i default)).Kind=0
    ·simp only [k,apJ,apN,apM,A0,dw (show i≤9223372036854775806 by omega),apY]
     exact bc (i+1) _ (by omega) (by omega) (by omega)
    ·simp only [k,apK,apO,apL,apU,A0,dw (show i≤9223372036854775806 by omega),H5 (show(acc.length+1)*48≤140737488355328 by omega),bg,apZ]
     rw [bc (i+1) _ (by omega) (by omega) (by rw [apT,apU];omega)]
     simp
   ·obtain rfl:i=s.Rows.length:=by omega
    simp only [Nat.lt_irrefl,apK,apM,Oq,iZ s.Rows _ hi,gG,List.append_nil]
 unfold xx Ou;rw [ay,aD];simp only [show¬ a<s.bw by omega,show¬ s.bq<a by omega,apK,apM,apN]
 rw [show xw n a s n [] 0=_ from key n 0 [] (by omega) (by omega) (by simp),aD]
 rfl
end
def abb{n:Nat}{s:ar}(hs:mo s=true)(ay:∀i,i<s.Rows.length→(s.Rows.getD i default).br.length<n∧(s.Rows.getD i default).br.length≤1000000000)(i:Nat)(hi:i<s.Rows.length):yy n s.bq (s.Rows.getD i default):=by
 unfold mo at hs;rw [Bool.and_eq_true,kl]at hs;have Z:=hs.2 i hi;rw [Bool.and_eq_true]at Z;have af:=Z.2;unfold qA at af;rw [Bool.and_eq_true,kl]at af;obtain⟨au,aQ⟩:=af;refine⟨(ay i hi).1,(ay i hi).2,?_,λk hk=>?_⟩
 ·by_cases e:(s.Rows.getD i default).br.length=0
  ·rw [e]at au;simp at au
  ·omega
 ·have bj:=aQ k hk;unfold vo at bj;simp only [Bool.and_eq_true,Bool.not_eq_true',decide_eq_false_iff_not]at bj;have:=bj.1.1.2
  omega
def yz:List ap0→Prop
 |[]=>True
 |k::l=>(∀j∈l,Op.bytesLess k j=true)∧yz l
def abc:∀l:List ap0,(∀i,i+1<l.length→Op.bytesLess (l.getD i []) (l.getD (i+1) [])=true)→yz l
 |[],_=>trivial
 |k::l,h=>by
  have bc:=abc l λi hi=>by have:=h (i+1) (by simpa using hi);simpa using this
  refine⟨λj hj=>?_,bc⟩
  cases l with
  |nil=>simp at hj
  |cons al l=>
   have h0:Op.bytesLess k al=true:=by simpa using h 0 (by simp)
   rcases List.mem_cons.1 hj with rfl|hj
   ·exact h0
   ·exact aaG _ _ _ h0 (bc.1 j hj)
def abd:∀(l:List ap0) (i:Nat),yz l→i+1<l.length→Op.bytesLess (l.getD i []) (l.getD (i+1) [])=true
 |[],i,_,h=>by simp at h
 |k::l,0,⟨Z,_⟩,h=>by
  cases l with
  |nil=>simp at h
  |cons al l=>simpa using Z al (by simp)
 |k::l,i+1,⟨_,af⟩,h=>by
  have:=abd l i af (by simpa using h)
  simpa using this
def Rn:∀l:List Row,(∀p∈gG l,p.Key∈l.map (·.Key))
 |[],p,h=>by simp [gG]at h
 |r::l,p,h=>by
  unfold gG at h;by_cases k:(m5 r).Kind=0
  ·rw [if_pos k]at h;have:=Rn l p h
   simp only [List.map_cons,List.mem_cons];exact Or.inr this
  ·rw [if_neg k]at h;rcases List.mem_cons.1 h with rfl|h
   ·simp
   ·have:=Rn l p h
    simp only [List.map_cons,List.mem_cons];exact Or.inr this
def abe:∀l:List Row,yz (l.map (·.Key))→yz ((gG l).map (·.Key))
 |[],_=>trivial
 |r::l,h=>by
  obtain⟨Z,af⟩:=h;have bc:=abe l af;unfold gG;by_cases k:(m5 r).Kind=0
  ·rw [if_pos k];exact bc
  ·rw [if_neg k];refine⟨λj hj=>?_,bc⟩
   obtain⟨p,hp,rfl⟩:=List.mem_map.1 hj;exact Z _ (Rn l p hp)
def Ie:∀(l:List Row) (p:aY),p∈gG l→∃r∈l,p=⟨r.Key,m5 r⟩∧(m5 r).Kind≠0
 |[],p,h=>by simp [gG]at h
 |r::l,p,h=>by
  unfold gG at h;by_cases k:(m5 r).Kind=0
  ·rw [if_pos k]at h;obtain⟨x,hx,e⟩:=Ie l p h;exact⟨x,by simp [hx],e⟩
  ·rw [if_neg k]at h;rcases List.mem_cons.1 h with rfl|h
   ·exact⟨r,by simp,rfl,k⟩
   ·obtain⟨x,hx,e⟩:=Ie l p h;exact⟨x,by simp [hx],e⟩
def abf{s:ar}(hs:mo s=true)(hb:∀i,i<s.Rows.length→(s.Rows.getD i default).br.length≤1000000000)(i:Nat)(hi:i<s.Rows.length):iQ (s.Rows.getD i default).Key=true∧js (m5 (s.Rows.getD i default))=true:=by
 have h0:=abb (n:=1000000001) hs (λi hi=>⟨by have:=hb i hi;omega,hb i hi⟩) i hi
 unfold mo at hs;rw [Bool.and_eq_true,kl]at hs;have Z:=hs.2 i hi;simp only [Bool.and_eq_true]at Z;refine⟨Z.1.1,?_⟩
 have af:=Z.2;unfold qA at af;rw [Bool.and_eq_true,kl]at af;have hp:=h0.p;have bj:=af.2 ((s.Rows.getD i default).br.length-1) (by omega)
 unfold vo at bj;simp only [Bool.and_eq_true]at bj;exact bj.1.2
end Go.Ab.Y

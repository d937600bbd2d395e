/- The plain law: what the functions compute answers as the statement says. -/
import Derived.Lib.ItoaLen
import Derived.Test.YtcjbfnojhpfchaaGreatDoorPlainA
set_option linter.all false
namespace Go.Ab.Y
open Go Go.Ab Go.Proofs
section
variable {l:List Token}
def fl(l:List Token)(e:Expr):Prop:=∀(i d:Nat) (R:List Token),cl l i (cS (b5 e)) R→iB R<(ch e.Op:Int)→d+2*fV e≤26→
 if ch e.Op=9 then oC l i d e (i+(cS (b5 e)).length) (24*(cS (b5 e)).length+20)else f' l i d (ch e.Op) e (i+(cS (b5 e)).length) (24*(cS (b5 e)).length+40-2*ch e.Op)
theorem Px(ab:l.length≤1000000000)(e:Expr)(t:Token)(eH:ch e.Op=9)(aC:cS (b5 e)=[t])(hu:∀n i d,i<l.length→cN (l.getD i default)=t→mj (n+1) ((d:Nat):Int) ⟨l,(i:Int)⟩=some (.ret e ((i+1:Nat):Int))):fl l e:=by
 intro i d R aI f8 hd;rw [if_pos eH];intro n hn;obtain⟨n,rfl⟩:∃j,n=j+1:=⟨n-1,by omega⟩
 rw [aC]at aI ⊢;exact hu n i d aI.lt aI.hd
theorem Iu{t u:Token}(h:cN t=u):t.Kind=u.Kind∧t.Text=u.Text∧t.N=u.N:=by subst h;exact⟨rfl,rfl,rfl⟩
theorem y'(ab:l.length≤1000000000)(hg:kv l){e:Expr}(cG:gt e)(h:fl l e):py l e:=by
 have Rv:=Pt e.Op
 have cW:cS (b5 e)≠[]:=by
  have:=It e 0 cG
  unfold eB fW at this
  rwa [if_neg (by omega)]at this
 have D8:0<(cS (b5 e)).length:=List.length_pos_iff.2 cW
 -- amW amX, from any level below
 have core:∀(lv i d:Nat) (R:List Token),1≤lv→lv≤8→lv≤ch e.Op→cl l i (cS (b5 e)) R→iB R<(lv:Int)→d+2*fV e≤26→f' l i d lv e (i+(cS (b5 e)).length) (24*(cS (b5 e)).length+40-2*lv):=by
  intro lv i d R Z dh gh aI f8 hd;have tk:=aI.Pv cW;have hc:=h i d R aI (by omega) hd
  by_cases eH:ch e.Op=9
  ·rw [if_pos eH]at hc;have kJ:=hc.down (by rw [aI.is];exact ahb e cG (by omega) R)
   have:=f'.Ir (lv:=lv) (8-lv) (by rw [show lv+(8-lv)=8 by omega];exact kJ) Z (by omega) (by rw [tk];exact f8) (λ_ _=>by rw [aI.is];exact WO (fV e) e (Nat.le_refl _) cG (by omega) R)
   exact this.mono (by omega)
  ·rw [if_neg eH]at hc;have:=f'.Ir (lv:=lv) (ch e.Op-lv) (by rw [show lv+(ch e.Op-lv)=ch e.Op by omega];exact hc) Z (by omega) (by rw [tk];exact f8) (λ_ _=>by rw [aI.is];exact WO (fV e) e (Nat.le_refl _) cG (by omega) R)
   exact this.mono (by omega)
 intro lv i d R Z dh aI f8 hd;by_cases hp:ch e.Op<lv
 ·have amY:d+2*fV e≤25:=by rcases hd with h|h<;>omega
  have bf:=ti e
  have rO:eB e lv=a_ [40]::(cS (b5 e)++[a_ [41]]):=by
   unfold eB fW;rw [if_pos hp];simp only [cS,rN]
  have tk:=aI.Pv (It e lv cG);rw [rO]at aI tk ⊢;simp only [anI,anM,anJ]at tk ⊢;have WS:=aI.fu;have y2:=WS.jH;have hin:=core 1 (i+1) (d+1) _ (by omega) (by omega) (by omega) WS.k3 (by show iB (a_ [41]::R)<1;rw [show iB (a_ [41]::R)=0 from rfl];omega) (by omega)
  have nw:=y7.of ab (by rw [aI.is];rfl) hin (by rw [y2.is];rfl)
  have pz:=oC.paren ab hg aI (by omega) nw
  have kJ:=pz.down (by rw [aI.is];rfl)
  have:=f'.Ir (lv:=lv) (8-lv) (by rw [show lv+(8-lv)=8 by omega];exact kJ) Z (by omega) (by rw [show i+1+(cS (b5 e)).length+1=i+((cS (b5 e)).length+(0+1)+1)by omega,tk];exact f8) (λ_ _=>by rw [aI.is];rfl)
  rw [show i+1+(cS (b5 e)).length+1=i+((cS (b5 e)).length+(0+1)+1)by omega]at this
  exact this.mono (by omega)
 ·have rO:eB e lv=cS (b5 e):=by unfold eB fW;rw [if_neg hp]
  rw [rO]at aI ⊢;exact core lv i d R Z dh (by omega) aI f8 (by rcases hd with h|h<;>omega)
theorem y_{e:Expr}(cG:gt e)(bH:py l e)
 (ahg:ch e.Op=1∨ch e.Op=2∨ch e.Op=5∨ch e.Op=6∨ch e.Op=7→∀(i d n:Nat) (R:List Token),cl l i (cS (b5 e)) R→iB R≤(ch e.Op:Int)→d+2*fV e≤26→24*(cS (b5 e)).length+40≤n+2*ch e.Op+1→
  ∃j,j≤(cS (b5 e)).length∧hB (n+1) (ch e.Op:Int) (d:Int) ⟨l,(i:Int)⟩=pk n (hB n) (nK n) (mj n) (nL n) (ch e.Op:Int) (d:Int) ⟨l,(i:Int)⟩ (n-j) ((i+(cS (b5 e)).length:Nat):Int) e.Op e.N e.S e.aw):Pu l e:=by
 intro L i d R cL aI f8 hd n hn;by_cases hp:ch e.Op=L
 ·have rO:eB e L=cS (b5 e):=by unfold eB fW;rw [if_neg (by omega)]
  rw [rO]at aI hn ⊢;subst hp;exact ahg cL i d n R aI f8 (by omega) hn
 ·have rO:eB e (L+1)=eB e L:=by
   unfold eB fW;by_cases h:ch e.Op<L
   ·rw [if_pos h,if_pos (by omega)]
   ·rw [if_neg h,if_neg (by omega)]
  have h:=bH (L+1) i d R (by omega) (by omega) (by rw [rO];exact aI) (by omega) (Or.inl hd) n (by rw [rO];omega)
  rw [rO]at h;refine⟨0,by omega,?_⟩
  rw [CW];unfold sU;simp only [fU,show¬ L=3 by omega,show¬ L=8 by omega,anD,anF]
  rw [bD (by omega),h]
  simp only [ak,ax.on,Nat.sub_zero]
theorem ahh(ab:l.length≤1000000000)(hg:kv l):∀(h:Nat) (e:Expr),fV e≤h→gt e→py l e∧Pu l e:=by
 intro h;induction h with
 |zero=>intro e he;rw [ti]at he;omega
 |succ h aG=>
  intro e he cG;rcases y9 e cG with⟨Z,al⟩|⟨Z,al⟩|⟨Z,al⟩|⟨ah,al⟩|⟨a,al,ha,bf,eo⟩|⟨a,b,al,ha,hb,bf,eo⟩
  ·have bH:py l e:=y' ab hg cG (by
    rw [al];refine Px ab _ (m8 e.N) rfl rfl λn i d hi aC=>?_
    obtain⟨Z,aa,ai⟩:=Iu aC;rw [y8 ab hi,Z,ai];rfl)
   exact⟨bH,y_ cG bH (λhc=>by rw [Z]at hc;exact absurd hc (by decide))⟩
  ·have bH:py l e:=y' ab hg cG (by
    rw [al];refine Px ab _ (In e.S) rfl rfl λn i d hi aC=>?_
    obtain⟨Z,aa,ai⟩:=Iu aC;rw [y8 ab hi,Z,aa];rfl)
   exact⟨bH,y_ cG bH (λhc=>by rw [Z]at hc;exact absurd hc (by decide))⟩
  ·have bH:py l e:=y' ab hg cG (by
    rw [al];refine Px ab _ (ho e.S) rfl rfl λn i d hi aC=>?_
    obtain⟨Z,aa,ai⟩:=Iu aC;rw [y8 ab hi,Z,aa];rfl)
   exact⟨bH,y_ cG bH (λhc=>by rw [Z]at hc;exact absurd hc (by decide))⟩
  ·have gh:ch e.Op=9:=by
    have:e.Op=25∨e.Op=26∨e.Op=27:=by omega
    rcases this with h|h|h<;>rw [h]<;>decide
   have bH:py l e:=y' ab hg cG (by
    intro i d R aI f8 hd;rw [if_pos gh];generalize e.Op=op at ah al
    have aC:cS (b5 e)=[iN op,a_ [40],a_ [41]]:=by
     rw [al];simp only [b5,js,k2];rw [if_neg (by omega),if_neg (by omega),if_neg (by omega)];rfl
    rw [aC]at aI ⊢;rw [al];exact λn hn=>oC.ag8 ah ab hg aI n (by simp only [anI,anJ]at hn;omega))
   exact⟨bH,y_ cG bH (λhc=>by omega)⟩
  ·obtain⟨C3,Py⟩:=aG a (by omega) ha
   have gh:ch e.Op=9∨ch e.Op=3∨ch e.Op=8:=by
    have:e.Op=9∨e.Op=18∨e.Op=20∨e.Op=21∨e.Op=22∨e.Op=23∨e.Op=24:=by omega
    rcases this with h|h|h|h|h|h|h<;>rw [h]<;>decide
   have bH:py l e:=y' ab hg cG (by
    intro i d R aI f8 hd;rw [bf]at hd;have amZ:=ti a;generalize e.Op=op at eo al gh f8
    have cW:=It a 3 ha;by_cases oD:op=18
    ·subst oD;have aC:cS (b5 e)=dp [110,111,116]::eB a 3:=by rw [al];rfl
     rw [if_neg (show¬ ch 18=9 by decide)]
     rw [aC]at aI ⊢;have:=C3 3 (i+1) (d+1) R (by omega) (by omega) aI.fu f8 (Or.inl (by omega))
     have aa:=f'.WM (op:=18) (Or.inl ⟨rfl,rfl,rfl⟩) ab (by rw [aI.is];rfl) (by omega) this
     rw [al];simp only [anI];rw [show i+((eB a 3).length+1)=i+1+(eB a 3).length by omega]
     exact aa.mono (by rw [show ch 18=3 from rfl];omega)
    ·by_cases eH:op=9
     ·subst eH;have aC:cS (b5 e)=a_ [45]::eB a 8:=by rw [al];rfl
      rw [if_neg (show¬ ch 9=9 by decide)]
      rw [aC]at aI ⊢;have:=C3 8 (i+1) (d+1) R (by omega) (by omega) aI.fu f8 (Or.inl (by omega))
      have aa:=f'.WM (op:=9) (Or.inr ⟨rfl,rfl,rfl⟩) ab (by rw [aI.is];rfl) (by omega) this
      rw [al];simp only [anI];rw [show i+((eB a 8).length+1)=i+1+(eB a 8).length by omega]
      exact aa.mono (by rw [show ch 9=8 from rfl];omega)
     ·have WT:20≤op∧op≤24:=by omega
      have ahi:ch op=9:=by
       have:op=20∨op=21∨op=22∨op=23∨op=24:=by omega
       rcases this with h|h|h|h|h<;>rw [h]<;>decide
      have e1:eB a 1=cS (b5 a):=by unfold eB fW;rw [if_neg (by have:=Pt a.Op;omega)]
      have aC:cS (b5 e)=iN op::a_ [40]::(eB a 1++[a_ [41]]):=by
       rw [al,e1];simp only [b5,js,k2];rw [if_neg (by omega),if_neg (by omega),if_neg (by omega),if_neg oD,if_neg eH]
       simp only [cS,rN]
      rw [if_pos ahi];rw [aC]at aI ⊢;have y2:=aI.fu.fu;have ahj:=y2.jH;have:=C3 1 (i+1+1) (d+1) _ (by omega) (by omega) y2.k3 (by show iB (a_ [41]::R)<1;rw [show iB (a_ [41]::R)=0 from rfl];omega) (Or.inl (by omega))
      have nw:=y7.of ab (by rw [aI.fu.is];rfl) this (by rw [ahj.is];rfl)
      have pz:=oC.word WT ab hg aI (by omega) nw
      rw [al];simp only [anI,anM,anJ];rw [show i+((eB a 1).length+(0+1)+1+1)=i+1+1+(eB a 1).length+1 by omega]
      exact λn hn=>pz n (by omega))
   exact⟨bH,y_ cG bH (λhc=>by omega)⟩
  ·obtain⟨C3,Py⟩:=aG a (by omega) ha
   obtain⟨Pz,am0⟩:=aG b (by omega) hb
   have gh:=C2 eo
   have bH:py l e:=y' ab hg cG (by
    intro i d R aI f8 hd;rw [bf]at hd;generalize e.Op=op at eo al gh f8
    rw [if_neg (by omega)]
    rw [al]at aI ⊢;intro n hn;obtain⟨n,rfl⟩:∃j,n=j+1:=⟨n-1,by omega⟩
    by_cases ay:ch op=4
    ·have aC:=C1 (a:=a) (b:=b) eo;rw [if_pos ay]at aC;have bN:cS (fW a.Op (b5 a) 5)=eB a 5:=rfl;have e1:cS (fW b.Op (b5 b) (ch op+1))=eB b (4+1):=by rw [ay]
     rw [bN,e1]at aC;rw [aC]at aI hn ⊢;rw [ay]at f8 hn ⊢;simp only [anM,anI]at hn ⊢;have:=C3 5 i d _ (by omega) (by omega) aI.k3 (by unfold iB;rw [List.cons_append,Pr op _ eo,ay];show((4:Nat):Int)<((5:Nat):Int);omega) (Or.inl (by omega)) n (by omega)
     rw [CW];unfold sU;simp only [fU,show¬ 4=3 by omega,show¬ 4=8 by omega,anD,anF]
     rw [bD (by omega),this]
     simp only [ak,ax.on];obtain⟨m,hm⟩:∃j,n=j+1:=⟨n-1,by omega⟩
     conv=>lhs;arg 9;rw [hm]
     rw [WP ab eo ay.symm Pz aI.jH (by omega) (by omega) (by omega),if_pos rfl]
     rw [show i+(eB a 5).length+1+(eB b (4+1)).length=i+((eB a 5).length+((eB b (4+1)).length+1))by omega]
    ·obtain⟨j,hj,Pw⟩:=WQ (i:=i) (d:=d) (n:=n) ab eo ay ha Py Pz aI (by omega) (by omega) (by omega) (by omega)
     rw [Pw];have cW:cS (b5 ⟨op,0,[],[a,b]⟩)≠[]:=by rw [C1 eo];simp
     have tk:=aI.Pv cW;obtain⟨m,hm⟩:∃m,n-j=m+1:=⟨n-j-1,by omega⟩
     rw [hm];simp only [pk,BY];rw [Pc];simp only [ak];rw [decide_eq_false (show¬ (rK l (i+(cS (b5 ⟨op,0,[],[a,b]⟩)).length)).1=(ch op:Int)by rw [tk];omega)]
     simp only [anH,anE])
   refine⟨bH,y_ cG bH (λhc i d n R aI f8 hd hn=>?_)⟩
   rw [bf]at hd;generalize e.Op=op at eo al gh f8 hc hn
   rw [al]at aI hn ⊢;exact WQ (i:=i) (d:=d) (n:=n) ab eo (by omega) ha Py Pz aI f8 (by omega) (by omega) hn
end
def k4{k:Nat}(h:k≤1000000000000):eU k=true:=O0 (by omega)
def PA{k:Nat}(h:k≤1000000000000):room k 1=true:=by simp [room];omega
def WU(n:Nat)(op:Int):Bn n op=some ((ch op:Nat):Int):=by
 by_cases h:1≤op∧op≤27
 ·obtain rfl|rfl|rfl|rfl|rfl|rfl|rfl|rfl|rfl|rfl|rfl|rfl|rfl|rfl|rfl|rfl|rfl|rfl|rfl|rfl|rfl|rfl|rfl|rfl|rfl|rfl|rfl:op=1∨op=2∨op=3∨op=4∨op=5∨op=6∨op=7∨op=8∨op=9∨op=10∨op=11∨op=12∨op=13∨op=14∨op=15∨op=16∨op=17∨op=18∨op=19∨op=20∨op=21∨op=22∨op=23∨op=24∨op=25∨op=26∨op=27:=by omega
  all_goals rfl
 ·have e:ch op=9:=by
   unfold ch;rw [if_neg (by omega),if_neg (by omega),if_neg (by omega),if_neg (by omega),if_neg (by omega),if_neg (by omega),if_neg (by omega),if_neg (by omega)]
  rw [e];simp only [Bn,sH,Fz,Bm,Mj,show¬ op=17 by omega,show¬ op=16 by omega,show¬ op=18 by omega,show¬ op=10 by omega,show¬ op=11 by omega,show¬ op=12 by omega,show¬ op=13 by omega,show¬ op=14 by omega,show¬ op=15 by omega,show¬ op=19 by omega,show¬ op=4 by omega,show¬ op=5 by omega,show¬ op=6 by omega,show¬ op=7 by omega,show¬ op=8 by omega,show¬ op=9 by omega,anD,anF]
  rfl
def WV(n:Nat)(op:Int)(h:20≤op∧op≤27):FB n op=some (spell (iN op)):=by
 obtain rfl|rfl|rfl|rfl|rfl|rfl|rfl|rfl:op=20∨op=21∨op=22∨op=23∨op=24∨op=25∨op=26∨op=27:=by omega
 all_goals rfl
def ahk(n:Nat)(op:Int)(h:4≤op∧op≤8∨10≤op∧op≤17∨op=19):FA n op=some (spell (oA op)):=by
 have:op=4∨op=5∨op=6∨op=7∨op=8∨op=10∨op=11∨op=12∨op=13∨op=14∨op=15∨op=16∨op=17∨op=19:=by omega
 rcases this with rfl|rfl|rfl|rfl|rfl|rfl|rfl|rfl|rfl|rfl|rfl|rfl|rfl|rfl<;>rfl
def WW(n:Nat)(i:Int)(h0:0≤i)(Z:i≤9223372036854775807):uW n i=some (Lib.decDigits i.toNat):=by
 unfold uW E0;rw [decide_eq_true (show(10:Int)=10 ∧ -9223372036854775808≤i∧i≤9223372036854775807 from⟨rfl,by omega,Z⟩)]
 simp only [aX,ak];unfold Lib.itoa;rw [if_neg (by omega)]
def C4(i:Int)(h0:0≤i)(Z:i≤9223372036854775807):(Lib.decDigits i.toNat).length≤21:=by
 have:=Lib.itoa_length_le i (by omega) Z
 unfold Lib.itoa at this
 rwa [if_neg (by omega)]at this
def C5(n:Nat)(c:UInt8)(b:anT)(h:b.length≤100000000):qf n ((c.toNat:Nat):Int) (fs b)=some (fs (b++[c])):=by
 unfold qf xE;simp only [ak,Ib,anI,anJ,PA (show b.length+(0+1)≤1000000000000 by omega),aX,OZ]
def ahl(n:Nat)(s:anT)(hs:s.length≤4611686018427387904):∀m i,s.length<i+m→i≤s.length→Bk n s m (i:Int)=some ((s.drop i).all okB):=by
 intro m;induction m with
 |zero=>intro i h aa;omega
 |succ m aG=>
  intro i hm hi;simp only [Bk,Me,Md];by_cases h:i<s.length
  ·rw [fJ s i 0 h,bD (by omega),aG (i+1) (by omega) (by omega)]
   simp only [h,b4 h,anK,anL,anC,anE,aX,anQ,List.all_cons,s_,fq,eS,CQ];cases okB (s.getD i 0)<;>simp
  ·rw [gV s i h];simp [h]
def ahm{n:Nat}(s:anT)(h:s.length<n)(hs:s.length≤4611686018427387904):Mf n s=some (s.all okB):=by
 have:=ahl n s hs n 0 (by omega) (by omega)
 rw [List.drop_zero]at this;exact this
def C6:∀s:anT,(hL s).length≤2*s.length
 |[]=>Nat.le_refl _
 |c::s=>by
  have:=C6 s
  simp only [hL];split<;>simp only [anI]<;>omega
def ahn(s:anT)(c:UInt8):hL (s++[c])=hL s++hL [c]:=by
 induction s with
 |nil=>rfl
 |cons d s aG=>simp only [List.cons_append,hL,aG];split<;>rfl
def aho(n:Nat)(s:anT)(hs:s.length≤64):∀m i,s.length<i+m→i≤s.length→Bl n s m (fs (34::hL (s.take i))) (i:Int)=some (quo s,0):=by
 intro m;induction m with
 |zero=>intro i h aa;omega
 |succ m aG=>
  intro i hm hi;simp only [Bl,Mi,Mg,Mh,Fx];have hlen:=C6 (s.take i);have Ie:(s.take i).length≤i:=by simp;omega
  by_cases h:i<s.length
  ·(rw [bD (by omega)];simp only [anK])
   have hn:=aG (i+1) (by omega) (by omega)
   have aC:s.take (i+1)=s.take i++[s.getD i 0]:=by
    rw [List.take_add,fJ s i 0 h,List.take_succ_cons,List.take_zero]
   rw [aC,ahn]at hn;generalize s.getD i 0=c at hn
   simp only [h,b4 h,anL,anC,anE,aX,anQ,fU,eS];by_cases hc:c.toNat=34∨c.toNat=92
   ·have hb:(decide (c.toNat=34)||decide (c.toNat=92))=true:=by rcases hc with hc|hc<;>rw [decide_eq_true hc]<;>simp
    have e1:=C5 n 92 (34::hL (s.take i)) (by simp only [anI];omega)
    have e2:=C5 n c (34::hL (s.take i)++[92]) (by simp only [anM,anI,anJ];omega)
    rw [hb];simp only [anE];rw [show qf n 92 _=_ from e1]
    simp only [ak];rw [e2];simp only [ak];rw [show(34::hL (s.take i)++[92]++[c])=34::(hL (s.take i)++hL [c])by simp only [hL];rw [if_pos hc];simp]
    exact hn
   ·have hb:(decide (c.toNat=34)||decide (c.toNat=92))=false:=by rw [decide_eq_false (λe=>hc (Or.inl e)),decide_eq_false (λe=>hc (Or.inr e))];rfl
    have e2:=C5 n c (34::hL (s.take i)) (by simp only [anI];omega)
    rw [hb];simp only [anF];rw [e2];simp only [ak];rw [show(34::hL (s.take i)++[c])=34::(hL (s.take i)++hL [c])by simp only [hL];rw [if_neg hc];simp]
    exact hn
  ·have ahp:i=s.length:=by omega
   subst ahp;simp only [anL,Nat.lt_irrefl,anD,anF,List.take_length];have e1:=C5 n 34 (34::hL s) (by have:=C6 s;simp only [anI];omega)
   rw [show qf n 34 _=_ from e1]
   have ab:=C6 s;have eu:(fs (34::hL s++[34])).length≤9223372036854775807:=by rw [Ib];simp only [anM,anI,anJ];omega
   simp only [ak,ru,OY,OX,eu,anC,Bool.and_self,aX];rfl
def ahq{n:Nat}(s:anT)(h:j' s=true)(hn:100<n):Fy n s=some (quo s,0):=by
 unfold j' at h;simp only [Bool.and_eq_true,decide_eq_true_eq]at h;unfold Fy;simp only [fq,show¬ 64<s.length by omega,anD,anF,ahm s (show s.length<n by omega) (by omega),ak,h.1,anG]
 have e1:=C5 n 34 [] (by simp)
 rw [show qf n 34 []=_ from e1]
 exact aho n s (by omega) n 0 (by omega) (by omega)
def ahr(s:anT):(quo s).length≤2*s.length+2:=by
 have:=C6 s
 simp only [quo,anI,anM,anJ];omega
def WX{c:Prop}[Decidable c]{a b:Token}{k:Nat}(ha:(spell a).length≤k)(hb:(spell b).length≤k):(spell (if c then a else b)).length≤k:=by
 by_cases h:c
 ·rw [if_pos h];exact ha
 ·rw [if_neg h];exact hb
def WY(op:Int):(spell (oA op)).length≤3:=by
 unfold oA
 repeat refine WX (by decide) ?_
 decide
def Iv(op:Int):(spell (iN op)).length≤6:=by
 unfold iN
 repeat refine WX (by decide) ?_
 decide
def tl(op:Int)(p:kx)(k:Nat):(flat (fW op p k)).length≤(flat p).length+2:=by
 unfold fW;split
 ·simp only [flat,oz,spell,a_,anM,anI];simp;omega
 ·omega
def qx{w:anT}(h:gx w=true):w.length≤16:=by
 obtain⟨c,l,_,_,_,_,aJ⟩:=Pk h;exact aJ
def t8:∀(h:Nat) (e:Expr),fV e≤h→gt e→(flat (b5 e)).length≤4*dP e:=by
 intro h;induction h with
 |zero=>intro e he;rw [ti]at he;omega
 |succ h aG=>
  intro e he cG;have vS:=(Pn e).1 cG;have Ia:=tc e;rcases y9 e cG with⟨Z,al⟩|⟨Z,al⟩|⟨Z,al⟩|⟨ah,al⟩|⟨a,al,ha,bf,eo⟩|⟨a,b,al,ha,hb,bf,eo⟩
  ·have:=C4 e.N (vS.2.1 Z).1 (vS.2.1 Z).2
   have e2:flat (b5 e)=Lib.decDigits e.N.toNat++[]:=by rw [al];rfl
   rw [e2,List.append_nil];omega
  ·have:=ahr e.S
   have e2:flat (b5 e)=quo e.S++[]:=by rw [al];rfl
   rw [e2,List.append_nil];omega
  ·have:=qx (vS.2.2.2.2.2.1 Z)
   have e2:flat (b5 e)=e.S++[]:=by rw [al];rfl
   rw [e2,List.append_nil];omega
  ·have:=Iv e.Op
   generalize e.Op=op at ah al this
   have e2:flat (b5 e)=spell (iN op)++([40]++([41]++[])):=by
    rw [al];simp only [b5,js,k2];rw [if_neg (by omega),if_neg (by omega),if_neg (by omega)];rfl
   rw [e2];simp only [anM,anI,anJ];omega
  ·have PB:=aG a (by omega) ha
   have PC:dP e=30+(dP a+1):=by rw [al];simp [dP,m4]
   have:=Iv e.Op
   have ai:=tl a.Op (b5 a) 3;have dh:=tl a.Op (b5 a) 8;generalize e.Op=op at eo al this
   have e2:b5 e=if op=18 then some (dp [110,111,116])::none::fW a.Op (b5 a) 3 else if op=9 then some (a_ [45])::fW a.Op (b5 a) 8 else some (iN op)::some (a_ [40])::(b5 a++[some (a_ [41])]):=by
    rw [al];simp only [b5,js,k2];rw [if_neg (by omega),if_neg (by omega),if_neg (by omega)]
   rw [e2];split
   ·simp only [flat,spell,dp,anM,anI];simp;omega
   ·split
    ·simp only [flat,spell,a_,anM,anI];simp;omega
    ·simp only [flat,oz,anM];have e3:(spell (a_ [40])).length=1:=rfl;have o2:(spell (a_ [41])).length=1:=rfl;simp only [anJ];omega
  ·have PB:=aG a (by omega) ha
   have ahs:=aG b (by omega) hb
   have PC:dP e=30+(dP a+1+(dP b+1)):=by rw [al];simp [dP,m4]
   have:=WY e.Op
   have ai:=tl a.Op (b5 a) (if ch e.Op=4 then 5 else ch e.Op)
   have dh:=tl b.Op (b5 b) (ch e.Op+1);generalize e.Op=op at eo al this ai dh
   have e2:b5 e=fW a.Op (b5 a) (if ch op=4 then 5 else ch op)++none::some (oA op)::none::fW b.Op (b5 b) (ch op+1):=by rw [al,Ps eo]
   rw [e2];simp only [oz,flat,anM,anI];omega
def aht(n:Nat):lm (n+1)=FC n (lm n) (uX n):=rfl
def ahu(n:Nat):uX (n+1)=FD n (lm n) (uX n):=rfl
def C7{n:Nat}{e:Expr}{k:Nat}(h:lm n e=some (flat (b5 e)))(ab:(flat (b5 e)).length≤100000000):uX (n+1) e (k:Int)=some (flat (fW e.Op (b5 e) k)):=by
 rw [ahu];unfold FD fW;rw [WU,h];simp only [ak,anL];by_cases hk:ch e.Op<k
 ·simp only [hk,anC,anE,anR];rw [k4 (by simp;omega),k4 (by simp;omega)]
  simp only [aX,flat,oz,spell,a_];simp
 ·simp only [hk,anD,anF,anS]
def ahv:∀(h:Nat) (e:Expr) (n:Nat),fV e≤h→gt e→2*h+200≤n→dP e≤1000000→lm n e=some (flat (b5 e)):=by
 intro h;induction h with
 |zero=>intro e n he;rw [ti]at he;omega
 |succ h aG=>
  intro e n he cG hn am1;obtain⟨n,rfl⟩:∃j,n=j+1:=⟨n-1,by omega⟩
  obtain⟨n,rfl⟩:∃j,n=j+1:=⟨n-1,by omega⟩
  have vS:=(Pn e).1 cG;have Ia:=tc e;rw [aht];unfold FC;rw [WU];simp only [ak];rcases y9 e cG with⟨Z,al⟩|⟨Z,al⟩|⟨Z,al⟩|⟨ah,al⟩|⟨a,al,ha,bf,eo⟩|⟨a,b,al,ha,hb,bf,eo⟩
  ·have e2:flat (b5 e)=Lib.decDigits e.N.toNat++[]:=by rw [al];rfl
   rw [WW _ e.N (vS.2.1 Z).1 (vS.2.1 Z).2,e2,List.append_nil];simp only [Z,anC,anE,ak]
  ·have e2:flat (b5 e)=quo e.S++[]:=by rw [al];rfl
   rw [ahq e.S (vS.2.2.2.2.1 Z) (by omega),e2,List.append_nil]
   simp only [Z,show¬ (2:Int)=1 by omega,anC,anD,anE,anF,ak]
  ·have e2:flat (b5 e)=e.S++[]:=by rw [al];rfl
   rw [e2,List.append_nil];simp only [Z,show¬ (3:Int)=1 by omega,show¬ (3:Int)=2 by omega,anC,anD,anE,anF]
  ·have hw:=Iv e.Op;have ahw:=WV (n+1) e.Op (by omega)
   have gh:ch e.Op=9:=by
    have:e.Op=25∨e.Op=26∨e.Op=27:=by omega
    rcases this with h|h|h<;>rw [h]<;>decide
   have ff:e.aw=[]:=by rw [al]
   have e2:flat (b5 e)=spell (iN e.Op)++([40]++([41]++[])):=by
    generalize e.Op=op at ah al
    rw [al];simp only [b5,js,k2];rw [if_neg (by omega),if_neg (by omega),if_neg (by omega)];rfl
   rw [ahw,e2];simp only [ak];rw [k4 (show(spell (iN e.Op)).length+([40,41]:anT).length≤1000000000000 by simp;omega)]
   simp only [gh,ff,show¬ e.Op=1 by omega,show¬ e.Op=2 by omega,show¬ e.Op=3 by omega,show¬ e.Op=18 by omega,show¬ e.Op=9 by omega,anD,anF,anJ,fU,anC,anE,aX]
   simp
  ·have PC:dP e=30+(dP a+1):=by rw [al];simp [dP,m4]
   have C8:=aG a n (by omega) ha (by omega) (by omega)
   have ahx:=aG a (n+1) (by omega) ha (by omega) (by omega)
   have PB:=t8 (fV a) a (Nat.le_refl _) ha;have ff:e.aw=[a]:=by rw [al]
   have ai:=tl a.Op (b5 a) 3;have dh:=tl a.Op (b5 a) 8
   have e2:b5 e=if e.Op=18 then some (dp [110,111,116])::none::fW a.Op (b5 a) 3 else if e.Op=9 then some (a_ [45])::fW a.Op (b5 a) 8 else some (iN e.Op)::some (a_ [40])::(b5 a++[some (a_ [41])]):=by
    generalize e.Op=op at eo al
    rw [al];simp only [b5,js,k2];rw [if_neg (by omega),if_neg (by omega),if_neg (by omega)]
   rw [e2,ff];simp only [anI,anJ,mp (show 0<0+1 by omega),aX,List.getD_cons_zero,show¬ e.Op=1 by omega,show¬ e.Op=2 by omega,show¬ e.Op=3 by omega,anD,anF]
   by_cases oD:e.Op=18
   ·have:=C7 (k:=3) C8 (by omega)
    rw [oD];simp only [anC,anE,anR,show ch 18=3 from rfl]
    rw [this];simp only [ak];rw [k4 (by simp;omega)]
    rfl
   ·by_cases eH:e.Op=9
    ·have:=C7 (k:=8) C8 (by omega)
     rw [eH];simp only [show¬ (9:Int)=18 by omega,anC,anD,anE,anF,anR,anS,show ch 9=8 from rfl]
     rw [this];simp only [ak];rw [k4 (by simp;omega)]
     rfl
    ·have WT:20≤e.Op∧e.Op≤24:=by omega
     have gh:ch e.Op=9:=by
      have:e.Op=20∨e.Op=21∨e.Op=22∨e.Op=23∨e.Op=24:=by omega
      rcases this with h|h|h|h|h<;>rw [h]<;>decide
     have hw:=Iv e.Op;rw [WV (n+1) e.Op (by omega),ahx,if_neg oD,if_neg eH]
     have e3:flat (some (iN e.Op)::some (a_ [40])::(b5 a++[some (a_ [41])]))=spell (iN e.Op)++([40]++(flat (b5 a)++([41]++[]))):=by
      simp only [flat,oz];rfl
     rw [e3];generalize spell (iN e.Op)=W at hw
     simp only [oD,eH,gh,anD,anC,anF,anE,ak];rw [k4 (show W.length+(0+1)≤1000000000000 by omega),k4 (show(W++([40]:anT)).length+(flat (b5 a)).length≤1000000000000 by simp;omega),k4 (show((W++([40]:anT))++flat (b5 a)).length+(0+1)≤1000000000000 by simp;omega)]
     simp only [show((0+1:Nat):Int)=1 from rfl,show¬ (1:Int)=0 by omega,show((9:Nat):Int)=9 from rfl,anC,anD,anE,anF,aX]
     simp
  ·have PC:dP e=30+(dP a+1+(dP b+1)):=by rw [al];simp [dP,m4]
   have C8:=aG a n (by omega) ha (by omega) (by omega)
   have ahy:=aG b n (by omega) hb (by omega) (by omega)
   have PB:=t8 (fV a) a (Nat.le_refl _) ha;have ahs:=t8 (fV b) b (Nat.le_refl _) hb;have ff:e.aw=[a,b]:=by rw [al]
   have gh:=C2 eo;have am2:=WY e.Op
   have e2:b5 e=fW a.Op (b5 a) (if ch e.Op=4 then 5 else ch e.Op)++none::some (oA e.Op)::none::fW b.Op (b5 b) (ch e.Op+1):=by
    generalize e.Op=op at eo al
    rw [al,Ps eo]
   have ai:=tl a.Op (b5 a) (if ch e.Op=4 then 5 else ch e.Op)
   have dh:=tl b.Op (b5 b) (ch e.Op+1);have PD:=C7 (k:=ch e.Op+1) ahy (by omega)
   rw [e2,ff,ahk (n+1) e.Op eo];simp only [anI,anJ,mp (show 0<0+1+1 by omega),aX,List.getD_cons_zero,List.getD_cons_succ,show¬ e.Op=1 by omega,show¬ e.Op=2 by omega,show¬ e.Op=3 by omega,show¬ e.Op=18 by omega,show¬ e.Op=9 by omega,anD,anF,fU,show¬ ch e.Op=9 by omega,show a7 1 (0+1+1)=true from rfl]
   by_cases ay:ch e.Op=4
   ·have zY:=C7 (k:=5) C8 (by omega)
    rw [ay]at PD ⊢;rw [if_pos rfl];rw [if_pos ay]at ai;simp only [anC,anE];rw [show uX (n+1) a 5=_ from zY,show uX (n+1) b 5=_ from PD]
    simp only [ak];rw [ay]at dh;rw [k4 (by simp;omega),k4 (by simp;omega),k4 (by simp;omega),k4 (by simp only [anM,anI,anJ];omega)]
    simp only [aX,oz,flat];simp
   ·have zY:=C7 (k:=ch e.Op) C8 (by omega)
    rw [if_neg ay]at ai ⊢;simp only [ay,anD,anF];rw [zY,bD (by omega),PD]
    simp only [ak];rw [k4 (by simp;omega),k4 (by simp;omega),k4 (by simp;omega),k4 (by simp only [anM,anI,anJ];omega)]
    simp only [aX,oz,flat];simp
mutual
def lY:Expr→Prop
 |⟨Op,N,S,aw⟩=>N≤9223372036854775807∧S.length≤9223372036854775807∧aw.length≤9223372036854775807∧za aw
def za:List Expr→Prop
 |[]=>True
 |x::l=>lY x∧za l
end
def Iw(e:Expr):lY e↔e.N≤9223372036854775807∧e.S.length≤9223372036854775807∧e.aw.length≤9223372036854775807∧za e.aw:=by cases e;rfl
def WZ:∀(l:List Expr) (i:Nat),i<l.length→za l→lY (l.getD i default)
 |[],i,h,_=>by simp at h
 |x::l,0,h,ab=>ab.1
 |x::l,i+1,h,ab=>by simp only [List.getD_cons_succ];exact WZ l i (by simpa using h) ab.2
mutual
def qy:Expr→Nat
 |⟨_,_,S,aw⟩=>1+S.length / 64+vT aw
def vT:List Expr→Nat
 |[]=>0
 |x::l=>qy x+vT l
end
def ahz(e:Expr):qy e=1+e.S.length / 64+vT e.aw:=by cases e;rfl
mutual
def PE:∀e:Expr,dP e+1≤95*qy e
 |⟨Op,N,S,aw⟩=>by
  have:=W0 aw
  simp only [dP,qy];omega
def W0:∀l:List Expr,m4 l≤95*vT l
 |[]=>Nat.le_refl _
 |x::l=>by
  have Z:=PE x;have aa:=W0 l;simp only [m4,vT];omega
end
def PF(k:Nat):Int.tdiv ((k:Nat):Int) 64=((k / 64:Nat):Int):=by
 rw [Int.tdiv_eq_ediv_of_nonneg (by omega)];rfl
def ahA:∀(n:Nat) (e:Expr) (m:Nat),m≤1000→m+3≤n→lY e→
 ∃r:Nat,qo n e (m:Int)=some (r:Int)∧1≤r∧r≤m+144115188075855873∧(r≤m→r=qy e):=by
 intro n;induction n with
 |zero=>intro e m h aa;omega
 |succ n aG=>
  intro e m hm hn he;obtain⟨Z,aa,ai,ay⟩:=(Iw e).1 he;simp only [qo,Hp];rw [PF];rw [show anV ((e.S.length / 64:Nat):Int)=((e.S.length / 64:Nat):Int)by rw [wr]<;>omega]
  rw [show anV (1+((e.S.length / 64:Nat):Int))=((1+e.S.length / 64:Nat):Int)by rw [wr]<;>omega]
  have hU:∀k i v,m+2≤v+k→i≤e.aw.length→i≤v→1≤v→v≤m+144115188075855873→1≤k→
   ∃r:Nat,yF n (qo n) (m:Int) e k (v:Int) (i:Int)=some (r:Int)∧v≤r∧r≤m+144115188075855873∧(r≤m→r=v+vT (e.aw.drop i)):=by
   intro k;induction k with
   |zero=>intro i v Z aa h0 ai ay aJ;omega
   |succ k zb=>
    intro i v g1 g2 g0 g3 g4 g5;simp only [yF,Ho,Hn,fr,anL,Int.ofNat_le];by_cases hi:i<e.aw.length
    ·by_cases an:v≤m
     ·obtain⟨r1,e1,e2,e3,o2⟩:=aG (e.aw.getD i default) (m-v) (by omega) (by omega) (WZ _ _ hi ay)
      (rw [show anV ((m:Int)-(v:Int))=((m-v:Nat):Int)by rw [wr]<;>omega,bD (by omega)];simp only [anK];rw [e1])
      simp only [hi,an,anC,Bool.and_self,anE,b4 hi,aX,ak];rw [show anV ((v:Int)+(r1:Int))=((v+r1:Nat):Int)by rw [wr]<;>omega]
      obtain⟨r,f1,f2,f3,f4⟩:=zb (i+1) (v+r1) (by omega) (by omega) (by omega) (by omega) (by omega) (by omega)
      refine⟨r,f1,by omega,f3,λah=>?_⟩
      have:=f4 ah
      have hY:=o2 (by omega)
      rw [fJ e.aw i default hi];simp only [vT];omega
     ·simp only [hi,an,anC,anD,Bool.and_false,anF];exact⟨v,rfl,Nat.le_refl _,g4,λh=>absurd h an⟩
    ·rw [gV e.aw i hi];simp only [hi,anD,Bool.false_and,anF];exact⟨v,rfl,Nat.le_refl _,g4,λh=>rfl⟩
  obtain⟨r,f1,f2,f3,f4⟩:=hU n 0 (1+e.S.length / 64) (by omega) (by omega) (by omega) (by omega) (by omega) (by omega)
  exact⟨r,f1,by omega,f3,λah=>by rw [f4 ah,ahz,List.drop_zero]⟩
def ahB:∀(h:Nat) (e:Expr) (d:Nat),fV e≤h→lY e→jG e (d:Int)=0→d≤1000→gt e∧d+fV e≤13:=by
 intro h;induction h with
 |zero=>intro e d he;rw [ti]at he;omega
 |succ h aG=>
  intro e d he hi an hd;obtain⟨i1,i2,i3,i4⟩:=(Iw e).1 hi;rw [Wm]at an
  have jx:ou e (d:Int)=0:=by
   by_cases h0:ou e (d:Int)=0
   ·exact h0
   ·rw [if_neg h0]at an;exact absurd an h0
  rw [if_pos jx]at an;unfold ou at jx;split at jx
  ·omega
  rename_i g1;split at jx
  ·omega
  rename_i g2;split at jx
  ·omega
  rename_i g3;split at jx
  ·omega
  rename_i g4;simp only [not_or,not_and,Bool.not_eq_false]at g1 g2 g3;obtain⟨aT,a2,a3⟩:=g1;obtain⟨c7,jN,PG⟩:=g3
  have eo:1≤e.Op∧e.Op≤27:=by
   unfold i7 at aT;by_cases Z:e.Op<1
   ·simp [Z]at aT
   ·by_cases aa:27<e.Op
    ·simp [aa]at aT
    ·omega
  rw [show anV ((d:Int)+1)=((d+1:Nat):Int)by rw [wr]<;>omega]at an
  have ab:∀l:List Expr,px l≤h→za l→rM l ((d+1:Nat):Int)=0→CY l∧(d+1+px l≤13∨l=[]):=by
   intro l;induction l with
   |nil=>intro _ _ _;exact⟨trivial,Or.inr rfl⟩
   |cons x l ahC=>
    intro bf hin um;simp only [px]at bf;simp only [rM]at um
    have hx:jG x ((d+1:Nat):Int)=0:=by
     by_cases h0:jG x ((d+1:Nat):Int)=0
     ·exact h0
     ·rw [if_neg h0]at um;exact absurd um h0
    rw [if_pos hx]at um;obtain⟨ge,gH⟩:=aG x (d+1) (by omega) hin.1 hx (by omega)
    obtain⟨aS,bo⟩:=ahC (by omega) hin.2 um
    refine⟨⟨ge,aS⟩,Or.inl ?_⟩
    simp only [px];rcases bo with bo|rfl
    ·omega
    ·simp only [px];omega
  have W1:=ti e;obtain⟨cP,aq⟩:=ab e.aw (by omega) i4 an
  refine⟨(Pn e).2 ⟨⟨eo,?_⟩,λZ=>⟨by omega,i1⟩,λZ=>?_,λZ=>?_,λZ=>?_,λZ=>?_,cP⟩,?_⟩
  ·by_cases hc:(e.aw.length:Int)=i7 e.Op
   ·exact hc
   ·exact absurd hc PG
  ·by_cases hc:e.N=0
   ·exact hc
   ·exact absurd hc (a2 Z)
  ·by_cases hc:e.S=[]
   ·exact hc
   ·exact absurd hc (a3 Z.1 Z.2)
  ·exact jN Z
  ·exact g2 Z
  ·rcases aq with aq|aq
   ·omega
   ·rw [aq]at W1;simp only [px]at W1;omega
open Go Go.Ab Go.Proofs
mutual
def qz:Stmt→Prop
 |⟨_,Name,Max,A,B,Body,bw⟩=>(-9223372036854775808≤Max∧Max≤9223372036854775807)∧Name.length≤9223372036854775807∧lY A∧lY B∧qA Body∧qA bw
def qA:List Stmt→Prop
 |[]=>True
 |x::l=>qz x∧qA l
end
def PH(s:Stmt):qz s↔(-9223372036854775808≤s.Max∧s.Max≤9223372036854775807)∧s.Name.length≤9223372036854775807∧lY s.A∧lY s.B∧qA s.Body∧qA s.bw:=by cases s;rfl
def W2:∀(l:List Stmt) (i:Nat),i<l.length→qA l→qz (l.getD i default)
 |[],i,h,_=>by simp at h
 |x::l,0,h,ab=>ab.1
 |x::l,i+1,h,ab=>by simp only [List.getD_cons_succ];exact W2 l i (by simpa using h) ab.2
mutual
def Ix:Stmt→Nat
 |⟨_,Name,_,A,B,Body,bw⟩=>1+Name.length / 64+qy A+qy B+pA Body+pA bw
def pA:List Stmt→Nat
 |[]=>0
 |x::l=>Ix x+pA l
end
def ahD(s:Stmt):Ix s=1+s.Name.length / 64+qy s.A+qy s.B+pA s.Body+pA s.bw:=by cases s;rfl
mutual
def ahE:∀s:Stmt,fst s+1≤150*Ix s
 |⟨Op,Name,Max,A,B,Body,bw⟩=>by
  have Z:=PE A;have aa:=PE B;have ai:=Iy Body;have ay:=Iy bw;simp only [fst,Ix];omega
def Iy:∀l:List Stmt,eg l≤150*pA l
 |[]=>Nat.zero_le _
 |x::l=>by
  have Z:=ahE x;have aa:=Iy l;simp only [eg,pA];omega
end
def ahF(n:Nat)(e:Expr)(m:Int)(hm:m<0)(hn:2≤n)(he:lY e):qo n e m=some ((1+e.S.length / 64:Nat):Int):=by
 obtain⟨n,rfl⟩:∃k,n=k+2:=⟨n-2,by omega⟩
 obtain⟨Z,aa,ai,ay⟩:=(Iw e).1 he;simp only [qo,Hp];rw [PF];rw [show anV ((e.S.length / 64:Nat):Int)=((e.S.length / 64:Nat):Int)by rw [wr]<;>omega]
 rw [show anV (1+((e.S.length / 64:Nat):Int))=((1+e.S.length / 64:Nat):Int)by rw [wr]<;>omega]
 simp only [yF,Ho,Hn,fr];rw [show decide (((1+e.S.length / 64:Nat):Int)≤m)=false from decide_eq_false (by omega)]
 simp
def W3(n:Nat)(e:Expr)(m:Int)(hm:m≤1000)(hn:m+3≤n)(qt:3≤n)(he:lY e):
 ∃r:Nat,qo n e m=some (r:Int)∧1≤r∧(r:Int)≤(if m<0 then 0 else m)+144115188075855873∧((r:Int)≤m→r=qy e):=by
 by_cases h:m<0
 ·have aa:=((Iw e).1 he).2.1;exact⟨_,ahF n e m h (by omega) he,by omega,by rw [if_pos h];omega,λah=>by omega⟩
 ·obtain⟨k,rfl⟩:=Int.eq_ofNat_of_zero_le (show 0≤m by omega)
  obtain⟨r,Z,aa,ai,ay⟩:=ahA n e k (by omega) (by omega) he
  exact⟨r,Z,aa,by rw [if_neg h];omega,λah=>ay (by omega)⟩
def ahG:∀(n:Nat) (l:List Stmt) (m:Int),-4611686018427387904≤m→m≤1000→m+6≤n→5≤n→qA l→
 ∃r:Nat,yG n l m=some (r:Int)∧(r:Int)≤(if m<0 then 0 else m+576460752303423500)∧((r:Int)≤m→r=pA l):=by
 intro n;induction n with
 |zero=>intro l m _ _ _ h;omega
 |succ n aG=>
  intro l m am3 hm hn qt ab;simp only [yG,N4]
  have hU:∀(k i v:Nat),m+2≤v+k→1≤k→i≤v→(v:Int)≤(if m<0 then 0 else m+576460752303423500)→
   ∃r:Nat,Cn n (yG n) l m k (v:Int) (i:Int)=some (r:Int)∧v≤r∧(r:Int)≤(if m<0 then 0 else m+576460752303423500)∧((r:Int)≤m→r=v+pA (l.drop i)):=by
   intro k;induction k with
   |zero=>intro i v _ h;omega
   |succ k zb=>
    intro i v g1 g2 g3 g4;simp only [Cn,N3,N2,fr,anL];by_cases hi:i<l.length
    ·by_cases an:(v:Int)≤m
     ·have W4:¬ m<0:=by omega
      rw [if_neg W4];simp only [if_neg W4]at zb g4;obtain⟨aT,a2,a3,a4,a5,pB⟩:=(PH _).1 (W2 l i hi ab)
      (simp only [anK])
      generalize hs:l.getD i default=s at aT a2 a3 a4 a5 pB
      simp only [hi,an,anC,Bool.and_self,anE,b4 hi,aX];rw [PF];rw [show anV ((s.Name.length / 64:Nat):Int)=((s.Name.length / 64:Nat):Int)by rw [wr]<;>omega]
      rw [show anV ((v:Int)+1)=((v+1:Nat):Int)by rw [wr]<;>omega]
      rw [show anV (((v+1:Nat):Int)+((s.Name.length / 64:Nat):Int))=((v+1+s.Name.length / 64:Nat):Int)by rw [wr]<;>omega]
      rw [show anV (m-((v+1+s.Name.length / 64:Nat):Int))=m-((v+1+s.Name.length / 64:Nat):Int)by rw [wr]<;>omega]
      obtain⟨r1,e1,c7,c1,d1⟩:=W3 n s.A (m-((v+1+s.Name.length / 64:Nat):Int)) (by omega) (by omega) (by omega) a3
      rw [e1];simp only [ak];have QY:(v+1+s.Name.length / 64+r1:Nat)≤m+288230376151711750:=by split at c1<;>omega
      rw [show anV (((v+1+s.Name.length / 64:Nat):Int)+(r1:Int))=((v+1+s.Name.length / 64+r1:Nat):Int)by rw [wr]<;>omega]
      rw [show anV (m-((v+1+s.Name.length / 64+r1:Nat):Int))=m-((v+1+s.Name.length / 64+r1:Nat):Int)by rw [wr]<;>omega]
      obtain⟨r2,e2,jN,c2,d2⟩:=W3 n s.B (m-((v+1+s.Name.length / 64+r1:Nat):Int)) (by omega) (by omega) (by omega) a4
      rw [e2];simp only [ak];have QZ:(v+1+s.Name.length / 64+r1+r2:Nat)≤m+432345564227567625:=by split at c2<;>omega
      rw [show anV (((v+1+s.Name.length / 64+r1:Nat):Int)+(r2:Int))=((v+1+s.Name.length / 64+r1+r2:Nat):Int)by rw [wr]<;>omega]
      rw [show anV (m-((v+1+s.Name.length / 64+r1+r2:Nat):Int))=m-((v+1+s.Name.length / 64+r1+r2:Nat):Int)by rw [wr]<;>omega]
      obtain⟨r3,e3,c3,d3⟩:=aG s.Body (m-((v+1+s.Name.length / 64+r1+r2:Nat):Int)) (by omega) (by omega) (by omega) (by omega) a5
      rw [e3];simp only [ak];have am4:(v+1+s.Name.length / 64+r1+r2+r3:Nat)≤m+576460752303423500:=by split at c3<;>omega
      rw [show anV (((v+1+s.Name.length / 64+r1+r2:Nat):Int)+(r3:Int))=((v+1+s.Name.length / 64+r1+r2+r3:Nat):Int)by rw [wr]<;>omega]
      rw [show anV (m-((v+1+s.Name.length / 64+r1+r2+r3:Nat):Int))=m-((v+1+s.Name.length / 64+r1+r2+r3:Nat):Int)by rw [wr]<;>omega]
      obtain⟨aZ,o2,c4,d4⟩:=aG s.bw (m-((v+1+s.Name.length / 64+r1+r2+r3:Nat):Int)) (by omega) (by omega) (by omega) (by omega) pB
      rw [o2];simp only [ak];have am5:(v+1+s.Name.length / 64+r1+r2+r3+aZ:Nat)≤m+576460752303423500:=by split at c4<;>omega
      rw [show anV (((v+1+s.Name.length / 64+r1+r2+r3:Nat):Int)+(aZ:Int))=((v+1+s.Name.length / 64+r1+r2+r3+aZ:Nat):Int)by rw [wr]<;>omega]
      rw [bD (by omega)]
      obtain⟨r,f1,f2,f3,f4⟩:=zb (i+1) (v+1+s.Name.length / 64+r1+r2+r3+aZ) (by omega) (by omega) (by omega) (by omega)
      refine⟨r,f1,by omega,f3,λah=>?_⟩
      have h0:=f4 ah;have Z:=d1 (by omega)
      have aa:=d2 (by omega)
      have ai:=d3 (by omega)
      have ay:=d4 (by omega)
      rw [fJ l i default hi,hs];have:=ahD s
      simp only [pA];omega
     ·simp only [hi,an,anC,anD,Bool.and_false,anF];exact⟨v,rfl,Nat.le_refl _,g4,λh=>absurd h an⟩
    ·rw [gV l i hi];simp only [hi,anD,Bool.false_and,anF];exact⟨v,rfl,Nat.le_refl _,g4,λh=>rfl⟩
  obtain⟨r,f1,f2,f3,f4⟩:=hU n 0 0 (by omega) (by omega) (by omega) (by split<;>omega)
  exact⟨r,f1,f3,λah=>by rw [f4 ah,List.drop_zero];omega⟩
def qB(p:bd):Prop:=p.Name.length≤9223372036854775807∧p.Params.length≤9223372036854775807∧(∀i,i<p.Params.length→(p.Params.getD i default).Name.length≤9223372036854775807)∧qA p.Body
def W5:∀l:List Param,(∀i,i<l.length→(l.getD i default).Name.length≤200)→jr l≤400*l.length
 |[],_=>Nat.le_refl _
 |x::l,h=>by
  have h0:=h 0 (by simp)
  have Z:=W5 l λi hi=>by have:=h (i+1) (by simpa using hi);simpa using this
  simp only [List.getD_cons_zero]at h0;simp only [jr,anI];omega
def Iz(p:bd)(m:Nat):Prop:=p.Name.length≤200∧p.Params.length≤40∧jr p.Params≤16000∧pA p.Body≤m
def ahH{n:Nat}(p:bd)(m:Nat)(hm:m≤1000)(hn:1100≤n)(hp:qB p):∃b,Cp n p (m:Int)=some b∧(b=true→Iz p m):=by
 obtain⟨Z,aa,ai,ay⟩:=hp;simp only [Cp,eS];by_cases hc:40<p.Params.length∨200<p.Name.length
 ·rw [show(decide (40<((p.Params.length:Nat):Int))||decide (200<((p.Name.length:Nat):Int)))=true by
   rcases hc with h|h
   ·rw [decide_eq_true (show 40<((p.Params.length:Nat):Int)by omega)];rfl
   ·rw [decide_eq_true (show 200<((p.Name.length:Nat):Int)by omega),anQ]]
  exact⟨false,rfl,λh=>by cases h⟩
 ·rw [show(
   decide (40<((p.Params.length:Nat):Int))||decide (200<((p.Name.length:Nat):Int)))=false by
   rw [decide_eq_false (show¬ 40<((p.Params.length:Nat):Int)by omega),decide_eq_false (show¬ 200<((p.Name.length:Nat):Int)by omega)];rfl]
  simp only [anF]
  have hU:∀k i,p.Params.length<i+k→i≤p.Params.length→(∀j,j<i→(p.Params.getD j default).Name.length≤200)→∃b,Co n (m:Int) p k (i:Int)=some b∧(b=true→Iz p m):=by
   intro k;induction k with
   |zero=>intro i g1 g2;omega
   |succ k zb=>
    intro i g1 g2 g3;simp only [Co,N6,N5,anL,anK];by_cases hi:i<p.Params.length
    ·simp only [hi,anC,anE,b4 hi,aX];by_cases hx:200<(p.Params.getD i default).Name.length
     ·rw [decide_eq_true (show 200<(((p.Params.getD i default).Name.length:Nat):Int)by omega)]
      exact⟨false,rfl,λh=>by cases h⟩
     ·rw [decide_eq_false (show¬ 200<(((p.Params.getD i default).Name.length:Nat):Int)by omega),bD (by omega)]
      exact zb (i+1) (by omega) (by omega) λj hj=>by
       by_cases h:j<i
       ·exact g3 j h
       ·obtain rfl:j=i:=by omega
        omega
    ·simp only [hi,anD,anF];obtain⟨r,f1,f2,f3⟩:=ahG n p.Body (m:Int) (by omega) (by omega) (by omega) (by omega) ay
     rw [f1];refine⟨_,rfl,λhb=>?_⟩
     have hb:=of_decide_eq_true hb;have:=f3 hb
     have aN:=W5 p.Params λj hj=>g3 j (by omega)
     exact⟨by omega,by omega,by omega,by omega⟩
  exact hU n 0 (by omega) (by omega) λj hj=>by omega
open Go Go.Ab Go.Proofs
abbrev dQ:Expr:=⟨0,0,[],[]⟩
def i8(e:Expr):Prop:=gt e∧fV e≤12
def IA(s:Stmt):Prop:=
 ((s.Op=1∨s.Op=2)∧s=⟨s.Op,s.Name,0,s.A,dQ,[],[]⟩∧gx s.Name=true∧i8 s.A)∨
 (s=⟨3,[],0,s.A,s.B,[],[]⟩∧i8 s.A∧i8 s.B)∨
 ((s.Op=4∨s.Op=7)∧s=⟨s.Op,[],0,s.A,dQ,[],[]⟩∧i8 s.A)∨
 (s=⟨5,[],0,s.A,dQ,s.Body,s.bw⟩∧i8 s.A)∨
 (s=⟨6,s.Name,s.Max,s.A,s.B,s.Body,[]⟩∧gx s.Name=true∧(1≤s.Max∧s.Max≤16)∧i8 s.A∧i8 s.B)∨
 (s=⟨8,[],s.Max,dQ,dQ,[],[]⟩∧0≤s.Max∧s.Max≤999)
mutual
def tm:Stmt→Nat→Prop
 |⟨Op,Name,Max,A,B,Body,bw⟩,d=>d≤12∧IA ⟨Op,Name,Max,A,B,Body,bw⟩∧ky Body (d+1)∧ky bw (d+1)
def ky:List Stmt→Nat→Prop
 |[],_=>True
 |s::l,d=>tm s d∧ky l d
end
def zc(s:Stmt)(d:Nat):tm s d↔d≤12∧IA s∧ky s.Body (d+1)∧ky s.bw (d+1):=by cases s;rfl
def vU{e:Expr}(h:qv e=true):e=dQ:=by
 obtain⟨a,b,c,l⟩:=e;unfold qv at h;simp only [Bool.and_eq_true,decide_eq_true_eq]at h;obtain⟨⟨⟨rfl,rfl⟩,rfl⟩,h⟩:=h;rw [List.length_eq_zero_iff]at h;subst h;rfl
def rP{e:Expr}(hi:lY e)(h:jG e 1=0):i8 e:=by
 obtain⟨Z,aa⟩:=ahB (fV e) e 1 (Nat.le_refl _) hi h (by omega)
 exact⟨Z,by omega⟩
def ahI{s:Stmt}{d:Int}(hi:qz s)(h:nQ s d=0):d≤12∧IA s:=by
 obtain⟨i1,i2,i3,i4,i5,i6⟩:=(PH s).1 hi;unfold nQ at h;split at h
 ·omega
 rename_i g1;split at h
 ·omega
 rename_i g2;split at h
 ·rename_i g;exact absurd h g.2
 rename_i g3;split at h
 ·rename_i g;exact absurd h g.2
 rename_i g4;split at h
 ·omega
 rename_i g5;refine⟨by omega,?_⟩
 simp only [not_or,not_and,Bool.not_eq_false,Bool.not_eq_true,Decidable.not_not]at g1 g2 g3 g4;obtain⟨aT,a2,a3⟩:=g1
 have eo:1≤s.Op∧s.Op≤8:=by
  by_cases bf:1≤s.Op∧s.Op≤8
  ·exact bf
  ·rw [show ox s.Op=(⟨false,false,false,false,false,false⟩,false) by
    unfold ox;rw [if_neg (by omega),if_neg (by omega),if_neg (by omega),if_neg (by omega),if_neg (by omega),if_neg (by omega)]]at aT
   cases aT
 obtain⟨Op,Name,Max,A,B,Body,bw⟩:=s;simp only at *
 obtain rfl|rfl|rfl|rfl|rfl|rfl|rfl|rfl:Op=1∨Op=2∨Op=3∨Op=4∨Op=5∨Op=6∨Op=7∨Op=8:=by omega
 all_goals
  simp only [CX,vQ,ox]at a2 a3 g2 g3 g4;simp [-List.length_eq_zero_iff]at a2 a3 g2 g3 g4
 all_goals unfold IA;simp only []
 ·obtain⟨⟨⟨cR,rfl⟩,Z⟩,aa⟩:=a2;obtain rfl:=vU cR;obtain rfl:=List.eq_nil_of_length_eq_zero Z;obtain rfl:=List.eq_nil_of_length_eq_zero aa;exact Or.inl ⟨Or.inl trivial,rfl,g2,rP i3 g3⟩
 ·obtain⟨⟨⟨cR,rfl⟩,Z⟩,aa⟩:=a2;obtain rfl:=vU cR;obtain rfl:=List.eq_nil_of_length_eq_zero Z;obtain rfl:=List.eq_nil_of_length_eq_zero aa;exact Or.inl ⟨Or.inr trivial,rfl,g2,rP i3 g3⟩
 ·obtain⟨⟨⟨rfl,rfl⟩,Z⟩,aa⟩:=a2;obtain rfl:=List.eq_nil_of_length_eq_zero Z;obtain rfl:=List.eq_nil_of_length_eq_zero aa;exact Or.inr (Or.inl ⟨rfl,rP i3 g3,rP i4 g4⟩)
 ·obtain⟨⟨⟨⟨rfl,cR⟩,rfl⟩,Z⟩,aa⟩:=a2;obtain rfl:=vU cR;obtain rfl:=List.eq_nil_of_length_eq_zero Z;obtain rfl:=List.eq_nil_of_length_eq_zero aa;exact Or.inr (Or.inr (Or.inl ⟨Or.inl trivial,rfl,rP i3 g3⟩))
 ·obtain⟨⟨rfl,cR⟩,rfl⟩:=a2;obtain rfl:=vU cR;exact Or.inr (Or.inr (Or.inr (Or.inl ⟨rfl,rP i3 g3⟩)))
 ·obtain rfl:=List.eq_nil_of_length_eq_zero a2;exact Or.inr (Or.inr (Or.inr (Or.inr (Or.inl ⟨rfl,g2,a3,rP i3 g3,rP i4 g4⟩))))
 ·obtain⟨⟨⟨⟨rfl,cR⟩,rfl⟩,Z⟩,aa⟩:=a2;obtain rfl:=vU cR;obtain rfl:=List.eq_nil_of_length_eq_zero Z;obtain rfl:=List.eq_nil_of_length_eq_zero aa;exact Or.inr (Or.inr (Or.inl ⟨Or.inr trivial,rfl,rP i3 g3⟩))
 ·obtain⟨⟨⟨⟨rfl,aI⟩,cR⟩,Z⟩,aa⟩:=a2;obtain rfl:=vU aI;obtain rfl:=vU cR;obtain rfl:=List.eq_nil_of_length_eq_zero Z;obtain rfl:=List.eq_nil_of_length_eq_zero aa;exact Or.inr (Or.inr (Or.inr (Or.inr (Or.inr ⟨rfl,a3⟩))))
mutual
def W6:∀(s:Stmt) (d:Int) (r:Nat×Int),(pw s d r).2=0→r.2=0∧nQ s d=0
 |⟨Op,Name,Max,A,B,Body,bw⟩,d,r,h=>by
  simp only [pw]at h;have Z:=C9 Body _ _ (C9 bw _ _ h);simp only at Z
  by_cases h0:r.2=0
  ·rw [if_pos h0]at Z;exact⟨h0,Z⟩
  ·rw [if_neg h0]at Z;exact absurd Z h0
def C9:∀(l:List Stmt) (d:Int) (r:Nat×Int),(iz l d r).2=0→r.2=0
 |[],d,r,h=>h
 |s::l,d,r,h=>by
  simp only [iz]at h;split at h
  ·exact h
  ·exact(W6 s d r (C9 l d _ h)).1
end
mutual
def ahJ:∀(s:Stmt) (d:Nat) (r:Nat×Int),qz s→(pw s (d:Int) r).1≠0→(pw s (d:Int) r).2=0→tm s d
 |⟨Op,Name,Max,A,B,Body,bw⟩,d,r,hi,Z,aa=>by
  have hs:=ahI hi (W6 _ _ _ aa).2;obtain⟨i1,i2,i3,i4,i5,i6⟩:=(PH _).1 hi;have hd:anV ((d:Int)+1)=((d+1:Nat):Int):=by rw [wr]<;>omega
  simp only [pw,hd]at Z aa;have cP:=C9 _ _ _ aa;have aq:=th bw ((d+1:Nat):Int) (iz Body ((d+1:Nat):Int) (ka B (ka A (r.1-1)),if r.2=0 then nQ ⟨Op,Name,Max,A,B,Body,bw⟩ d else r.2))
  exact⟨by omega,hs.2,IB Body (d+1) _ i5 (by omega) cP,IB bw (d+1) _ i6 Z aa⟩
def IB:∀(l:List Stmt) (d:Nat) (r:Nat×Int),qA l→(iz l (d:Int) r).1≠0→(iz l (d:Int) r).2=0→ky l d
 |[],d,r,_,_,_=>trivial
 |s::l,d,r,hi,Z,aa=>by
  simp only [iz]at Z aa;split at Z
  ·rename_i h;exact absurd h Z
  ·rename_i h;rw [if_neg h]at aa;have k:=th l (d:Int) (pw s (d:Int) r);exact⟨ahJ s d r hi.1 (by omega) (C9 _ _ _ aa),IB l d _ hi.2 Z aa⟩
end
def IC(p:bd):Prop:=gx p.Name=true∧tf p.Params=0∧ky p.Body 1
def PI{p:bd}(hi:qB p)(h:oy p=0):IC p:=by
 unfold oy at h;split at h
 ·omega
 rename_i g1;split at h
 ·rename_i g;exact absurd h g
 rename_i g2;split at h
 ·omega
 rename_i g3;simp only [Bool.not_eq_false,Decidable.not_not]at g1 g2;exact⟨g1,g2,IB p.Body 1 (401,0) hi.2.2.2 (λe=>g3 ⟨h,e⟩) h⟩
open Go Go.Ab Go.Proofs
def ind:Nat→anT
 | 0=>[]
 |d+1=>32::32::32::32::ind d
def cat:List anT→anT
 |[]=>[]
 |x::l=>x++cat l
def du(d:Nat)(l:List anT):anT:=ind d++(cat l++[10])
abbrev fb(e:Expr):anT:=flat (b5 e)
abbrev fj(e:Expr):List Token:=cS (b5 e)
mutual
def dZ:Stmt→Nat→anT
 |⟨Op,Name,Max,A,B,Body,bw⟩,d=>
  if Op=1 then du d [[108,101,116,32],Name,[32,61,32],fb A,[59]]
  else if Op=2 then du d [Name,[32,61,32],fb A,[59]]
  else if Op=3 then du d [[112,117,116,32],fb A,[32,61,32],fb B,[59]]
  else if Op=4 then du d [[100,101,108,101,116,101,32],fb A,[59]]
  else if Op=5 then du d [[105,102,32],fb A,[32,123]]++(fX Body (d+1)++((if bw.length=0 then[]else du d [[125,32,101,108,115,101,32,123]]++fX bw (d+1))++du d [[125]]))
  else if Op=6 then du d [[102,111,114,32],Name,[32,61,32],fb A,[32,116,111,32],fb B,[32,109,97,120,32],Lib.decDigits Max.toNat,[32,123]]++(fX Body (d+1)++du d [[125]])
  else if Op=7 then du d [[101,109,105,116,32],fb A,[59]]
  else du d [[97,98,111,114,116,32],Lib.decDigits Max.toNat,[59]]
def fX:List Stmt→Nat→anT
 |[],_=>[]
 |s::l,d=>dZ s d++fX l d
end
mutual
def eh:Stmt→List Token
 |⟨Op,Name,Max,A,B,Body,bw⟩=>
  if Op=1 then dp [108,101,116]::ho Name::a_ [61]::(fj A++[a_ [59]])
  else if Op=2 then ho Name::a_ [61]::(fj A++[a_ [59]])
  else if Op=3 then dp [112,117,116]::(fj A++a_ [61]::(fj B++[a_ [59]]))
  else if Op=4 then dp [100,101,108,101,116,101]::(fj A++[a_ [59]])
  else if Op=5 then dp [105,102]::(fj A++a_ [123]::(fK Body++a_ [125]::(if bw.length=0 then[]else dp [101,108,115,101]::a_ [123]::(fK bw++[a_ [125]]))))
  else if Op=6 then dp [102,111,114]::ho Name::a_ [61]::(fj A++dp [116,111]::(fj B++dp [109,97,120]::m8 Max::a_ [123]::(fK Body++[a_ [125]])))
  else if Op=7 then dp [101,109,105,116]::(fj A++[a_ [59]])
  else[dp [97,98,111,114,116],m8 Max,a_ [59]]
def fK:List Stmt→List Token
 |[]=>[]
 |s::l=>eh s++fK l
end
def oE{r:anT}{T:List Token}(h:ej r T):∀d,ej (ind d++r) T
 | 0=>h
 |d+1=>lX (lX (lX (lX (oE h d))))
def pC{w r:anT}{T:List Token}(hw:w∈ot)(h:ej r T):ej (w++32::r) (dp w::T):=kw (t:=dp w) (tj hw) y5 (lX h)
def C'{w r:anT}{T:List Token}(hw:gx w=true)(hb:m7 r)(h:ej r T):ej (w++r) (ho w::T):=kw (t:=ho w) (WB hw) (CZ (by simp [ho,m8]) hb) h
def W7{n:Int}{r:anT}{T:List Token}(h0:0≤n)(Z:n≤9223372036854775807)(hb:m7 r)(h:ej r T):ej (Lib.decDigits n.toNat++r) (m8 n::T):=kw (t:=m8 n) (WC h0 Z) (CZ (by simp [ho,m8]) hb) h
def ID{r:anT}{T:List Token}(h:ej r T):ej (32::61::32::r) (a_ [61]::T):=lX (kw (t:=a_ [61]) (oB (by decide)) y5 (lX h))
def zd{r:anT}{T:List Token}(h:ej r T):ej (59::10::r) (a_ [59]::T):=kw (t:=a_ [59]) (oB (by decide)) Po (Pm h)
def C_{r:anT}{T:List Token}(h:ej r T):ej (32::123::10::r) (a_ [123]::T):=lX (kw (t:=a_ [123]) (oB (by decide)) Po (Pm h))
def IE{r:anT}{T:List Token}(d:Nat)(h:ej r T):ej (du d [[125]]++r) (a_ [125]::T):=by
 have e:du d [[125]]++r=ind d++(125::10::r):=by simp [du,cat]
 rw [e];exact oE (kw (t:=a_ [125]) (oB (by decide)) Po (Pm h)) d
def qC{e:Expr}{r:anT}{T:List Token}(he:gt e)(hb:m7 r)(h:ej r T):ej (fb e++r) (fj e++T):=WE e he r T hb h
mutual
def ahK:∀(s:Stmt) (d di:Nat),tm s di→∀(r:anT) (T:List Token),ej r T→ej (dZ s d++r) (eh s++T)
 |⟨Op,Name,Max,A,B,Body,bw⟩,d,di,h,r,T,az=>by
  obtain⟨_,hs,cO,fc⟩:=(zc _ _).1 h;have vV:=IF Body (d+1) _ cO;have IG:=IF bw (d+1) _ fc;rcases hs with⟨am,al,hn,aI⟩|⟨al,aI,cR⟩|⟨am,al,aI⟩|⟨al,aI⟩|⟨al,hn,hm,aI,cR⟩|⟨al,hm⟩
  ·simp only [Stmt.mk.injEq,true_and,and_true]at al am;obtain⟨rfl,rfl,rfl,rfl⟩:=al;rcases am with rfl|rfl
   ·have e:dZ ⟨1,Name,0,A,dQ,[],[]⟩ d++r=ind d++([108,101,116]++32::(Name++32::61::32::(fb A++59::10::r))):=by simp [dZ,du,cat]
    have e2:eh ⟨1,Name,0,A,dQ,[],[]⟩++T=dp [108,101,116]::ho Name::a_ [61]::(fj A++a_ [59]::T):=by simp [eh]
    rw [e,e2];exact oE (pC (by decide) (C' hn (iA rfl) (ID (qC aI.1 (iA rfl) (zd az))))) d
   ·have e:dZ ⟨2,Name,0,A,dQ,[],[]⟩ d++r=ind d++(Name++32::61::32::(fb A++59::10::r)):=by simp [dZ,du,cat]
    have e2:eh ⟨2,Name,0,A,dQ,[],[]⟩++T=ho Name::a_ [61]::(fj A++a_ [59]::T):=by simp [eh]
    rw [e,e2];exact oE (C' hn (iA rfl) (ID (qC aI.1 (iA rfl) (zd az)))) d
  ·simp only [Stmt.mk.injEq,true_and,and_true]at al;obtain⟨rfl,rfl,rfl,rfl,rfl⟩:=al;have e:dZ ⟨3,[],0,A,B,[],[]⟩ d++r=ind d++([112,117,116]++32::(fb A++32::61::32::(fb B++59::10::r))):=by simp [dZ,du,cat]
   have e2:eh ⟨3,[],0,A,B,[],[]⟩++T=dp [112,117,116]::(fj A++a_ [61]::(fj B++a_ [59]::T)):=by simp [eh]
   rw [e,e2];exact oE (pC (by decide) (qC aI.1 (iA rfl) (ID (qC cR.1 (iA rfl) (zd az))))) d
  ·simp only [Stmt.mk.injEq,true_and,and_true]at al am;obtain⟨rfl,rfl,rfl,rfl,rfl⟩:=al;rcases am with rfl|rfl
   ·have e:dZ ⟨4,[],0,A,dQ,[],[]⟩ d++r=ind d++([100,101,108,101,116,101]++32::(fb A++59::10::r)):=by simp [dZ,du,cat]
    have e2:eh ⟨4,[],0,A,dQ,[],[]⟩++T=dp [100,101,108,101,116,101]::(fj A++a_ [59]::T):=by simp [eh]
    rw [e,e2];exact oE (pC (by decide) (qC aI.1 (iA rfl) (zd az))) d
   ·have e:dZ ⟨7,[],0,A,dQ,[],[]⟩ d++r=ind d++([101,109,105,116]++32::(fb A++59::10::r)):=by simp [dZ,du,cat]
    have e2:eh ⟨7,[],0,A,dQ,[],[]⟩++T=dp [101,109,105,116]::(fj A++a_ [59]::T):=by simp [eh]
    rw [e,e2];exact oE (pC (by decide) (qC aI.1 (iA rfl) (zd az))) d
  ·simp only [Stmt.mk.injEq,true_and,and_true]at al;obtain⟨rfl,rfl,rfl,rfl⟩:=al;by_cases ab:bw.length=0
   ·have e:dZ ⟨5,[],0,A,dQ,Body,bw⟩ d++r=ind d++([105,102]++32::(fb A++32::123::10::(fX Body (d+1)++(du d [[125]]++r)))):=by
     simp only [dZ,ab];simp [du,cat]
    have e2:eh ⟨5,[],0,A,dQ,Body,bw⟩++T=dp [105,102]::(fj A++a_ [123]::(fK Body++a_ [125]::T)):=by simp only [eh,ab];simp
    rw [e,e2];exact oE (pC (by decide) (qC aI.1 (iA rfl) (C_ (vV _ _ (IE d az))))) d
   ·have e:dZ ⟨5,[],0,A,dQ,Body,bw⟩ d++r=ind d++([105,102]++32::(fb A++32::123::10::(fX Body (d+1)++(ind d++(125::32::([101,108,115,101]++32::123::10::(fX bw (d+1)++(du d [[125]]++r)))))))):=by
     simp only [dZ,ab];simp [du,cat]
    have e2:eh ⟨5,[],0,A,dQ,Body,bw⟩++T=dp [105,102]::(fj A++a_ [123]::(fK Body++a_ [125]::dp [101,108,115,101]::a_ [123]::(fK bw++a_ [125]::T))):=by simp only [eh,ab];simp
    rw [e,e2];exact oE (pC (by decide) (qC aI.1 (iA rfl) (C_ (vV _ _ (oE (kw (t:=a_ [125]) (oB (by decide)) y5 (lX (kw (t:=dp [101,108,115,101]) (tj (by decide)) y5 (C_ (IG _ _ (IE d az)))))) d))))) d
  ·simp only [Stmt.mk.injEq,true_and,and_true]at al;obtain⟨rfl,rfl⟩:=al;have hm:1≤Max∧Max≤16:=hm
   have e:dZ ⟨6,Name,Max,A,B,Body,[]⟩ d++r=ind d++([102,111,114]++32::(Name++32::61::32::(fb A++32::([116,111]++32::(fb B++32::([109,97,120]++32::(Lib.decDigits Max.toNat++32::123::10::(fX Body (d+1)++(du d [[125]]++r))))))))):=by
    simp [dZ,du,cat]
   have e2:eh ⟨6,Name,Max,A,B,Body,[]⟩++T=dp [102,111,114]::ho Name::a_ [61]::(fj A++dp [116,111]::(fj B++dp [109,97,120]::m8 Max::a_ [123]::(fK Body++a_ [125]::T))):=by simp [eh]
   rw [e,e2];exact oE (pC (by decide) (C' hn (iA rfl) (ID (qC aI.1 (iA rfl) (lX (pC (by decide) (qC cR.1 (iA rfl) (lX (pC (by decide) (W7 (by omega) (by omega) (iA rfl) (C_ (vV _ _ (IE d az))))))))))))) d
  ·simp only [Stmt.mk.injEq,true_and,and_true]at al;obtain⟨rfl,rfl,rfl,rfl,rfl,rfl⟩:=al;have hm:0≤Max∧Max≤999:=hm;have e:dZ ⟨8,[],Max,dQ,dQ,[],[]⟩ d++r=ind d++([97,98,111,114,116]++32::(Lib.decDigits Max.toNat++59::10::r)):=by simp [dZ,du,cat]
   have e2:eh ⟨8,[],Max,dQ,dQ,[],[]⟩++T=dp [97,98,111,114,116]::m8 Max::a_ [59]::T:=by simp [eh]
   rw [e,e2];exact oE (pC (by decide) (W7 (by omega) (by omega) (iA rfl) (zd az))) d
def IF:∀(l:List Stmt) (d di:Nat),ky l di→∀(r:anT) (T:List Token),ej r T→ej (fX l d++r) (fK l++T)
 |[],d,di,h,r,T,az=>az
 |s::l,d,di,h,r,T,az=>by
  have:=ahK s d di h.1 _ _ (IF l d di h.2 r T az)
  simp only [fX,fK,List.append_assoc];exact this
end
open Go Go.Ab Go.Proofs
def W8(n:Nat)(s b:anT)(x:Int)(h:b.length+s.length≤1000000000):Bh n s (fs b) x=some (((s.length:Nat):Int),fs (b++s)):=by
 unfold Bh xD;rw [show(fs b).length+s.length=b.length+s.length by simp [fs],PA (by omega)]
 simp [fs,ak,aX]
def ahL(n:Nat)(b:anT)(x:Int)(h:b.length≤1000000000):Fw n 10 (fs b) x=some (fs (b++[10])):=by
 unfold Fw xD;rw [show(fs b).length+([10]:List Int).length=b.length+1 by simp [fs],PA (by omega)]
 simp [fs,ak,aX]
def PJ:∀l m:List anT,cat (l++m)=cat l++cat m
 |[],m=>rfl
 |x::l,m=>by simp only [List.cons_append,cat,PJ l m,List.append_assoc]
def W9:∀d,ind (d+1)=ind d++[32,32,32,32]
 | 0=>rfl
 |d+1=>by
  show 32::32::32::32::ind (d+1)=(32::32::32::32::ind d)++[32,32,32,32]
  rw [W9 d];rfl
def PK:∀d,(ind d).length=4*d
 | 0=>rfl
 |d+1=>by simp only [ind,anI,PK d];omega
def ahM(n:Nat)(parts:List anT)(d:Nat)(b:anT)(ab:b.length+(cat parts).length≤1000000000)(hp:parts.length≤1000):∀m i,parts.length<i+m→i≤parts.length→
 Bi n parts (d:Int) m (fs (b++cat (parts.take i))) (i:Int)=some (fs (b++(cat parts++[10]))):=by
 intro m;induction m with
 |zero=>intro i Z aa;omega
 |succ m aG=>
  intro i Z aa;have hc:cat parts=cat (parts.take i)++cat (parts.drop i):=by rw [←PJ,List.take_append_drop]
  have gn:(cat parts).length=(cat (parts.take i)).length+(cat (parts.drop i)).length:=by rw [hc,anM]
  simp only [Bi,L_,L',anL,anK];by_cases hi:i<parts.length
  ·rw [fJ parts i default hi]at gn;simp only [cat,anM]at gn;simp only [hi,anC,anE,b4 hi,aX];rw [W8 n _ _ _ (by rw [anM];omega),bD (by omega)]
   simp only [ak];have:=aG (i+1) (by omega) (by omega)
   rw [Il parts i hi,PJ]at this;simp only [cat,List.append_nil]at this;rw [List.append_assoc];exact this
  ·simp only [hi,anD,anF];obtain rfl:i=parts.length:=by omega
   rw [List.take_length,ahL n _ _ (by rw [anM];omega)]
   simp only [ak,List.append_assoc]
def m9{n:Nat}(parts:List anT)(d:Nat)(b:anT)(ab:b.length+(cat parts).length≤900000000)(hp:parts.length≤10)(hd:d≤100)(hn:200≤n):
 lP n parts (fs b) (d:Int)=some (fs (b++du d parts)):=by
 have hU:∀m i,d<i+m→i≤d→Bj n parts (d:Int) m (fs (b++ind i)) (i:Int)=some (fs (b++du d parts)):=by
  intro m;induction m with
  |zero=>intro i Z aa;omega
  |succ m aG=>
   intro i Z aa;have JU:=PK i;simp only [Bj,Mb,Ma,anL];by_cases hi:i<d
   ·simp only [hi,anC,anE];rw [W8 n _ _ _ (by simp only [anM,anI,anJ];omega),bD (by omega)]
    simp only [ak];have:=aG (i+1) (by omega) (by omega)
    rw [W9]at this;rw [List.append_assoc];exact this
   ·simp only [hi,anD,anF];obtain rfl:i=d:=by omega
    have:=ahM n parts i (b++ind i) (by rw [anM];omega) (by omega) n 0 (by omega) (by omega)
    simp only [List.take_zero,cat,List.append_nil]at this;rw [show((0:Nat):Int)=0 from rfl]at this
    rw [this,du,List.append_assoc]
 have:=hU n 0 (by omega) (by omega)
 simp only [ind,List.append_nil]at this;exact this
def k5(d:Nat)(l:List anT):(du d l).length=4*d+(cat l).length+1:=by
 unfold du;simp only [anM,PK,anI,anJ];omega
def m'{e:Expr}(h:i8 e):(fb e).length≤4*dP e:=t8 (fV e) e (Nat.le_refl _) h.1
mutual
def ahN:∀(s:Stmt) (d:Nat),tm s d→(dZ s d).length≤4*fst s
 |⟨Op,Name,Max,A,B,Body,bw⟩,d,h=>by
  obtain⟨hd,hs,cO,fc⟩:=(zc _ _).1 h;have vV:=rQ Body (d+1) cO;have IG:=rQ bw (d+1) fc;rcases hs with⟨am,al,hn,aI⟩|⟨al,aI,cR⟩|⟨am,al,aI⟩|⟨al,aI⟩|⟨al,hn,hm,aI,cR⟩|⟨al,hm⟩
  ·simp only [Stmt.mk.injEq,true_and,and_true]at al am;obtain⟨rfl,rfl,rfl,rfl⟩:=al;have Z:=m' aI;have aa:=qx hn;simp only at Z aa
   rcases am with rfl|rfl
   ·rw [show dZ ⟨1,Name,0,A,dQ,[],[]⟩ d=du d [[108,101,116,32],Name,[32,61,32],fb A,[59]]by simp [dZ],k5]
    simp only [cat,fst,anM,anI,anJ];omega
   ·rw [show dZ ⟨2,Name,0,A,dQ,[],[]⟩ d=du d [Name,[32,61,32],fb A,[59]]by simp [dZ],k5]
    simp only [cat,fst,anM,anI,anJ];omega
  ·simp only [Stmt.mk.injEq,true_and,and_true]at al;obtain⟨rfl,rfl,rfl,rfl,rfl⟩:=al;have Z:=m' aI;have aa:=m' cR;simp only at Z aa
   rw [show dZ ⟨3,[],0,A,B,[],[]⟩ d=du d [[112,117,116,32],fb A,[32,61,32],fb B,[59]]by simp [dZ],k5]
   simp only [cat,fst,anM,anI,anJ];omega
  ·simp only [Stmt.mk.injEq,true_and,and_true]at al am;obtain⟨rfl,rfl,rfl,rfl,rfl⟩:=al;have Z:=m' aI;simp only at Z
   rcases am with rfl|rfl
   ·rw [show dZ ⟨4,[],0,A,dQ,[],[]⟩ d=du d [[100,101,108,101,116,101,32],fb A,[59]]by simp [dZ],k5]
    simp only [cat,fst,anM,anI,anJ];omega
   ·rw [show dZ ⟨7,[],0,A,dQ,[],[]⟩ d=du d [[101,109,105,116,32],fb A,[59]]by simp [dZ],k5]
    simp only [cat,fst,anM,anI,anJ];omega
  ·simp only [Stmt.mk.injEq,true_and,and_true]at al;obtain⟨rfl,rfl,rfl,rfl⟩:=al;have Z:=m' aI;simp only at Z
   have aa:(dZ ⟨5,[],0,A,dQ,Body,bw⟩ d).length≤(du d [[105,102,32],fb A,[32,123]]).length+((fX Body (d+1)).length+(((du d [[125,32,101,108,115,101,32,123]]).length+(fX bw (d+1)).length)+(du d [[125]]).length)):=by
    by_cases ab:bw.length=0
    ·simp [dZ,ab]
    ·simp [dZ,ab];omega
   simp only [k5,cat,anM,anI,anJ]at aa;simp only [fst];omega
  ·simp only [Stmt.mk.injEq,true_and,and_true]at al;obtain⟨rfl,rfl⟩:=al;have hm:1≤Max∧Max≤16:=hm;have Z:=m' aI;have aa:=m' cR;have ai:=qx hn;have ay:=C4 Max (by omega) (by omega)
   simp only at Z aa ai
   have aJ:dZ ⟨6,Name,Max,A,B,Body,[]⟩ d=du d [[102,111,114,32],Name,[32,61,32],fb A,[32,116,111,32],fb B,[32,109,97,120,32],Lib.decDigits Max.toNat,[32,123]]++(fX Body (d+1)++du d [[125]]):=by simp [dZ]
   rw [aJ];simp only [k5,cat,fst,anM,anI,anJ];omega
  ·simp only [Stmt.mk.injEq,true_and,and_true]at al;obtain⟨rfl,rfl,rfl,rfl,rfl,rfl⟩:=al;have hm:0≤Max∧Max≤999:=hm;have ay:=C4 Max (by omega) (by omega)
   rw [show dZ ⟨8,[],Max,dQ,dQ,[],[]⟩ d=du d [[97,98,111,114,116,32],Lib.decDigits Max.toNat,[59]]by simp [dZ],k5]
   simp only [cat,fst,anM,anI,anJ];omega
def rQ:∀(l:List Stmt) (d:Nat),ky l d→(fX l d).length≤4*eg l
 |[],d,h=>Nat.le_refl _
 |s::l,d,h=>by
  have Z:=ahN s d h.1;have aa:=rQ l d h.2;simp only [fX,eg,anM];omega
end
def W'(n:Nat)(i:Int)(h0:0≤i)(Z:i≤9223372036854775807):uW n i=some (Lib.decDigits i.toNat):=WW n i h0 Z
open Go Go.Ab Go.Proofs
def ahO(n:Nat):qh (n+1)=FE n (qh n) (uY n) (uZ n):=rfl
def ahP(n:Nat):uY (n+1)=FG n (qh n) (uY n) (uZ n):=rfl
def ahQ(n:Nat):uZ (n+1)=FH n (qh n) (uY n) (uZ n):=rfl
def rR{n:Nat}{e:Expr}(h:i8 e)(hn:300≤n)(aN:dP e≤1000000):lm n e=some (fb e):=ahv (fV e) e n (Nat.le_refl _) h.1 (by have:=h.2;omega) aN
def rS(n:Nat)(l:List Stmt)(d:Nat)(b:anT):Prop:=qh n l (fs b) (d:Int)=some (fs (b++fX l (d+1)),(d:Int))
def ahR{n d:Nat}{b:anT}{A:Expr}{Body bw:List Stmt}(aI:i8 A)(aN:dP A≤300000)(hd:d≤12)(hn:400≤n)(hb:b.length≤10000000)(e0:(fX Body (d+1)).length≤10000000)(eu:(fX bw (d+1)).length≤10000000)
 (cR:∀bp:anT,bp.length≤b.length+4*dP A+100→rS n Body d bp) (bH:∀bp:anT,bp.length≤b.length+4*dP A+200+(fX Body (d+1)).length→rS n bw d bp):
 uY (n+1) ⟨5,[],0,A,dQ,Body,bw⟩ (fs b) (d:Int)=some (fs (b++dZ ⟨5,[],0,A,dQ,Body,bw⟩ d),(d:Int)):=by
 have Z:=m' aI;rw [ahP];simp only [FG,FF,jq];rw [rR aI (by omega) (by omega)]
 simp only [ak];rw [m9 _ d b (by simp only [cat,anM,anI,anJ];omega) (by simp) (by omega) (by omega)]
 simp only [ak];have e1:=cR (b++du d [[105,102,32],fb A,[32,123]]) (by simp only [anM,k5,cat,anI,anJ];omega)
 unfold rS at e1;rw [e1];simp only [ak];by_cases ab:bw.length=0
 ·rw [show decide (0<((bw.length:Nat):Int))=false from decide_eq_false (by omega)]
  simp only [anF];rw [m9 _ d _ (by simp only [anM,k5,cat,anI,anJ];omega) (by simp) (by omega) (by omega)]
  simp only [ak];have:dZ ⟨5,[],0,A,dQ,Body,bw⟩ d=du d [[105,102,32],fb A,[32,123]]++(fX Body (d+1)++du d [[125]]):=by simp [dZ,ab]
  rw [this];simp only [List.append_assoc]
 ·rw [show decide (0<((bw.length:Nat):Int))=true from decide_eq_true (by omega)]
  simp only [anE];rw [m9 _ d _ (by simp only [anM,k5,cat,anI,anJ];omega) (by simp) (by omega) (by omega)]
  simp only [ak];have e2:=bH (b++du d [[105,102,32],fb A,[32,123]]++fX Body (d+1)++du d [[125,32,101,108,115,101,32,123]]) (by simp only [anM,k5,cat,anI,anJ];omega)
  unfold rS at e2;rw [e2];simp only [ak];rw [m9 _ d _ (by simp only [anM,k5,cat,anI,anJ];omega) (by simp) (by omega) (by omega)]
  simp only [ak];have:dZ ⟨5,[],0,A,dQ,Body,bw⟩ d=du d [[105,102,32],fb A,[32,123]]++(fX Body (d+1)++((du d [[125,32,101,108,115,101,32,123]]++fX bw (d+1))++du d [[125]])):=by simp [dZ,ab]
  rw [this];simp only [List.append_assoc]
def ahS{n d:Nat}{b:anT}{Name:anT}{Max:Int}{A B:Expr}{Body:List Stmt}(aI:i8 A)(W_:i8 B)(aN:dP A≤300000)(zZ:dP B≤300000)(aQ:gx Name=true)(hm:1≤Max∧Max≤16)(hd:d≤12)(hn:400≤n)(hb:b.length≤10000000)(e0:(fX Body (d+1)).length≤10000000)
 (cR:∀bp:anT,bp.length≤b.length+4*dP A+4*dP B+120→rS n Body d bp):
 uZ (n+1) ⟨6,Name,Max,A,B,Body,[]⟩ (fs b) (d:Int)=some (fs (b++dZ ⟨6,Name,Max,A,B,Body,[]⟩ d),(d:Int)):=by
 have Z:=m' aI;have aa:=m' W_;have ai:=qx aQ;have ay:=C4 Max (by omega) (by omega)
 rw [ahQ];simp only [FH,jq];rw [rR aI (by omega) (by omega),rR W_ (by omega) (by omega),W' n Max (by omega) (by omega)]
 simp only [ak];rw [m9 _ d b (by simp only [cat,anM,anI,anJ];omega) (by simp) (by omega) (by omega)]
 simp only [ak];have e1:=cR (b++du d [[102,111,114,32],Name,[32,61,32],fb A,[32,116,111,32],fb B,[32,109,97,120,32],Lib.decDigits Max.toNat,[32,123]]) (by simp only [anM,k5,cat,anI,anJ];omega)
 unfold rS at e1;rw [e1];simp only [ak];rw [m9 _ d _ (by simp only [anM,k5,cat,anI,anJ];omega) (by simp) (by omega) (by omega)]
 simp only [ak];have:dZ ⟨6,Name,Max,A,B,Body,[]⟩ d=du d [[102,111,114,32],Name,[32,61,32],fb A,[32,116,111,32],fb B,[32,109,97,120,32],Lib.decDigits Max.toNat,[32,123]]++(fX Body (d+1)++du d [[125]]):=by simp [dZ]
 rw [this];simp only [List.append_assoc]
def Xa:∀(l:List Stmt) (i d:Nat),i<l.length→ky l d→tm (l.getD i default) d
 |[],i,d,h,_=>by simp at h
 |x::l,0,d,h,ab=>ab.1
 |x::l,i+1,d,h,ab=>by simp only [List.getD_cons_succ];exact Xa l i d (by simpa using h) ab.2
def Xb:∀(l m:List Stmt) (d:Nat),ky (l++m) d↔ky l d∧ky m d
 |[],m,d=>by simp [ky]
 |x::l,m,d=>by simp only [List.cons_append,ky,Xb l m d,and_assoc]
def Xc:∀(l m:List Stmt) (d:Nat),fX (l++m) d=fX l d++fX m d
 |[],m,d=>rfl
 |x::l,m,d=>by simp only [List.cons_append,fX,Xc l m d,List.append_assoc]
def ahT:∀(n:Nat) (l:List Stmt) (d:Nat) (b:anT),ky l (d+1)→d≤12→eg l≤300000→2*eg l+500≤n→b.length+4*eg l≤9000000→rS n l d b:=by
 intro n;induction n using Nat.strongRecOn with
 |_ n aG=>
  intro l d b cG hd aN hn hb;obtain⟨n,rfl⟩:∃k,n=k+2:=⟨n-2,by omega⟩
  have hlen:=vP l;unfold rS;rw [ahO];unfold FE;rw [bD (by omega)]
  have hU:∀m i,l.length<i+m→i≤l.length→Bp (n+1) (qh (n+1)) (uY (n+1)) (uZ (n+1)) l m (fs (b++fX (l.take i) (d+1))) ((d+1:Nat):Int) (i:Int)=some (fs (b++fX l (d+1)),(d:Int)):=by
   intro m;induction m with
   |zero=>intro i Z aa;omega
   |succ m nO=>
    intro i Z aa;simp only [Bp,Mq,Mp,anL,anK,jq,nP];by_cases hi:i<l.length
    ·simp only [hi,anC,anE,b4 hi,aX];have ea:=Xa l i (d+1) hi cG;have CU:ky (l.take i) (d+1):=((Xb (l.take i) (l.drop i) (d+1)).1 (by rw [List.take_append_drop];exact cG)).1
     have p3:=rQ _ _ CU
     have pd:eg l=eg (l.take i)+(fst (l.getD i default)+1+eg (l.drop (i+1))):=by
      have:eg l=eg (l.take i++l.drop i):=by rw [List.take_append_drop]
      rw [Wk,fJ l i default hi]at this;simpa only [eg]using this
     have h1:=nO (i+1) (by omega) (by omega)
     rw [Il l i hi,Xc,←List.append_assoc]at h1;simp only [fX,List.append_nil]at h1;have mA:(b++fX (l.take i) (d+1)).length≤b.length+4*eg (l.take i):=by rw [anM];omega
     generalize b++fX (l.take i) (d+1)=ze at h1 mA
     rw [bD (by omega)]
     generalize l.getD i default=s at ea pd h1
     have ns:=fst_eq s;obtain⟨iG,hs,cO,fc⟩:=(zc _ _).1 ea;obtain⟨Op,Name,Max,A,B,Body,bw⟩:=s;simp only at ns cO fc
     rcases hs with⟨am,al,aQ,aI⟩|⟨al,aI,cR⟩|⟨am,al,aI⟩|⟨al,aI⟩|⟨al,aQ,hm,aI,cR⟩|⟨al,hm⟩
     ·simp only [Stmt.mk.injEq,true_and,and_true]at al am;obtain⟨rfl,rfl,rfl,rfl⟩:=al;have ai:=m' aI;have ay:=qx aQ;simp only at ai ay
      rcases am with rfl|rfl
      ·simp only [show qe (n+1) 1=some (.inl ())from rfl,ak,hQ.on,Ml,jq]
       rw [rR aI (by omega) (by show dP A≤_;omega)]
       simp only [ak];rw [m9 _ (d+1) ze (by simp only [cat,anM,anI,anJ];omega) (by simp) (by omega) (by omega)]
       simp only [ak];rw [show dZ ⟨1,Name,0,A,dQ,[],[]⟩ (d+1)=du (d+1) [[108,101,116,32],Name,[32,61,32],fb A,[59]]by simp [dZ]]at h1
       exact h1
      ·simp only [show qe (n+1) 2=some (.inr (.inl ()))from rfl,ak,hQ.on,Mk,jq]
       rw [rR aI (by omega) (by show dP A≤_;omega)]
       simp only [ak];rw [m9 _ (d+1) ze (by simp only [cat,anM,anI,anJ];omega) (by simp) (by omega) (by omega)]
       simp only [ak];rw [show dZ ⟨2,Name,0,A,dQ,[],[]⟩ (d+1)=du (d+1) [Name,[32,61,32],fb A,[59]]by simp [dZ]]at h1
       exact h1
     ·simp only [Stmt.mk.injEq,true_and,and_true]at al;obtain⟨rfl,rfl,rfl,rfl,rfl⟩:=al;have ai:=m' aI;have ay:=m' cR;simp only at ai ay
      simp only [show qe (n+1) 3=some (.inr (.inr (.inl ())))from rfl,ak,hQ.on,Mn,jq]
      rw [rR aI (by omega) (by show dP A≤_;omega),rR cR (by omega) (by show dP B≤_;omega)]
      simp only [ak];rw [m9 _ (d+1) ze (by simp only [cat,anM,anI,anJ];omega) (by simp) (by omega) (by omega)]
      simp only [ak];rw [show dZ ⟨3,[],0,A,B,[],[]⟩ (d+1)=du (d+1) [[112,117,116,32],fb A,[32,61,32],fb B,[59]]by simp [dZ]]at h1
      exact h1
     ·simp only [Stmt.mk.injEq,true_and,and_true]at al am;obtain⟨rfl,rfl,rfl,rfl,rfl⟩:=al;have ai:=m' aI;simp only at ai
      rcases am with rfl|rfl
      ·simp only [show qe (n+1) 4=some (.inr (.inr (.inr (.inl ()))))from rfl,ak,hQ.on,Mo,jq]
       rw [rR aI (by omega) (by show dP A≤_;omega)]
       simp only [ak];rw [m9 _ (d+1) ze (by simp only [cat,anM,anI,anJ];omega) (by simp) (by omega) (by omega)]
       simp only [ak];rw [show dZ ⟨4,[],0,A,dQ,[],[]⟩ (d+1)=du (d+1) [[100,101,108,101,116,101,32],fb A,[59]]by simp [dZ]]at h1
       exact h1
      ·simp only [show qe (n+1) 7=some (.inr (.inr (.inr (.inr (.inr (.inr (.inl ())))))))from rfl,ak,hQ.on,Mm,jq]
       rw [rR aI (by omega) (by show dP A≤_;omega)]
       simp only [ak];rw [m9 _ (d+1) ze (by simp only [cat,anM,anI,anJ];omega) (by simp) (by omega) (by omega)]
       simp only [ak];rw [show dZ ⟨7,[],0,A,dQ,[],[]⟩ (d+1)=du (d+1) [[101,109,105,116,32],fb A,[59]]by simp [dZ]]at h1
       exact h1
     ·simp only [Stmt.mk.injEq,true_and,and_true]at al;obtain⟨rfl,rfl,rfl,rfl⟩:=al;have e0:=rQ _ _ cO;have eu:=rQ _ _ fc;simp only [show qe (n+1) 5=some (.inr (.inr (.inr (.inr (.inl ())))))from rfl,ak,hQ.on]
      rw [ahR (A:=A) aI (by show dP A≤_;omega) (by omega) (by omega) (by omega) (by omega) (by omega)
       (λbp bF=>aG n (by omega) Body (d+1) bp cO (by omega) (by omega) (by omega) (by omega)) (λbp bF=>aG n (by omega) bw (d+1) bp fc (by omega) (by omega) (by omega) (by omega))]
      exact h1
     ·simp only [Stmt.mk.injEq,true_and,and_true]at al;obtain⟨rfl,rfl⟩:=al;have e0:=rQ _ _ cO;simp only [show qe (n+1) 6=some (.inr (.inr (.inr (.inr (.inr (.inl ()))))))from rfl,ak,hQ.on]
      rw [ahS (A:=A) (B:=B) aI cR (by show dP A≤_;omega) (by show dP B≤_;omega) aQ hm (by omega) (by omega) (by omega) (by omega)
       (λbp bF=>aG n (by omega) Body (d+1) bp cO (by omega) (by omega) (by omega) (by omega))]
      exact h1
     ·simp only [Stmt.mk.injEq,true_and,and_true]at al;obtain⟨rfl,rfl,rfl,rfl,rfl,rfl⟩:=al;have hm:0≤Max∧Max≤999:=hm;have ay:=C4 Max (by omega) (by omega)
      simp only [show qe (n+1) 8=some (.inr (.inr (.inr (.inr (.inr (.inr (.inr ())))))))from rfl,ak,hQ.on,Mc,jq]
      rw [W' _ Max (by omega) (by omega)]
      simp only [ak];rw [m9 _ (d+1) ze (by simp only [cat,anM,anI,anJ];omega) (by simp) (by omega) (by omega)]
      simp only [ak];rw [show dZ ⟨8,[],Max,dQ,dQ,[],[]⟩ (d+1)=du (d+1) [[97,98,111,114,116,32],Lib.decDigits Max.toNat,[59]]by simp [dZ]]at h1
      exact h1
    ·simp only [hi,anD,anF];obtain rfl:i=l.length:=by omega
     rw [List.take_length,show anV (((d+1:Nat):Int)-1)=(d:Int)by rw [wr]<;>omega]
  have:=hU (n+1) 0 (by omega) (by omega)
  simp only [List.take_zero,fX,List.append_nil]at this;exact this
open Go Go.Ab Go.Proofs
section
variable {l:List Token}
theorem mr{i n:Nat}{t:Token}{T R:List Token}{w:anT}(ab:l.length≤1000000000)(aI:cl l i (t::T) R)(h:fC [t] w=true):jU n w ⟨l,(i:Int)⟩=some (true,((i+1:Nat):Int)):=by
 have:=aI.lt
 rw [CV n l i w (by omega),aI.is,show fC ((t::T)++R) w=true from h];rfl
theorem gI{i n:Nat}{t:Token}{T R:List Token}{w:anT}(ab:l.length≤1000000000)(aI:cl l i (t::T) R)(h:fC [t] w=false):jU n w ⟨l,(i:Int)⟩=some (false,((i:Nat):Int)):=by
 have:=aI.lt
 rw [CV n l i w (by omega),aI.is,show fC ((t::T)++R) w=false from h];rfl
theorem pD{i n:Nat}{t:Token}{T R:List Token}{w:anT}(ab:l.length≤1000000000)(aI:cl l i (t::T) R)(h:fC [t] w=true):jV n w ⟨l,(i:Int)⟩=some (.ret () ((i+1:Nat):Int)):=by
 have:=aI.lt
 rw [y1 n l i w (by omega) (by omega),aI.is,show fC ((t::T)++R) w=true from h];rfl
theorem zf{i n:Nat}{T R:List Token}{s:Stmt}(ab:l.length≤1000000000)(aI:cl l i (a_ [59]::T) R):ql n s ⟨l,(i:Int)⟩=some (.ret s ((i+1:Nat):Int)):=by
 have:=aI.lt
 rw [agm n s l i (by omega) (by omega),aI.is];rfl
theorem vW{i n:Nat}{t:Token}{T R:List Token}{kd:Int}(ab:l.length≤1000000000)(aI:cl l i (t::T) R)(h:t.Kind=kd):∃u:Token,pn n kd ⟨l,(i:Int)⟩=some (.ret u ((i+1:Nat):Int))∧u.Text=t.Text∧u.N=t.N:=by
 have:=aI.lt
 obtain⟨Z,aa,ai⟩:=Iu aI.hd;refine⟨l.getD i default,?_,aa,ai⟩
 rw [agl n l i kd ab (by omega),if_pos ⟨this,by rw [Z,h]⟩]
theorem qD{i n:Nat}{e:Expr}{R:List Token}(ab:l.length≤1000000000)(hg:kv l)(he:i8 e)(aI:cl l i (fj e) R)(f8:iB R<1)(hn:24*l.length+100≤n):
 hB n 1 0 ⟨l,(i:Int)⟩=some (.ret e ((i+(fj e).length:Nat):Int)):=by
 have Rv:=Pt e.Op;have e1:eB e 1=fj e:=by unfold eB fW;rw [if_neg (by omega)]
 have cW:=It e 1 he.1;have bH:=(ahh ab hg (fV e) e (Nat.le_refl _) he.1).1 1 i 0 R (by omega) (by omega) (by rw [e1];exact aI) f8 (Or.inl (by have:=he.2;omega))
 rw [e1]at bH cW;have:=aI.le cW
 exact bH n (by omega)
theorem ls{α:Type}{x:α}{a b:Nat}(h:a=b):(some (.ret x (a:Int)):Option (ax α Int))=some (.ret x (b:Int)):=by rw [h]
theorem Xd{s:Stmt}{d:Nat}(h:tm s d)(R:List Token):fC (eh s++R) [125]=false∧fC (eh s++R) [101,108,115,101]=false:=by
 obtain⟨_,hs,_,_⟩:=(zc _ _).1 h;obtain⟨Op,Name,Max,A,B,Body,bw⟩:=s;rcases hs with⟨am,al,hn,aI⟩|⟨al,aI,cR⟩|⟨am,al,aI⟩|⟨al,aI⟩|⟨al,hn,hm,aI,cR⟩|⟨al,hm⟩
 ·simp only at am
  rcases am with rfl|rfl<;>simp [eh,fC,dp,ho]
 ·simp only [Stmt.mk.injEq,true_and,and_true]at al;obtain⟨rfl,rfl,rfl,rfl,rfl⟩:=al;simp [eh,fC,dp,ho]
 ·simp only at am
  rcases am with rfl|rfl<;>simp [eh,fC,dp,ho]
 ·simp only [Stmt.mk.injEq,true_and,and_true]at al;obtain⟨rfl,rfl,rfl,rfl⟩:=al;simp [eh,fC,dp,ho]
 ·simp only [Stmt.mk.injEq,true_and,and_true]at al;obtain⟨rfl,rfl⟩:=al;simp [eh,fC,dp,ho]
 ·simp only [Stmt.mk.injEq,true_and,and_true]at al;obtain⟨rfl,rfl,rfl,rfl,rfl,rfl⟩:=al;simp [eh,fC,dp,ho]
theorem Da(R:List Token):iB (a_ [59]::R)<1:=by have:iB (a_ [59]::R)=0:=rfl;omega
theorem ahU(R:List Token):iB (a_ [61]::R)<1:=by have:iB (a_ [61]::R)=0:=rfl;omega
theorem Xe(R:List Token):iB (a_ [123]::R)<1:=by have:iB (a_ [123]::R)=0:=rfl;omega
theorem ahV(R:List Token):iB (dp [116,111]::R)<1:=by have:iB (dp [116,111]::R)=0:=rfl;omega
theorem ahW(R:List Token):iB (dp [109,97,120]::R)<1:=by have:iB (dp [109,97,120]::R)=0:=rfl;omega
def k6(l:List Token)(n d i:Nat)(s:Stmt):Prop:=vt n (d:Int) ⟨l,(i:Int)⟩=some (.ret s ((i+(eh s).length:Nat):Int))
def qE(l:List Token)(n d i:Nat)(b:List Stmt):Prop:=qn n (d:Int) ⟨l,(i:Int)⟩=some (.ret b ((i+(fK b).length+2:Nat):Int))
theorem ahX{i n d:Nat}{Name:anT}{A:Expr}{R:List Token}(ab:l.length≤1000000000)(hg:kv l)(az:i8 A)(aI:cl l i (eh ⟨1,Name,0,A,dQ,[],[]⟩) R)(hn:24*l.length+100≤n):k6 l (n+1) d i ⟨1,Name,0,A,dQ,[],[]⟩:=by
 have e:eh ⟨1,Name,0,A,dQ,[],[]⟩=dp [108,101,116]::ho Name::a_ [61]::(fj A++[a_ [59]]):=by simp [eh]
 unfold k6;rw [e]at aI ⊢;have Z:=aI.fu;have aa:=Z.fu;have ai:=aa.fu;obtain⟨u,t1,t2,t3⟩:=vW (n:=n) (kd:=1) ab Z rfl;rw [rL];unfold ol;rw [mr ab aI rfl];simp only [ak,anE];rw [t1];simp only [ak,ax.on];rw [pD ab aa rfl];simp only [ak,ax.on];rw [qD ab hg az ai.k3 (Da _) hn];simp only [ak,ax.on];rw [zf ab ai.jH];simp only [ak,ax.on,jq,nP,t2];exact ls (by simp only [anI,anM,anJ];omega)
theorem ahY{i n d:Nat}{Name:anT}{A:Expr}{R:List Token}(ab:l.length≤1000000000)(hg:kv l)(az:i8 A)(aI:cl l i (eh ⟨2,Name,0,A,dQ,[],[]⟩) R)(hn:24*l.length+100≤n):k6 l (n+1) d i ⟨2,Name,0,A,dQ,[],[]⟩:=by
 have e:eh ⟨2,Name,0,A,dQ,[],[]⟩=ho Name::a_ [61]::(fj A++[a_ [59]]):=by simp [eh]
 unfold k6;rw [e]at aI ⊢;have aa:=aI.fu;have ai:=aa.fu;obtain⟨u,t1,t2,t3⟩:=vW (n:=n) (kd:=1) ab aI rfl;rw [rL];unfold ol;simp only [gI ab aI (show fC [ho Name] _=false from rfl),ak,anF]
 rw [t1];simp only [ak,ax.on];rw [pD ab aa rfl];simp only [ak,ax.on];rw [qD ab hg az ai.k3 (Da _) hn];simp only [ak,ax.on];rw [zf ab ai.jH];simp only [ak,ax.on,jq,nP,t2];exact ls (by simp only [anI,anM,anJ];omega)
theorem ahZ{i n d:Nat}{A B:Expr}{R:List Token}(ab:l.length≤1000000000)(hg:kv l)(az:i8 A)(pz:i8 B)(aI:cl l i (eh ⟨3,[],0,A,B,[],[]⟩) R)(hn:24*l.length+100≤n):k6 l (n+1) d i ⟨3,[],0,A,B,[],[]⟩:=by
 have e:eh ⟨3,[],0,A,B,[],[]⟩=dp [112,117,116]::(fj A++a_ [61]::(fj B++[a_ [59]])):=by simp [eh]
 unfold k6;rw [e]at aI ⊢;have Z:=aI.fu;have aa:=Z.jH;have ai:=aa.fu;rw [rL];unfold ol;rw [gI ab aI rfl];simp only [ak,anF];rw [mr ab aI rfl];simp only [ak,anE];rw [qD ab hg az Z.k3 (ahU _) hn];simp only [ak,ax.on];rw [pD ab aa rfl];simp only [ak,ax.on];rw [qD ab hg pz ai.k3 (Da _) hn];simp only [ak,ax.on];rw [zf ab ai.jH];simp only [ak,ax.on,jq,nP];exact ls (by simp only [anI,anM,anJ];omega)
theorem ah0{i n d:Nat}{A:Expr}{R:List Token}(ab:l.length≤1000000000)(hg:kv l)(az:i8 A)(aI:cl l i (eh ⟨4,[],0,A,dQ,[],[]⟩) R)(hn:24*l.length+100≤n):k6 l (n+1) d i ⟨4,[],0,A,dQ,[],[]⟩:=by
 have e:eh ⟨4,[],0,A,dQ,[],[]⟩=dp [100,101,108,101,116,101]::(fj A++[a_ [59]]):=by simp [eh]
 unfold k6;rw [e]at aI ⊢;have Z:=aI.fu;rw [rL];unfold ol;rw [gI ab aI rfl];simp only [ak,anF];rw [gI ab aI rfl];simp only [ak,anF];rw [mr ab aI rfl];simp only [ak,anE];rw [qD ab hg az Z.k3 (Da _) hn];simp only [ak,ax.on];rw [zf ab Z.jH];simp only [ak,ax.on,jq,nP];exact ls (by simp only [anI,anM,anJ];omega)
theorem ah1{i n d:Nat}{A:Expr}{R:List Token}(ab:l.length≤1000000000)(hg:kv l)(az:i8 A)(aI:cl l i (eh ⟨7,[],0,A,dQ,[],[]⟩) R)(hn:24*l.length+100≤n):k6 l (n+1) d i ⟨7,[],0,A,dQ,[],[]⟩:=by
 have e:eh ⟨7,[],0,A,dQ,[],[]⟩=dp [101,109,105,116]::(fj A++[a_ [59]]):=by simp [eh]
 unfold k6;rw [e]at aI ⊢;have Z:=aI.fu;rw [rL];unfold ol;rw [gI ab aI rfl];simp only [ak,anF];rw [gI ab aI rfl];simp only [ak,anF];rw [gI ab aI rfl];simp only [ak,anF];rw [mr ab aI rfl];simp only [ak,anE];rw [qD ab hg az Z.k3 (Da _) hn];simp only [ak,ax.on];rw [zf ab Z.jH];simp only [ak,ax.on,jq,nP];exact ls (by simp only [anI,anM,anJ];omega)
theorem ah2{i n d:Nat}{Max:Int}{R:List Token}(ab:l.length≤1000000000)(aI:cl l i (eh ⟨8,[],Max,dQ,dQ,[],[]⟩) R):k6 l (n+1) d i ⟨8,[],Max,dQ,dQ,[],[]⟩:=by
 have e:eh ⟨8,[],Max,dQ,dQ,[],[]⟩=[dp [97,98,111,114,116],m8 Max,a_ [59]]:=by simp [eh]
 unfold k6;rw [e]at aI ⊢;have Z:=aI.fu;have aa:=Z.fu;obtain⟨u,t1,t2,t3⟩:=vW (n:=n) (kd:=3) ab Z rfl;rw [rL];unfold ol;rw [gI ab aI rfl];simp only [ak,anF];rw [gI ab aI rfl];simp only [ak,anF];rw [gI ab aI rfl];simp only [ak,anF];rw [gI ab aI rfl];simp only [ak,anF];rw [mr ab aI rfl];simp only [ak,anE];rw [t1];simp only [ak,ax.on];rw [zf ab aa];simp only [ak,ax.on,jq,nP,t3];exact ls (by simp only [anI,anM,anJ])
end
open Go Go.Ab Go.Proofs
section
variable {l:List Token}
def Xf(l:List Token)(n d k:Nat)(b:List Stmt):Prop:=∀(i m:Nat) (acc:List Stmt),b.length<m→acc.length+b.length≤1000000→
 yj n (qn n) (vt n) (yk n) (d:Int) ⟨l,(i:Int)⟩ m (k:Int) acc=some (.ret (acc++b) ((k+(fK b).length+1:Nat):Int))
theorem IH{n d i:Nat}{b:List Stmt}{T R:List Token}(ab:l.length≤1000000000)(aI:cl l i (a_ [123]::T) R)(hd:d≤12)(hn:b.length<n)(hb:b.length≤1000000)(h:Xf l n d (i+1) b):qE l (n+1) d i b:=by
 unfold qE;have:=aI.lt
 rw [agn];unfold GG GF;rw [vO,ak,show decide ((12:Int)<(d:Int))=false from decide_eq_false (by omega)]
 have e:(bif (bif gW l i [123]then false else false) then(true:Bool)else false)=false:=by cases gW l i [123]<;>rfl
 have e2:(bif gW l i [123]then false else false)=false:=by cases gW l i [123]<;>rfl
 rw [e2];simp only [anF];rw [pD ab aI rfl];simp only [ak,ax.on];rw [h i n [] hn (by simp;omega)]
 exact ls (by omega)
theorem ah3{i n d:Nat}{A:Expr}{Body bw:List Stmt}{R:List Token}(ab:l.length≤1000000000)(hg:kv l)(az:i8 A)(f8:fC R [101,108,115,101]=false)(aI:cl l i (eh ⟨5,[],0,A,dQ,Body,bw⟩) R)(hn:24*l.length+100≤n)
 (cR:∀T' mD,cl l (i+1+(fj A).length) (a_ [123]::(fK Body++a_ [125]::T')) mD→qE l n d (i+1+(fj A).length) Body)
 (bH:∀k mD,bw.length≠0→cl l k (a_ [123]::(fK bw++[a_ [125]])) mD→qE l n d k bw):k6 l (n+1) d i ⟨5,[],0,A,dQ,Body,bw⟩:=by
 unfold k6;by_cases h0:bw.length=0
 ·have e:eh ⟨5,[],0,A,dQ,Body,bw⟩=dp [105,102]::(fj A++a_ [123]::(fK Body++a_ [125]::[])):=by simp only [eh,h0];simp
  obtain rfl:=List.eq_nil_of_length_eq_zero h0;rw [e]at aI ⊢;have Z:=aI.fu;have aa:=Z.jH;have hb:=cR [] R aa;unfold qE at hb;have ai:=(show cl l (i+1+(fj A).length) ((a_ [123]::(fK Body++[a_ [125]]))++[]) R by rw [List.append_nil];exact aa).jH
  have ah4:=aa.le (by simp)
  simp only [anI,anM,anJ]at ai ah4;rw [rL];unfold ol B0;rw [gI ab aI rfl];simp only [ak,anF];rw [gI ab aI rfl];simp only [ak,anF];rw [gI ab aI rfl];simp only [ak,anF];rw [gI ab aI rfl];simp only [ak,anF];rw [gI ab aI rfl];simp only [ak,anF];rw [mr ab aI rfl];simp only [ak,anE];rw [qD ab hg az Z.k3 (Xe _) hn];simp only [ak,ax.on];rw [hb];simp only [ak,ax.on];rw [CV n l _ _ (by omega),show i+1+(fj A).length+(fK Body).length+2=i+1+(fj A).length+((fK Body).length+(0+1)+1)by omega,ai.is,show fC ([]++R) [101,108,115,101]=false from f8]
  simp only [ak,anF];exact ls (by simp only [anI,anM,anJ];omega)
 ·have e:eh ⟨5,[],0,A,dQ,Body,bw⟩=dp [105,102]::(fj A++a_ [123]::(fK Body++a_ [125]::(dp [101,108,115,101]::a_ [123]::(fK bw++[a_ [125]])))):=by simp only [eh,h0];simp
  rw [e]at aI ⊢;have Z:=aI.fu;have aa:=Z.jH;have hb:=cR _ R aa;unfold qE at hb;have ai:=(show cl l (i+1+(fj A).length) ((a_ [123]::(fK Body++[a_ [125]]))++(dp [101,108,115,101]::a_ [123]::(fK bw++[a_ [125]]))) R by simpa using aa).jH
  simp only [anI,anM,anJ]at ai;rw [show i+1+(fj A).length+((fK Body).length+(0+1)+1)=i+1+(fj A).length+(fK Body).length+2 by omega]at ai
  have ay:=ai.fu;have he:=bH _ R h0 ay;unfold qE at he;rw [rL];unfold ol B0;rw [gI ab aI rfl];simp only [ak,anF];rw [gI ab aI rfl];simp only [ak,anF];rw [gI ab aI rfl];simp only [ak,anF];rw [gI ab aI rfl];simp only [ak,anF];rw [gI ab aI rfl];simp only [ak,anF];rw [mr ab aI rfl];simp only [ak,anE];rw [qD ab hg az Z.k3 (Xe _) hn];simp only [ak,ax.on];rw [hb];simp only [ak,ax.on];rw [mr ab ai rfl];simp only [ak,anE];rw [he];simp only [ak,ax.on];exact ls (by simp only [anI,anM,anJ];omega)
theorem ah5{i n d:Nat}{Name:anT}{Max:Int}{A B:Expr}{Body:List Stmt}{R:List Token}(ab:l.length≤1000000000)(hg:kv l)(az:i8 A)(pz:i8 B)(aI:cl l i (eh ⟨6,Name,Max,A,B,Body,[]⟩) R)(hn:24*l.length+100≤n)
 (cR:∀k mD,cl l k (a_ [123]::(fK Body++[a_ [125]])) mD→qE l n d k Body):k6 l (n+2) d i ⟨6,Name,Max,A,B,Body,[]⟩:=by
 have e:eh ⟨6,Name,Max,A,B,Body,[]⟩=dp [102,111,114]::ho Name::a_ [61]::(fj A++dp [116,111]::(fj B++dp [109,97,120]::m8 Max::a_ [123]::(fK Body++[a_ [125]]))):=by simp [eh]
 unfold k6;rw [e]at aI ⊢;have Z:=aI.fu;have aa:=Z.fu;have ai:=aa.fu;have ay:=ai.jH;have aJ:=ay.fu;have bE:=aJ.jH;have cz:=bE.fu;have dh:=cz.fu;have hb:=cR _ _ dh;unfold qE at hb;obtain⟨u,t1,t2,t3⟩:=vW (n:=n) (kd:=1) ab Z rfl;obtain⟨v,v1,v2,v3⟩:=vW (n:=n) (kd:=3) ab cz rfl;rw [rL];unfold ol;rw [gI ab aI rfl];simp only [ak,anF];rw [gI ab aI rfl];simp only [ak,anF];rw [gI ab aI rfl];simp only [ak,anF];rw [gI ab aI rfl];simp only [ak,anF];rw [gI ab aI rfl];simp only [ak,anF];rw [gI ab aI rfl];simp only [ak,anF];rw [mr ab aI rfl];simp only [ak,anE];rw [ago];unfold GO;rw [t1];simp only [ak,ax.on];rw [pD ab aa rfl];simp only [ak,ax.on];rw [qD ab hg az ai.k3 (ahV _) hn];simp only [ak,ax.on];rw [pD ab ay rfl];simp only [ak,ax.on];rw [qD ab hg pz aJ.k3 (ahW _) hn];simp only [ak,ax.on];rw [pD ab bE rfl];simp only [ak,ax.on];rw [v1];simp only [ak,ax.on];rw [hb];simp only [ak,ax.on,jq,nP,t2,v3];exact ls (by simp only [anI,anM,anJ];omega)
mutual
theorem ah6(ab:l.length≤1000000000)(hg:kv l):∀(s:Stmt) (d i n:Nat) (R:List Token),tm s d→fC R [101,108,115,101]=false→cl l i (eh s) R→fst s≤1000000→24*l.length+200+3*fst s≤n→k6 l n d i s
 |⟨Op,Name,Max,A,B,Body,bw⟩,d,i,n,R,cG,f8,aI,aN,hn=>by
  obtain⟨hd,hs,cO,fc⟩:=(zc _ _).1 cG;have ns:fst ⟨Op,Name,Max,A,B,Body,bw⟩=80+Name.length+dP A+dP B+eg Body+eg bw:=rfl;have ah7:=vP Body;have am6:=vP bw;have vV:=λk n R=>II ab hg Body d k n R cO
  have IG:=λk n R=>II ab hg bw d k n R fc
  obtain⟨n,rfl⟩:∃k,n=k+3:=⟨n-3,by omega⟩
  rcases hs with⟨am,al,aQ,az⟩|⟨al,az,pz⟩|⟨am,al,az⟩|⟨al,az⟩|⟨al,aQ,hm,az,pz⟩|⟨al,hm⟩
  ·simp only [Stmt.mk.injEq,true_and,and_true]at al am;obtain⟨rfl,rfl,rfl,rfl⟩:=al;rcases am with rfl|rfl
   ·exact ahX ab hg az aI (by omega)
   ·exact ahY ab hg az aI (by omega)
  ·simp only [Stmt.mk.injEq,true_and,and_true]at al;obtain⟨rfl,rfl,rfl,rfl,rfl⟩:=al;exact ahZ ab hg az pz aI (by omega)
  ·simp only [Stmt.mk.injEq,true_and,and_true]at al am;obtain⟨rfl,rfl,rfl,rfl,rfl⟩:=al;rcases am with rfl|rfl
   ·exact ah0 ab hg az aI (by omega)
   ·exact ah1 ab hg az aI (by omega)
  ·simp only [Stmt.mk.injEq,true_and,and_true]at al;obtain⟨rfl,rfl,rfl,rfl⟩:=al;refine ah3 (A:=A) ab hg az f8 aI (by omega) (λT' mD h=>?_) (λk mD h0 h=>?_)
   ·refine IH ab h hd (by omega) (by omega) (vV _ (n+1) (T'++mD) ?_ (by omega) (by omega))
    have:=h.fu
    rw [show fK Body++a_ [125]::T'=(fK Body++[a_ [125]])++T' by simp]at this
    exact this.k3
   ·exact IH ab h hd (by omega) (by omega) (IG _ (n+1) mD h.fu (by omega) (by omega))
  ·simp only [Stmt.mk.injEq,true_and,and_true]at al;obtain⟨rfl,rfl⟩:=al;refine ah5 (A:=A) (B:=B) ab hg az pz aI (by omega) (λk mD h=>?_)
   exact IH ab h hd (by omega) (by omega) (vV _ n mD h.fu (by omega) (by omega))
  ·simp only [Stmt.mk.injEq,true_and,and_true]at al;obtain⟨rfl,rfl,rfl,rfl,rfl,rfl⟩:=al;exact ah2 ab aI
theorem II(ab:l.length≤1000000000)(hg:kv l):∀(b:List Stmt) (d k n:Nat) (R:List Token),ky b (d+1)→cl l k (fK b++[a_ [125]]) R→eg b≤1000000→24*l.length+200+3*eg b≤n→Xf l n d k b
 |[],d,k,n,R,cG,aI,aN,hn=>by
  intro i m acc hm ha;obtain⟨m,rfl⟩:∃j,m=j+1:=⟨m-1,by simp at hm;omega⟩
  simp only [yj,GE,Nd];rw [mr ab (show cl l k (a_ [125]::[]) R from aI) rfl]
  simp only [ak,anG,anF,List.append_nil];exact ls rfl
 |s::b,d,k,n,R,cG,aI,aN,hn=>by
  intro i m acc hm ha;simp only [anI]at hm ha;obtain⟨m,rfl⟩:∃j,m=j+1:=⟨m-1,by omega⟩
  have ns:eg (s::b)=fst s+1+eg b:=rfl;simp only [fK,List.append_assoc]at aI
  have f8:fC ((fK b++[a_ [125]])++R) [101,108,115,101]=false:=by
   cases b with
   |nil=>rfl
   |cons x b=>simp only [fK,List.append_assoc];exact(Xd cG.2.1 _).2
  have Z:=ah6 ab hg s (d+1) k n _ cG.1 f8 aI.k3 (by omega) (by omega)
  have aa:=II ab hg b d (k+(eh s).length) n R cG.2 aI.jH (by omega) (by omega) i m (acc++[s]) (by omega) (by simp only [anM,anI,anJ];omega)
  unfold k6 at Z
  have hk:k<l.length:=by
   by_cases hk:k<l.length
   ·exact hk
   ·unfold cl at aI;have:=congrArg List.length aI
    simp only [List.length_drop,List.length_map,anM,anI,anJ]at this;omega
  simp only [yj,GE];rw [CV n l k _ (by omega),aI.is,List.append_assoc,(Xd cG.1 _).1]
  simp only [ak,anH,anE,anF];rw [bD (by have:=((zc _ _).1 cG.1).1;omega),Z]
  simp only [ak,ax.on];rw [show(acc.length+([s]:List Stmt).length)=acc.length+1 from rfl,agp (by omega)]
  simp only [aX];rw [aa];simp only [fK,List.append_assoc,List.cons_append,List.nil_append,anM];exact ls (by omega)
end
end
open Go Go.Ab Go.Proofs
def nR(t:Int):anT:=if t=1 then[105,110,116]else if t=2 then[115,116,114] else[98,111,111,108]
def m_(x:Param):anT:=(x.Name++[58,32])++nR x.gp
def tn(x:Param):List Token:=[ho x.Name,a_ [58],dp (nR x.gp)]
def pE:List Param→List Token
 |[]=>[]
 |x::l=>a_ [44]::(tn x++pE l)
def tp:List Param→List Token
 |[]=>[]
 |x::l=>tn x++pE l
def qF(x:Param):Prop:=gx x.Name=true∧1≤x.gp∧x.gp≤3
def Xg:∀(l b:List Param),y3 b l=0→∀x,x∈l→qF x
 |[],b,h,x,hx=>by cases hx
 |y::l,b,h,x,hx=>by
  unfold y3 at h;split at h
  ·omega
  rename_i g1;split at h
  ·omega
  rename_i g2;split at h
  ·omega
  rename_i g3;rcases List.mem_cons.1 hx with rfl|hx
  ·exact⟨by simpa using g1,by omega,by omega⟩
  ·exact Xg l _ h x hx
def IJ{l:List Param}(h:tf l=0):l.length≤6∧∀x,x∈l→qF x:=by
 unfold tf at h;split at h
 ·omega
 ·exact⟨by omega,Xg l [] h⟩
def pF(l:List Param):anT:=Lib.join (l.map m_) [44,32]
def lu(p:bd):anT:=du 0 [[112,114,111,99,32],p.Name,[40],pF p.Params,[41,32,123]]++(fX p.Body 1++du 0 [[125]])
def tq(p:bd):List Token:=dp [112,114,111,99]::ho p.Name::a_ [40]::(tp p.Params++a_ [41]::a_ [123]::(fK p.Body++[a_ [125]]))
def ah8(t:Int):nR t∈ot:=by
 unfold nR;by_cases Z:t=1
 ·rw [if_pos Z];decide
 ·rw [if_neg Z];by_cases aa:t=2
  ·rw [if_pos aa];decide
  ·rw [if_neg aa];decide
def Xh(t:Int):(nR t).length≤4:=by
 unfold nR;split
 ·simp
 ·split<;>simp
def ah9(n:Nat)(t:Int):Fv n t=some (nR t):=by
 unfold Fv nR;by_cases Z:t=1
 ·simp [Z]
 ·by_cases aa:t=2
  ·simp [aa]
  ·simp [Z,aa]
def Xi{x:Param}{r:anT}{T:List Token}(hx:qF x)(hb:m7 r)(h:ej r T):ej (m_ x++r) (tn x++T):=by
 have e:m_ x++r=x.Name++58::32::(nR x.gp++r):=by simp [m_]
 rw [e];exact C' hx.1 (iA rfl) (kw (t:=a_ [58]) (oB (by decide)) (C0 (by decide)) (lX (kw (t:=dp (nR x.gp)) (tj (ah8 _)) (CZ (by simp [dp]) hb) h)))
def PL(x:anT)(l:List anT):Lib.joinTail [44,32] (x::l)=44::32::(x++Lib.joinTail [44,32] l):=by simp [Lib.joinTail]
def Xj{l:List Param}{r:anT}(hb:m7 r):m7 (Lib.joinTail [44,32] (l.map m_)++r):=by
 cases l with
 |nil=>exact hb
 |cons x l=>rw [List.map_cons,PL];exact iA rfl
def Xk{r:anT}{T:List Token}(hb:m7 r)(h:ej r T):∀l:List Param,(∀x,x∈l→qF x)→ej (Lib.joinTail [44,32] (l.map m_)++r) (pE l++T)
 |[],_=>h
 |x::l,ab=>by
  rw [List.map_cons,PL];have:=Xi (ab x (by simp)) (Xj (l:=l) hb) (Xk hb h l λy bY=>ab y (by simp [bY]))
  simp only [List.cons_append,List.append_assoc,pE];exact kw (t:=a_ [44]) (oB (by decide)) (C0 (by decide)) (lX this)
def ah'{r:anT}{T:List Token}(hb:m7 r)(h:ej r T)(l:List Param)(ab:∀x,x∈l→qF x):ej (pF l++r) (tp l++T):=by
 unfold pF;cases l with
 |nil=>exact h
 |cons x l=>
  rw [List.map_cons,Lib.join_cons];simp only [List.append_assoc,tp];exact Xi (ab x (by simp)) (Xj (l:=l) hb) (Xk hb h l λy bY=>ab y (by simp [bY]))
def ah_{p:bd}(hp:IC p){r:anT}{T:List Token}(h:ej r T):ej (lu p++r) (tq p++T):=by
 obtain⟨Z,aa,ai⟩:=hp;have e:lu p++r=[112,114,111,99]++32::(p.Name++40::(pF p.Params++41::32::123::10::(fX p.Body 1++(du 0 [[125]]++r)))):=by simp [lu,du,ind,cat]
 have e2:tq p++T=dp [112,114,111,99]::ho p.Name::a_ [40]::(tp p.Params++a_ [41]::a_ [123]::(fK p.Body++a_ [125]::T)):=by simp [tq]
 rw [e,e2];exact pC (by decide) (C' Z (iA rfl) (Pq (ah' (iA rfl) (Io (C_ (IF p.Body 1 1 ai _ _ (IE 0 h)))) p.Params (IJ aa).2)))
def Xl{x:Param}(h:qF x):(m_ x).length≤22:=by
 have:=qx h.1
 have:=Xh x.gp
 unfold m_;simp only [anM,anI,anJ];omega
def Xm:∀l:List Param,(∀x,x∈l→qF x)→(Lib.joinTail [44,32] (l.map m_)).length≤24*l.length
 |[],_=>Nat.le_refl _
 |x::l,h=>by
  have Z:=Xm l λy bY=>h y (by simp [bY])
  have aa:=Xl (h x (by simp))
  rw [List.map_cons,PL];simp only [anM,anI];omega
def Xn{l:List Param}(ab:∀x,x∈l→qF x):(pF l).length≤24*l.length:=by
 unfold pF;cases l with
 |nil=>exact Nat.le_refl _
 |cons x l=>
  have Z:=Xm l λy bY=>ab y (by simp [bY])
  have aa:=Xl (ab x (by simp))
  rw [List.map_cons,Lib.join_cons];simp only [anM,anI];omega
def Xo{p:bd}(hp:IC p):(lu p).length≤4*eg p.Body+300:=by
 obtain⟨Z,aa,ai⟩:=hp;obtain⟨ay,aJ⟩:=IJ aa;have bE:=Xn aJ;have cz:=qx Z;have dh:=rQ p.Body 1 ai;unfold lu;simp only [anM,k5,cat,anI,anJ];omega
def aia{n:Nat}(p:bd)(hi:qB p)(an:oy p=0)(hn:3000000≤n)(aN:jr p.Params≤300000)(cR:eg p.Body≤300000):sJ n p=some (lu p):=by
 have hp:=PI hi an;have w3:=hp;obtain⟨Z,aa,ai⟩:=hp;obtain⟨ay,aJ⟩:=IJ aa;have bE:=Xn aJ;have cz:=qx Z;have dh:=rQ p.Body 1 ai;have eH:(fX p.Body (0+1)).length≤4*eg p.Body:=dh;unfold sJ;rw [Pi p (by omega) (by omega) (by omega) (by omega) (by omega),an]
 simp only [ak,anC,anG,anF]
 have hU:∀m i,p.Params.length<i+m→i≤p.Params.length→Bq n p m (i:Int) ((p.Params.take i).map m_)=some (lu p):=by
  intro m;induction m with
  |zero=>intro i g1 g2;omega
  |succ m aG=>
   intro i g1 g2;simp only [Bq,Ms,anL,anK];by_cases hi:i<p.Params.length
   ·have hx:=aJ (p.Params.getD i default) (by rw [List.getD_eq_getElem?_getD,List.getElem?_eq_getElem hi];exact List.getElem_mem hi)
    have hnx:=qx hx.1;have am7:=Xh (p.Params.getD i default).gp;have:=aG (i+1) (by omega) (by omega)
    rw [Il p.Params i hi,List.map_append]at this;simp only [List.map_cons,List.map_nil]at this;simp only [hi,anC,anE,b4 hi,aX];rw [k4 (by simp only [anI,anJ];omega),ah9]
    simp only [aX,ak];rw [k4 (by simp only [anM,anI,anJ];omega)]
    simp only [aX]
    rw [show room ((List.map m_ (p.Params.take i)).length+([(p.Params.getD i default).Name++[58,32]++nR (p.Params.getD i default).gp]:List anT).length) 16=true by
     simp [room];omega]
    simp only [aX];rw [bD (by omega)]
    exact this
   ·simp only [hi,anD,anF];obtain rfl:i=p.Params.length:=by omega
    unfold Mr;rw [List.take_length];unfold E1;rw [show decide ((p.Params.map m_).length≤140737488355328∧(Lib.join (p.Params.map m_) [44,32]).length≤140737488355328)=true from decide_eq_true ⟨by rw [List.length_map];omega,by show(pF p.Params).length≤_;omega⟩]
    simp only [aX,ak];have ab:=m9 (n:=n) [[112,114,111,99,32],p.Name,[40],pF p.Params,[41,32,123]] 0 [] (by simp only [cat,anM,anI,anJ];omega) (by simp) (by omega) (by omega)
    have ab:lP n [[112,114,111,99,32],p.Name,[40],Lib.join (p.Params.map m_) [44,32],[41,32,123]] [] 0=_:=ab;rw [ab];simp only [ak,List.nil_append];have hb:=ahT n p.Body 0 (du 0 [[112,114,111,99,32],p.Name,[40],pF p.Params,[41,32,123]]) ai (by omega) (by omega) (by omega) (by simp only [k5,cat,anM,anI,anJ];omega)
    unfold rS at hb;rw [show qh n p.Body (fs (du 0 [[112,114,111,99,32],p.Name,[40],pF p.Params,[41,32,123]])) 0=_ from hb]
    simp only [ak];rw [m9 _ 0 _ (by simp only [cat,anM,k5,anI,anJ];omega) (by simp) (by omega) (by omega)]
    simp only [ak];unfold FI;rw [OY,OX];have hlen:=Xo w3;have aib:du 0 [[112,114,111,99,32],p.Name,[40],pF p.Params,[41,32,123]]++fX p.Body (0+1)++du 0 [[125]]=lu p:=by unfold lu;rw [List.append_assoc]
    rw [aib];rw [show decide ((fs (lu p)).length≤9223372036854775807)=true from decide_eq_true (by rw [show(fs (lu p)).length=(lu p).length by simp [fs]];omega)]
    rfl
 exact hU n 0 (by omega) (by omega)
open Go Go.Ab Go.Proofs
section
variable {l:List Token}
theorem Xp{i n:Nat}{x:Param}{R:List Token}(ab:l.length≤1000000000)(hx:qF x)(aI:cl l i (tn x) R):Ca n ⟨l,(i:Int)⟩=some (.ret x ((i+3:Nat):Int)):=by
 have aI:cl l i (ho x.Name::a_ [58]::dp (nR x.gp)::[]) R:=aI;have Z:=aI.fu;have aa:=Z.fu;obtain⟨u,t1,t2,t3⟩:=vW (n:=n) (kd:=1) ab aI rfl;obtain⟨te,ty⟩:=x;unfold Ca yl;rw [t1];simp only [ak,ax.on];rw [pD ab Z rfl];simp only [ak,ax.on];obtain⟨_,g1,g2⟩:=hx;simp only at g1 g2
 have:ty=1∨ty=2∨ty=3:=by omega
 rcases this with rfl|rfl|rfl
 ·rw [mr ab aa rfl];simp only [ak,anE,t2];exact ls rfl
 ·rw [gI ab aa rfl];simp only [ak,anF];rw [mr ab aa rfl];simp only [ak,anE,t2];exact ls rfl
 ·rw [gI ab aa rfl];simp only [ak,anF];rw [gI ab aa rfl];simp only [ak,anF];rw [mr ab aa rfl];simp only [ak,anE,t2];exact ls rfl
theorem Xq{n:Nat}{b:Int}{t:Token}(ab:l.length≤1000000000):∀(bM acc:List Param) (k m:Nat) (T R:List Token),(∀x,x∈bM→qF x)→cl l k (pE bM++a_ [41]::T) R→bM.length<m→acc.length+bM.length≤1000→
 ym n ⟨l,b⟩ t m (k:Int) acc=GR n ⟨l,b⟩ t ((k+(pE bM).length:Nat):Int) (acc++bM)
 |[],acc,k,m,T,R,hx,aI,hm,ha=>by
  obtain⟨m,rfl⟩:∃j,m=j+1:=⟨m-1,by simp at hm;omega⟩
  simp only [ym,GS];rw [gI ab (show cl l k (a_ [41]::T) R from aI) rfl]
  simp only [ak,anF,List.append_nil];rfl
 |x::bM,acc,k,m,T,R,hx,aI,hm,ha=>by
  simp only [anI]at hm ha;obtain⟨m,rfl⟩:∃j,m=j+1:=⟨m-1,by omega⟩
  have aI:cl l k (a_ [44]::(tn x++pE bM++a_ [41]::T)) R:=aI;have Z:=aI.fu;rw [List.append_assoc]at Z;have aa:=Xq (n:=n) (b:=b) (t:=t) ab bM (acc++[x]) (k+1+(tn x).length) m T R (λy bY=>hx y (by simp [bY])) Z.jH (by omega) (by simp only [anM,anI,anJ];omega)
  simp only [ym,GS];rw [mr ab aI rfl];simp only [ak,anE];rw [Xp ab (hx x (by simp)) Z.k3]
  simp only [ak,ax.on];rw [show acc.length+([x]:List Param).length=acc.length+1 from rfl,Wl (by omega)]
  simp only [aX];have e3:(tn x).length=3:=rfl;rw [e3]at aa;rw [aa,List.append_assoc,show k+1+3+(pE bM).length=k+(pE (x::bM)).length by simp only [pE,anI,anM,e3];omega]
  rfl
theorem Xr{n i k:Nat}{b:Int}{t:Token}{bM:List Param}{Body:List Stmt}{R:List Token}(ab:l.length≤1000000000)(hg:kv l)(cG:ky Body 1)(aN:eg Body≤1000000)(hn:24*l.length+201+3*eg Body≤n)(aI:cl l k (a_ [123]::(fK Body++[a_ [125]])) R):
 Cb n ⟨l,b⟩ t (k:Int) bM=some (.ret ⟨t.Text,bM,Body⟩ ((k+(fK Body).length+2:Nat):Int)):=by
 have ah7:=vP Body;obtain⟨n,rfl⟩:∃j,n=j+1:=⟨n-1,by omega⟩
 have Z:=II ab hg Body 0 (k+1) n R cG aI.fu aN (by omega)
 have aa:=IH ab aI (by omega) (by omega) (by omega) Z
 unfold qE at aa;unfold Cb;rw [show qn (n+1) 0 ⟨l,(k:Int)⟩=_ from aa]
 simp only [ak,ax.on]
theorem aic{n i:Nat}{p:bd}{R:List Token}(ab:l.length≤1000000000)(hg:kv l)(hp:IC p)(aN:eg p.Body≤1000000)(hn:24*l.length+201+3*eg p.Body≤n)(aI:cl l i (tq p) R):
 Cc n ⟨l,(i:Int)⟩=some (.ret p ((i+(tq p).length:Nat):Int)):=by
 obtain⟨te,bM,mb⟩:=p;obtain⟨g1,g2,g3⟩:=hp;obtain⟨g4,g5⟩:=IJ g2;simp only at g1 g4 g5 g3 aN hn
 have aI:cl l i (dp [112,114,111,99]::ho te::a_ [40]::(tp bM++a_ [41]::a_ [123]::(fK mb++[a_ [125]]))) R:=aI;have Z:=aI.fu;have aa:=Z.fu;have ai:=aa.fu;obtain⟨u,t1,t2,t3⟩:=vW (n:=n) (kd:=1) ab Z rfl;have t2:u.Text=te:=t2;unfold Cc;rw [pD ab aI rfl];simp only [ak,ax.on];rw [t1];simp only [ak,ax.on];rw [pD ab aa rfl];simp only [ak,ax.on];cases bM with
 |nil=>
  have ai:cl l (i+1+1+1) (a_ [41]::a_ [123]::(fK mb++[a_ [125]])) R:=ai;rw [mr ab ai rfl];simp only [ak,anG,anF];rw [Xr (i:=0) ab hg g3 aN hn ai.fu,t2];exact ls (by simp only [tq,tp,anI,anM,anJ];omega)
 |cons x bM=>
  have e3:(tn x).length=3:=rfl;simp only [tp,List.append_assoc]at ai;have ay:=ai.jH;rw [e3]at ay;have aJ:=ay.jH;rw [gI ab (show cl l (i+1+1+1) (ho x.Name::(a_ [58]::dp (nR x.gp)::(pE bM++a_ [41]::a_ [123]::(fK mb++[a_ [125]])))) R from ai) rfl]
  simp only [ak,anH,anE];rw [Xp ab (g5 x (by simp)) ai.k3]
  simp only [ak,ax.on];rw [show(([]:List Param).length+([x]:List Param).length)=1 from rfl,Wl (by omega)]
  simp only [aX,List.nil_append];simp only [anI]at g4;rw [Xq ab bM [x] _ n _ R (λy bY=>g5 y (by simp [bY])) ay (by omega) (by simp;omega)]
  unfold GR;rw [pD ab aJ rfl];simp only [ak,ax.on];rw [Xr (i:=0) ab hg g3 aN hn aJ.fu,t2];exact ls (by simp only [tq,tp,e3,anI,anM,anJ];omega)
end
def aid{l T:List Token}(h:l.map cN=T):cl l 0 T []:=by
 unfold cl;rw [List.drop_zero,h,List.append_nil]
def aie{l T:List Token}(h:l.map cN=T):l.length=T.length:=by rw [←h,List.length_map]
def aif{n:Nat}{p:bd}(hi:qB p)(an:oy p=0)(hn:3000000≤n)(aN:jr p.Params≤300000)(cR:eg p.Body≤300000)(hs:(lu p).length≤16384):Cd n (lu p)=some (p,0,0):=by
 have hp:=PI hi an
 have az:ej (lu p) (tq p):=by
  have:=ah_ hp ej.nil
  rwa [List.append_nil,List.append_nil]at this
 have aQ:=qx hp.1;obtain⟨l,Z,aa,ai,ay,aJ⟩:=agL az hs (n:=n) (by omega) (by omega)
 have hlen:=If l;have aig:=aie aa;unfold Cd GT NA;rw [Z];simp only [ak,anC,anG,anF];have aih:=aic (l:=l) (i:=0) (n:=n) (by omega) ay hp (by omega) (by omega) (aid aa)
 rw [show Cc n ⟨l,0⟩=_ from aih]
 simp only [ak,ax.on,aig,Nat.zero_add,anP,anD,anF,anC,anE,Wu];rw [Pi p (by omega) (by omega) (by omega) (by omega) (by omega),an]
 simp only [ak,GU,anC,anG,anF,Wu]
open Go Go.Ab Go.Proofs
def gz(s:anT):List Int:=s.map λb=>(b.toNat:Int)
def Xs(s:anT):kS (gz s)=s:=by
 simp only [kS,gz,List.map_map]
 conv=>rhs;rw [←List.map_id s]
 apply List.map_congr_left;intro b _;simp
def Xt(s:anT):oc (gz s)=true:=by
 simp only [oc,gz,List.all_eq_true,List.mem_map,forall_exists_index,and_imp,forall_apply_eq_imp_iff₂];intro b _;have:=b.toNat_lt
 simp;omega
def PM(s t:anT):gz (s++t)=gz s++gz t:=List.map_append
def IK(s:anT):(gz s).length=s.length:=List.length_map _
def PN:([]:List Int)=gz []:=rfl
def eM(u:Nat):anT:=if u<128 then[UInt8.ofNat u]else UInt8.ofNat (u % 128+128)::eM (u / 128)
termination_by u
decreasing_by omega
def Xu:∀(k u:Nat),u<128 ^ k→0<k→(eM u).length≤k
 | 0,u,_,h=>by omega
 |k+1,u,hu,_=>by
  rw [eM];split
  ·simp
  ·have hk:0<k:=by
    rcases Nat.eq_zero_or_pos k with rfl|h
    ·simp at hu;omega
    ·exact h
   have:=Xu k (u / 128) (by rw [Nat.pow_succ]at hu;omega) hk
   simp;omega
def mt{u:Nat}(h:u<18446744073709551616):(eM u).length≤10:=Xu 10 u (by omega) (by omega)
def aii:∀x:Nat,x<256→pQ .u8 (x:Int) 128=((x % 128+128:Nat):Int):=by decide +kernel
def Xv(u:Nat):IntKind.u8.wrap (u:Int)=((u % 256:Nat):Int):=by rw [IntKind.wrap_u8];omega
def rT{u:Nat}(h:u<18446744073709551616):IntKind.u64.wrap (u:Int)=(u:Int):=by rw [IntKind.wrap_u64];omega
def Xw(u:Nat)(h:u<256):([(u:Int)]:List Int)=gz [UInt8.ofNat u]:=by
 simp only [gz,List.map_cons,List.map_nil,UInt8.toNat_ofNat',Nat.mod_eq_of_lt (show u<2 ^ 8 from h)]
def aij(u:Nat):mw .u64 (u:Int) 7=((u / 128:Nat):Int):=by
 unfold mw;rw [show min (7:Int).toNat (IntKind.bits .u64)=7 by decide,Int.fdiv_eq_ediv_of_nonneg _ (by omega)]
 omega
def PO{n:Nat}(h:n≤140737488355328):room n 1=true:=by simp [room];omega
def lZ{n:Nat}(h:n≤9223372036854775807):eU n=true:=by simp [eU];omega
def aik(n:Nat):∀m u (acc:anT),u<18446744073709551616→(eM u).length≤m→acc.length+(eM u).length≤1000→A7 n m (u:Int) (gz acc)=some (acc++eM u):=by
 intro m;induction m with
 |zero=>intro u acc _ h _;rw [eM]at h;split at h<;>simp at h
 |succ m aG=>
  intro u acc hu hm ab;simp only [A7,LK,LJ,E7];rw [eM]at hm ab ⊢;by_cases h:u<128
  ·rw [if_pos h]at hm ab ⊢;simp only [anN]at ab;have:¬ (128:Int)≤(u:Int):=by omega
   rw [Xv,Nat.mod_eq_of_lt (by omega),Xw u (by omega),←PM]
   simp only [this,anD,anF,anN,IK,PO (show acc.length+1≤140737488355328 by omega),aX,ak,Xt,Xs]
  ·rw [if_neg h]at hm ab ⊢;simp only [anI]at hm ab;have:(128:Int)≤(u:Int):=by omega
   rw [Xv,aii _ (by omega),show u % 256 % 128=u % 128 by omega,Xw _ (by omega),←PM,aij]
   simp only [this,anC,anE,anN,IK,PO (show acc.length+1≤140737488355328 by omega),aX,ak]
   rw [aG (u / 128) _ (by omega) (by omega) (by simp;omega)]
   simp
def tr{n u:Nat}(hn:10≤n)(hu:u<18446744073709551616):hA n (u:Int)=some (eM u):=by
 have:=mt hu
 exact aik n n u [] hu (by omega) (by simp;omega)
def fold(n:Int):Nat:=if n<0 then(2*(-(n+1))+1).toNat else(2*n).toNat
def eJ(x:Int):Prop := -9223372036854775808≤x∧x≤9223372036854775807
def PP{n:Int}(h:eJ n):fold n<18446744073709551616:=by
 unfold eJ at h;unfold fold;split<;>omega
def l1(n:Int):anT:=eM (fold n)
def qG{n:Int}(h:eJ n):(l1 n).length≤10:=mt (PP h)
def xor_zero{a:Nat}(h:a<18446744073709551616):l7 .u64 (a:Int) 0=(a:Int):=by
 unfold l7;rw [show BitVec.ofInt (IntKind.bits .u64) 0=0#_ from rfl,BitVec.xor_zero]
 rw [show((BitVec.ofInt (IntKind.bits .u64) (a:Int)).toNat:Int)=(a:Int) by
  rw [BitVec.toNat_ofInt];simp only [IntKind.bits];omega]
 exact rT h
def ail{a:Nat}(h:a<18446744073709551616):l7 .u64 (a:Int) 18446744073709551615=((18446744073709551615-a:Nat):Int):=by
 unfold l7;rw [show BitVec.ofInt (IntKind.bits .u64) 18446744073709551615=BitVec.allOnes _ by decide,BitVec.xor_allOnes]
 rw [show((~~~ BitVec.ofInt (IntKind.bits .u64) (a:Int)).toNat:Int)=((18446744073709551615-a:Nat):Int) by
  rw [BitVec.toNat_not,BitVec.toNat_ofInt];simp only [IntKind.bits];omega]
 exact rT (by omega)
def aim{x:Int}(h:eJ x):l7 .u64 (n0 .u64 (IntKind.u64.wrap x) 1) (IntKind.u64.wrap (mw .i64 x 63))=(fold x:Int):=by
 unfold eJ at h
 have e1:mw .i64 x 63=if x<0 then -1 else 0:=by
  unfold mw;rw [show min (63:Int).toNat (IntKind.bits .i64)=63 by decide,Int.fdiv_eq_ediv_of_nonneg _ (by omega)]
  split<;>omega
 have e2:n0 .u64 (IntKind.u64.wrap x) 1=(((2*x) % 18446744073709551616).toNat:Int):=by
  unfold n0;rw [show min (1:Int).toNat (IntKind.bits .u64)=1 by decide,IntKind.wrap_u64,IntKind.wrap_u64]
  omega
 rw [e1,e2];unfold fold;by_cases hx:x<0
 ·rw [if_pos hx,if_pos hx,show IntKind.u64.wrap (-1)=18446744073709551615 by decide,ail (by omega)]
  omega
 ·rw [if_neg hx,if_neg hx,show IntKind.u64.wrap 0=0 by decide,xor_zero (by omega)]
  omega
def vX{n:Nat}{x:Int}(hn:10≤n)(h:eJ x):qd n x=some (l1 x):=by
 unfold qd;rw [aim h,tr hn (PP h)];rfl
def fL(s:anT):anT:=eM s.length++s
def tu{n:Nat}{s:anT}(hn:10≤n)(h:s.length≤4611686018427387904):pf n s=some (fL s):=by
 unfold pf;have:=mt (u:=s.length) (by omega)
 rw [rT (by omega),tr hn (by omega)]
 simp only [ak,lZ (show(eM s.length).length+s.length≤9223372036854775807 by omega),aX];rfl
def IL{s:anT}(h:s.length≤4611686018427387904):(fL s).length≤s.length+10:=by
 have:=mt (u:=s.length) (by omega)
 simp [fL];omega
open Go Go.Ab Go.Proofs
open Go Go.Ab Go.Proofs
open Go Go.Ab Go.Proofs
open Go Go.Ab Go.Proofs
open Go Go.Ab Go.Proofs
open Go Go.Ab Go.Proofs
def ain{β:Type}{L:Nat→Int→Option β}{len:Nat}{chk:Nat→Bool}{no yes:β}
 (step:∀m i,i<len→L (m+1) (i:Int)=if chk i then L m ((i+1:Nat):Int)else some no) (stop:∀m,L (m+1) (len:Int)=some yes):
 ∀m i,len<i+m→i≤len→L m (i:Int)=some (if(List.range' i (len-i)).all chk then yes else no):=by
 intro m;induction m with
 |zero=>intro i h aa;omega
 |succ m aG=>
  intro i h aa;by_cases hi:i<len
  ·rw [step m i hi,aG (i+1) (by omega) (by omega),show len-i=(len-(i+1))+1 by omega,List.range'_succ,List.all_cons]
   cases chk i
   ·rfl
   ·rw [if_pos rfl,Bool.true_and]
  ·obtain rfl:i=len:=by omega
   rw [stop m];simp
def Xx{β:Type}{L:Nat→Int→Option β}{len:Nat}{chk:Nat→Bool}{no yes:β}{m:Nat}(hm:len<m)
 (step:∀m i,i<len→L (m+1) (i:Int)=if chk i then L m ((i+1:Nat):Int)else some no) (stop:∀m,L (m+1) (len:Int)=some yes):
 L m 0=some (if(List.range len).all chk then yes else no):=by
 have:=ain step stop m 0 (by omega) (by omega)
 rwa [Nat.sub_zero,←List.range_eq_range']at this
def vY(c:UInt8):Bool:=decide (97≤c.toNat∧c.toNat≤122)||decide (48≤c.toNat∧c.toNat≤57)||decide (c.toNat=47)||decide (c.toNat=46)||decide (c.toNat=95)||decide (c.toNat=45)
def nS(k:anT):Bool:=decide (1≤k.length)&&decide (k.length≤24)&&(List.range k.length).all λi=>vY (k.getD i 0)
def aio{n:Nat}{s:anT}(h:24<n):E4 n s=some (decide (s.length≤24)&&(List.range s.length).all λi=>vY (s.getD i 0)):=by
 unfold E4;by_cases ab:s.length≤24
 ·simp only [fq,show¬ 24<s.length by omega,anD,anF,ab,anC,Bool.true_and]
  rw [Xx (L:=xj n s) (len:=s.length) (chk:=λi=>vY (s.getD i 0)) (no:=false) (yes:=true) (by omega)]
  ·cases (List.range s.length).all λi=>vY (s.getD i 0)<;>rfl
  ·intro m i hi;simp only [xj,E3,LA,anL,hi,anC,anE,b4 hi,aX,ak,anK,bD (show i≤4611686018427387904 by omega),ta,lU,fU,eS,fr]
   have:(((((decide (97≤(s.getD i 0).toNat)&&decide ((s.getD i 0).toNat≤122)||(decide (48≤(s.getD i 0).toNat)&&decide ((s.getD i 0).toNat≤57)))||decide ((s.getD i 0).toNat=47))||decide ((s.getD i 0).toNat=46))||decide ((s.getD i 0).toNat=95))||decide ((s.getD i 0).toNat=45))=vY (s.getD i 0):=by
    simp [vY,Bool.decide_and]
   rw [this];cases vY (s.getD i 0)<;>rfl
  ·intro m;simp only [xj,E3,LB,anP,anD,anF]
 ·simp only [fq,show 24<s.length by omega,anC,anE,ab,anD,Bool.false_and]
def IM{n:Nat}{k:anT}(h:24<n):uP n k=some (nS k):=by
 unfold uP nS;rw [aio h];cases k with
 |nil=>rfl
 |cons c l=>simp [ak]
open Go Go.Ab Go.Proofs
def Xy(n:Nat)(s:anT):∀m,A5 n s m=xz n s m
 | 0=>rfl
 |m+1=>by
  show LE n s (A5 n s m)=_
  rw [Xy n s m];rfl
def Xz{n:Nat}{s:anT}(h:s.length<n)(hs:s.length≤4611686018427387904):A6 n s=some (j' s):=by
 unfold A6;rw [Xy];exact VQ h hs
def lw(v:bq):Bool:=if v.Kind=0 then decide (v.N=0)&&decide (v.S=[])else if v.Kind=1 then decide (v.S=[])else decide (v.Kind=2)&&decide (v.N=0)&&j' v.S
def IN{n:Nat}{v:bq}(h:v.S.length<n)(hs:v.S.length≤4611686018427387904):rr n v=some (lw v):=by
 unfold rr lw;by_cases h0:v.Kind=0
 ·simp [h0]
 ·by_cases Z:v.Kind=1
  ·simp [Z]
  ·by_cases aa:v.Kind=2
   ·by_cases ai:v.N=0
    ·simp [aa,ai,Xz h hs]
    ·simp [aa,ai]
   ·simp [h0,Z,aa]
def cx(v:bq):anT:=if v.Kind=1 then eM 1++l1 v.N else if v.Kind=2 then eM 2++fL v.S else eM 0
def PQ{n:Nat}{v:bq}(hn:10≤n)(aQ:eJ v.N)(hs:v.S.length≤4611686018427387904):uQ n v=some (cx v):=by
 have Z:=qG aQ;have aa:=IL hs;have gZ:=mt (u:=1) (by omega)
 have jy:=mt (u:=2) (by omega)
 have bN:hA n 0=some (eM 0):=tr (u:=0) hn (by omega)
 have e1:hA n 1=some (eM 1):=tr (u:=1) hn (by omega)
 have e2:hA n 2=some (eM 2):=tr (u:=2) hn (by omega)
 unfold uQ cx;by_cases cP:v.Kind=1
 ·simp (disch:=omega) only [cP,decide_true,cond_true,e1,ak,vX hn aQ,lZ,aX,if_true]
 ·by_cases aq:v.Kind=2
  ·simp (disch:=omega) only [aq,show¬ (2:Int)=1 by omega,decide_true,decide_false,cond_true,cond_false,e2,ak,tu hn hs,lZ,aX,if_true,if_false]
  ·simp only [cP,aq,anD,anF,bN,ak,anS]
def XA{v:bq}(aQ:eJ v.N)(hs:v.S.length≤4611686018427387904):(cx v).length≤v.S.length+20:=by
 have Z:=qG aQ;have aa:=IL hs;have l0:=mt (u:=0) (by omega)
 have gZ:=mt (u:=1) (by omega)
 have jy:=mt (u:=2) (by omega)
 unfold cx;split
 ·simp;omega
 ·split
  ·simp;omega
  ·omega
open Go Go.Ab Go.Proofs
open Go Go.Ab Go.Proofs
def kz:List Token→Nat
 |[]=>0
 |t::l=>(spell t).length+kz l
def XB:∀l m:List Token,kz (l++m)=kz l+kz m
 |[],m=>by simp [kz]
 |t::l,m=>by simp only [List.cons_append,kz,XB l m];omega
def bM(l:List Token)(i:Nat):Nat:=kz (l.take i)
def ii{α β:Type}(Q:α→β→Prop)(p:Option (ax α β)):Prop:=∀a z,p=some (.ret a z)→Q a z
def ii.ret{α β:Type}{Q:α→β→Prop}{a:α}{z:β}(h:Q a z):ii Q (some (.ret a z)):=λdD Db e=>by cases e;exact h
def ii.a8{α β:Type}{Q:α→β→Prop}{x:V}{z:β}:ii Q (some (.a8 x z)):=λdD Db e=>by cases e
def ii.none{α β:Type}{Q:α→β→Prop}:ii Q none:=λdD Db e=>by cases e
def ii.bind{α β dm gS:Type}{Q:α→β→Prop}{R:dm→gS→Prop}{p:Option (ax α β)}{f:α→β→Option (ax dm gS)}{h:V→β→Option (ax dm gS)}(hp:ii Q p)(aN:∀a z,Q a z→ii R (f a z))(bf:∀x z,ii R (h x z)):
 ii R (Option.bind p λr=>ax.on r f h):=by
 match p,hp with
 |.none,_=>exact .none
 |some (.ret a z),hp=>exact aN a z (hp a z rfl)
 |some (.a8 x z),_=>exact bf x z
def ii.bif{dm gS:Type}{R:dm→gS→Prop}{c:Bool}{p q:Option (ax dm gS)}(Z:c=true→ii R p)(aa:c=false→ii R q):ii R (bif c then p else q):=by cases c;exact aa rfl;exact Z rfl
def ii.aE{dm gS:Type}{R:dm→gS→Prop}{c:Bool}{p:Option (ax dm gS)}(Z:ii R p):ii R (Go.Ab.aE c p):=by cases c;exact .none;exact Z
section
variable {l:List Token}
theorem XC(e:Expr)(k:Nat):kz (eB e k)=kz (fj e)+if ch e.Op<k then 2 else 0:=by
 unfold eB fW;split
 ·have Z:(spell (a_ [40])).length=1:=rfl;have aa:(spell (a_ [41])).length=1:=rfl;have ai:kz (fj e)=kz (cS (b5 e)):=rfl;simp only [cS,rN,kz,XB,Z,aa,ai];omega
 ·rfl
theorem aip(e:Expr){j k:Nat}(h:j≤k):kz (eB e j)≤kz (eB e k):=by
 rw [XC,XC];split<;>split<;>omega
def PR(l:List Token)(i lv:Nat)(e:Expr)(z:Int):Prop:=∃k:Nat,z=(k:Int)∧i≤k∧k≤l.length∧lY e∧bM l i+kz (eB e lv)≤bM l k
theorem PR.mono{i j lv XD:Nat}{e:Expr}{z:Int}(h:PR l j lv e z)(hi:i≤j)(hp:bM l i≤bM l j)(gh:XD≤lv):PR l i XD e z:=by
 obtain⟨k,Z,aa,ai,ay,aJ⟩:=h;have:=aip e gh
 exact⟨k,Z,by omega,ai,ay,by omega⟩
end
open Go Go.Ab Go.Proofs
section
variable {l:List Token}
end
open Go Go.Ab Go.Proofs
section
variable {l:List Token}
end
open Go Go.Ab Go.Proofs
section
variable {l:List Token}
end
open Go Go.Ab Go.Proofs
section
variable {l:List Token}
end
open Go Go.Ab Go.Proofs
abbrev d9(α:Type):=anT→Except Int (α×anT)
structure dR{α:Type}(D:d9 α)(E:α→anT)(ok:α→Prop):Prop where
 rt:∀v t,ok v→D (E v++t) = .ok (v,t)
 gb:∀x v t,D x = .ok (v,t)→x=E v++t∧ok v
 cN:∀x e,D x = .error e→e≠0
def dR.k7{α:Type}{D:d9 α}{E:α→anT}{ok:α→Prop}(h:dR D E ok){x:anT}{v:α}{t:anT}(hx:D x = .ok (v,t)):t <:+ x:=⟨E v,(h.gb x v t hx).1.symm⟩
def dv{α β:Type}(D:d9 α)(k:α→d9 β):d9 (α×β):=λx=>match D x with
 |.ok (v,t)=>match k v t with
  |.ok (w,u)=>.ok ((v,w),u)
  |.error e=>.error e
 |.error e=>.error e
def dR.dep{α β:Type}{D:d9 α}{E:α→anT}{ok:α→Prop}{k:α→d9 β}{eP:α→β→anT}{XE:α→β→Prop}(h:dR D E ok)(aa:∀a,ok a→dR (k a) (eP a) (XE a)):
 dR (dv D k) (λp=>E p.1++eP p.1 p.2) (λp=>ok p.1∧XE p.1 p.2) where
 rt:=fun⟨v,w⟩ t ⟨ai,ay⟩=>by simp only [dv,List.append_assoc,h.rt v _ ai,(aa v ai).rt w t ay]
 gb:=
  λx ⟨v,w⟩ t hx=>by
  unfold dv at hx;split at hx
  ·rename_i v0 t0 hd;obtain⟨ai,ay⟩:=h.gb _ _ _ hd;split at hx
   ·rename_i Dc nt hk;obtain⟨aJ,bE⟩:=(aa v0 ay).gb _ _ _ hk;cases hx;exact⟨by rw [ai,aJ,List.append_assoc],ay,bE⟩
   ·cases hx
  ·cases hx
 cN:=
  λx e hx=>by
  unfold dv at hx;split at hx
  ·rename_i v0 t0 hd;split at hx
   ·cases hx
   ·rename_i bN hk;cases hx;exact(aa v0 (h.gb _ _ _ hd).2).cN _ _ hk
  ·rename_i bN hd;cases hx;exact h.cN _ _ hd
def fv{α β:Type}(f:α→β)(D:d9 α):d9 β:=λx=>match D x with
 |.ok (v,t)=>.ok (f v,t)
 |.error e=>.error e
def dR.map{α β:Type}{D:d9 α}{E:α→anT}{ok:α→Prop}(h:dR D E ok)(f:α→β)(g:β→α)(zg:β→Prop)(cV:β→anT)(Z:∀b,zg b→f (g b)=b∧ok (g b)∧cV b=E (g b))(aa:∀a,ok a→g (f a)=a∧zg (f a)):
 dR (fv f D) cV zg where
 rt:=λv t an=>by
  obtain⟨ai,ay,aJ⟩:=Z v an;simp only [fv,aJ,h.rt _ t ay,ai]
 gb:=λx v t hx=>by
  unfold fv at hx;split at hx
  ·rename_i v0 t0 hd;cases hx;obtain⟨ai,ay⟩:=h.gb _ _ _ hd;obtain⟨aJ,bE⟩:=aa _ ay;obtain⟨_,_,cz⟩:=Z _ bE;exact⟨by rw [cz,aJ,ai],bE⟩
  ·cases hx
 cN:=λx e hx=>by
  unfold fv at hx;split at hx
  ·cases hx
  ·rename_i bN hd;cases hx;exact h.cN _ _ hd
def l2{α:Type}(p:α→Bool)(e:Int)(D:d9 α):d9 α:=λx=>match D x with
 |.ok (v,t)=>if p v then .ok (v,t)else .error e
 |.error f=>.error f
def dR.chk{α:Type}{D:d9 α}{E:α→anT}{ok:α→Prop}(h:dR D E ok)(p:α→Bool)(e:Int)(he:e≠0):dR (l2 p e D) E (λv=>ok v∧p v=true) where
 rt:=λv t ⟨Z,aa⟩=>by simp only [l2,h.rt v t Z,aa,anR]
 gb:=
  λx v t hx=>by
  unfold l2 at hx;split at hx
  ·rename_i v0 t0 hd;split at hx
   ·rename_i hp;cases hx;exact⟨(h.gb _ _ _ hd).1,(h.gb _ _ _ hd).2,hp⟩
   ·cases hx
  ·cases hx
 cN:=λx f hx=>by
  unfold l2 at hx;split at hx
  ·split at hx
   ·cases hx
   ·cases hx;exact he
  ·rename_i bN hd;cases hx;exact h.cN _ _ hd
def ia{α:Type}(E:α→anT)(l:List α):anT:=(l.map E).flatten
def zh{α:Type}(E:α→anT)(v:α)(l:List α):ia E (v::l)=E v++ia E l:=rfl
def aiq{α:Type}(E:α→anT):ia E []=[]:=rfl
def gJ{α:Type}(D:d9 α):Nat→d9 (List α)
 | 0,x=>.ok ([],x)
 |n+1,x=>match D x with
  |.ok (v,t)=>match gJ D n t with
   |.ok (l,u)=>.ok (v::l,u)
   |.error e=>.error e
  |.error e=>.error e
def dR.rep{α:Type}{D:d9 α}{E:α→anT}{ok:α→Prop}(h:dR D E ok):∀n,dR (gJ D n) (ia E) (λl=>l.length=n∧∀v∈l,ok v)
 | 0=>{
  rt:=λv t ⟨Z,_⟩=>by
   obtain rfl:=List.eq_nil_of_length_eq_zero Z;rfl
  gb:=λx v t hx=>by cases hx;exact⟨rfl,rfl,λv an=>by cases an⟩
  cN:=λx e hx=>by cases hx}
 |n+1=>{
  rt:=λv t ⟨Z,aa⟩=>by
   cases v with
   |nil=>simp at Z
   |cons a l=>
    have ai:=h.rt a (ia E l++t) (aa a (by simp))
    have ay:=(dR.rep h n).rt l t ⟨by simpa using Z,λv an=>aa v (by simp [an])⟩
    simp only [gJ,zh,List.append_assoc,ai,ay]
  gb:=
   λx v t hx=>by
   unfold gJ at hx;split at hx
   ·rename_i v0 t0 hd;split at hx
    ·rename_i l0 nt hk;cases hx;obtain⟨ai,ay⟩:=h.gb _ _ _ hd;obtain⟨aJ,bE,cz⟩:=(dR.rep h n).gb _ _ _ hk;refine⟨by rw [ai,aJ,zh,List.append_assoc],by simp [bE],λv an=>?_⟩
     rcases List.mem_cons.1 an with rfl|an
     ·exact ay
     ·exact cz v an
    ·cases hx
   ·cases hx
  cN:=λx e hx=>by
   unfold gJ at hx;split at hx
   ·split at hx
    ·cases hx
    ·rename_i bN hk;cases hx;exact(dR.rep h n).cN _ _ hk
   ·rename_i bN hd;cases hx;exact h.cN _ _ hd}
def l3:Nat→d9 Nat
 | 0,_=>.error 5
 |_+1,[]=>.error 6
 |k+1,c::t=>if k=0∧1<c.toNat∨c.toNat=0∧k<9 then .error 5 else if c.toNat<128 then .ok (c.toNat,t)else match l3 k t with
  |.ok (u,t)=>.ok (c.toNat % 128+128*u,t)
  |.error e=>.error e
def qH:d9 Nat:=l3 10
def XF:∀(k u:Nat) (t:anT),u<2 ^ (7*k+1)→(k<9→0<u)→l3 (k+1) (eM u++t) = .ok (u,t)
 |k,u,t,h,h0=>by
  rw [eM];by_cases hu:u<128
  ·rw [if_pos hu];have e:(UInt8.ofNat u).toNat=u:=by simp only [UInt8.toNat_ofNat'];omega
   simp only [List.singleton_append,l3,e];rw [if_neg,if_pos hu];intro bf;rcases bf with⟨rfl,aa⟩|⟨Z,aa⟩
   ·simp at h;omega
   ·have:=h0 aa;omega
  ·rw [if_neg hu];have e:(UInt8.ofNat (u % 128+128)).toNat=u % 128+128:=by simp only [UInt8.toNat_ofNat'];omega
   cases k with
   |zero=>simp at h;omega
   |succ k=>
    have:=XF k (u / 128) t (by rw [show 7*(k+1)+1=7*k+1+7 by omega,Nat.pow_add]at h;omega) (λ_=>by omega)
    simp only [List.cons_append,l3,e]at this ⊢;rw [if_neg (by omega),if_neg (by omega),this]
    simp only
    rw [show(u % 128+128) % 128+128*(u / 128)=u by omega]
def PS:∀(k:Nat) (x:anT) (u:Nat) (t:anT),k≤9→l3 (k+1) x = .ok (u,t)→x=eM u++t∧u<2 ^ (7*k+1)∧(k<9→0<u)
 |k,[],u,t,_,h=>by simp [l3]at h
 |k,c::x,u,t,am8,h=>by
  have hc:=c.toNat_lt;unfold l3 at h;split at h
  ·cases h
  ·rename_i Z;split at h
   ·rename_i aa;cases h;rw [eM,if_pos aa];refine⟨by simp,?_,λeH=>by omega⟩
    cases k with
    |zero=>simp;omega
    |succ k=>
     rw [show 7*(k+1)+1=7*k+1+7 by omega,Nat.pow_add]
     have:=Nat.two_pow_pos (7*k+1)
     omega
   ·rename_i aa;split at h
    ·rename_i nt t0 hu;cases h;cases k with
     |zero=>simp [l3]at hu
     |succ k=>
      obtain⟨ai,ay,aJ⟩:=PS k _ _ _ (by omega) hu
      refine⟨?_,?_,λ_=>?_⟩
      ·have D8:0<nt:=by
        by_cases eH:k<9
        ·exact aJ eH
        ·omega
       rw [eM,if_neg (by omega),ai]
       rw [show(c.toNat % 128+128*nt) / 128=nt by omega,show(c.toNat % 128+128*nt) % 128+128=c.toNat by omega]
       simp
      ·rw [show 7*(k+1)+1=7*k+1+7 by omega,Nat.pow_add]
       generalize 2 ^ (7*k+1)=P at ay ⊢
       omega
      ·by_cases eH:k<9
       ·have:=aJ eH;omega
       ·omega
    ·cases h
def XG:∀(k:Nat) (x:anT) (e:Int),l3 k x = .error e→e=5∨e=6
 | 0,x,e,h=>by cases h;simp
 |k+1,[],e,h=>by cases h;simp
 |k+1,c::x,e,h=>by
  unfold l3 at h;split at h
  ·cases h;simp
  ·split at h
   ·cases h
   ·split at h
    ·cases h
    ·rename_i bN hu;cases h;exact XG k _ _ hu
def qI:dR qH eM (λu=>u<18446744073709551616) where
 rt:=λu t h=>XF 9 u t h (by omega)
 gb:=λx u t h=>⟨(PS 9 x u t (by omega) h).1,(PS 9 x u t (by omega) h).2.1⟩
 cN:=λx e h=>by have:=XG 10 x e h;omega
def hM:d9 Int:=fv (λu:Nat=>(u:Int)) qH
def hq(z:Int):Prop:=0≤z∧z<18446744073709551616
def iO(z:Int):anT:=eM z.toNat
def l4:dR hM iO hq:=
 qI.map _ Int.toNat hq iO (λb h=>by unfold hq at h;exact⟨by omega,by omega,rfl⟩) (λa h=>⟨by omega,by unfold hq;omega⟩)
def zi(u:Nat):Int:=if u % 2=1 then -((u / 2:Nat):Int)-1 else((u / 2:Nat):Int)
def ib:d9 Int:=fv zi qH
def kb:dR ib l1 eJ:=
 qI.map _ fold eJ l1 (λb h=>⟨by unfold eJ at h;unfold fold zi;split<;>(split<;>omega),PP h,rfl⟩)
  (λa h=>⟨by unfold fold zi;split<;>(split<;>omega),by unfold eJ zi;split<;>omega⟩)
def iC(bu:Nat):d9 Nat:=λx=>match qH x with
 |.ok (u,t)=>if bu<u then .error 2 else if t.length<u then .error 6 else .ok (u,t)
 |.error e=>.error e
def oF{bu:Nat}{x t:anT}{u:Nat}(h:iC bu x = .ok (u,t)):x=eM u++t∧u≤bu∧u≤t.length:=by
 unfold iC at h;split at h
 ·rename_i nt t0 hd;split at h
  ·cases h
  ·split at h
   ·cases h
   ·cases h;exact⟨(qI.gb _ _ _ hd).1,by omega,by omega⟩
 ·cases h
def nT{bu:Nat}{x:anT}{e:Int}(h:iC bu x = .error e):e≠0:=by
 unfold iC at h;split at h
 ·split at h
  ·cases h;omega
  ·split at h
   ·cases h;omega
   ·cases h
 ·rename_i bN hd;cases h;exact qI.cN _ _ hd
def XH{bu u:Nat}{t:anT}(h:u≤bu)(Z:bu<18446744073709551616)(aa:u≤t.length):iC bu (eM u++t) = .ok (u,t):=by
 unfold iC;rw [qI.rt u t (by omega)]
 simp only
 rw [if_neg (by omega),if_neg (by omega)]
def iP{α:Type}(bu:Nat)(D:d9 α):d9 (List α):=λx=>match iC bu x with
 |.ok (u,t)=>gJ D u t
 |.error e=>.error e
def dC{α:Type}(E:α→anT)(l:List α):anT:=eM l.length++ia E l
def IP{α:Type}{E:α→anT}:∀{l:List α},(∀v∈l,E v≠[])→l.length≤(ia E l).length
 |[],_=>by simp
 |v::l,h=>by
  have Z:(E v).length≠0:=by simpa using h v (by simp)
  have aa:=IP (E:=E) (l:=l) λw hw=>h w (by simp [hw])
  simp only [zh,anM,anI];omega
def dR.tv{α:Type}{D:d9 α}{E:α→anT}{ok:α→Prop}(h:dR D E ok)(bu:Nat)(hm:bu<18446744073709551616)(cW:∀v,ok v→E v≠[]):dR (iP bu D) (dC E) (λl=>l.length≤bu∧∀v∈l,ok v) where
 rt:=λl t ⟨Z,aa⟩=>by
  have ai:=IP (E:=E) (l:=l) λv an=>cW v (aa v an)
  unfold iP dC;rw [List.append_assoc,XH Z hm (by simp;omega)]
  exact(h.rep l.length).rt l t ⟨rfl,aa⟩
 gb:=λx l t hx=>by
  unfold iP at hx;split at hx
  ·rename_i nt t0 hd;obtain⟨Z,aa,ai⟩:=oF hd;obtain⟨ay,aJ,bE⟩:=(h.rep nt).gb _ _ _ hx;subst aJ;exact⟨by rw [Z,ay,dC,List.append_assoc],aa,bE⟩
  ·cases hx
 cN:=λx e hx=>by
  unfold iP at hx;split at hx
  ·exact(h.rep _).cN _ _ hx
  ·rename_i bN hd;cases hx;exact nT hd
def fD(bu:Nat):d9 anT:=λx=>match iC bu x with
 |.ok (u,t)=>.ok (t.take u,t.drop u)
 |.error e=>.error e
def zj(bu:Nat)(hm:bu<18446744073709551616):dR (fD bu) fL (λs=>s.length≤bu) where
 rt:=λs t h=>by
  unfold fD fL;rw [List.append_assoc,XH h hm (by simp)]
  simp
 gb:=λx s t hx=>by
  unfold fD at hx;split at hx
  ·rename_i nt t0 hd;obtain⟨Z,aa,ai⟩:=oF hd;cases hx;have:(t0.take nt).length=nt:=by simp;omega
   unfold fL;rw [this];exact⟨by rw [List.append_assoc,List.take_append_drop,Z],by omega⟩
  ·cases hx
 cN:=λx e hx=>by
  unfold fD at hx;split at hx
  ·cases hx
  ·rename_i bN hd;cases hx;exact nT hd
def qJ:d9 Bool
 |[]=>.error 6
 |c::t=>if 1<c.toNat then .error 5 else .ok (decide (c.toNat=1),t)
def vZ(b:Bool):anT:=if b then[1] else[0]
def PT:dR qJ vZ (λ_=>True) where
 rt:=λb t _=>by cases b<;>rfl
 gb:=
  λx b t hx=>by
  cases x with
  |nil=>cases hx
  |cons c x=>
   simp only [qJ]at hx;by_cases Z:1<c.toNat
   ·rw [if_pos Z]at hx;cases hx
   ·rw [if_neg Z]at hx;cases hx;refine⟨?_,trivial⟩
    unfold vZ;by_cases aa:c.toNat=1
    ·rw [decide_eq_true aa];have:c=1:=UInt8.toNat_inj.1 (by simpa using aa)
     rw [this];rfl
    ·rw [decide_eq_false aa];have:c=0:=UInt8.toNat_inj.1 (by simp;omega)
     rw [this];rfl
 cN:=λx e hx=>by
  cases x with
  |nil=>cases hx;omega
  |cons c x=>
   simp only [qJ]at hx;by_cases Z:1<c.toNat
   ·rw [if_pos Z]at hx;cases hx;omega
   ·rw [if_neg Z]at hx;cases hx
def pG(u:Nat):eM u≠[]:=by rw [eM];split<;>simp
open Go Go.Ab Go.Proofs
def PU{α:Type}(v:α):d9 α:=λx=>.ok (v,x)
def XI{α:Type}(v:α):dR (PU v) (λ_=>[]) (λw=>w=v) where
 rt:=λw t h=>by subst h;rfl
 gb:=λx w t h=>by cases h;exact⟨rfl,rfl⟩
 cN:=λx e h=>by cases h
def dR.as{α:Type}{D:d9 α}{E:α→anT}{ok:α→Prop}(h:dR D E ok)(cV:α→anT)(zg:α→Prop)(Z:∀v,zg v↔ok v)(aa:∀v,ok v→cV v=E v):dR D cV zg where
 rt:=λv t an=>by rw [aa v ((Z v).1 an)];exact h.rt v t ((Z v).1 an)
 gb:=λx v t hx=>by
  obtain⟨ai,ay⟩:=h.gb x v t hx;exact⟨by rw [aa v ay];exact ai,(Z v).2 ay⟩
 cN:=h.cN
def na(lo hi:Int):d9 Int:=l2 (λz=>decide (lo≤z)&&decide (z≤hi)) 5 hM
def PV{lo hi:Int}(h0:0≤lo)(Z:hi<18446744073709551616):dR (na lo hi) iO (λz=>lo≤z∧z≤hi):=
 (l4.chk _ 5 (by omega)).as _ _ (λv=>by simp only [Bool.and_eq_true,decide_eq_true_eq,hq];omega) (λ_ _=>rfl)
def zk(k:Int):d9 bq:=if k=0 then PU ⟨0,0,[]⟩else if k=1 then fv (λn=>⟨1,n,[]⟩) ib else if k=2 then l2 (λv=>j' v.S) 5 (fv (λs=>⟨2,0,s⟩) (fD 64))else λ_=>.error 5
def l5:d9 bq:=fv Prod.snd (dv hM zk)
def pH(v:bq):Prop:=lw v=true∧eJ v.N
def XJ{s:anT}(h:j' s=true):s.length≤64:=by
 unfold j' at h;simp only [Bool.and_eq_true,decide_eq_true_eq]at h;exact h.2
def v7{v:bq}(h:lw v=true):v=⟨0,0,[]⟩∨(v.Kind=1∧v.S=[])∨(v.Kind=2∧v.N=0∧j' v.S=true):=by
 obtain⟨k,n,s⟩:=v;unfold lw at h;simp only at h ⊢
 split at h
 ·rename_i h0;simp only [Bool.and_eq_true,decide_eq_true_eq]at h;obtain⟨rfl,rfl⟩:=h;exact .inl (by rw [h0])
 ·split at h
  ·rename_i Z;exact .inr (.inl ⟨Z,by simpa using h⟩)
  ·simp only [Bool.and_eq_true,decide_eq_true_eq]at h;exact .inr (.inr ⟨h.1.1,h.1.2,h.2⟩)
def rU:dR l5 cx pH:=by
 have ei:∀k,hq k→dR (zk k) (λv=>if k=1 then l1 v.N else if k=2 then fL v.S else[]) (λv=>pH v∧v.Kind=k):=by
  intro k hk;unfold zk;by_cases h0:k=0
  ·subst h0;rw [if_pos rfl];refine(XI _).as _ _ (λv=>⟨fun⟨⟨Z,aa⟩,ai⟩=>?_,λh=>?_⟩) (λv _=>?_)
   ·rcases v7 Z with h|h|h
    ·exact h
    ·exact absurd (h.1.symm.trans ai) (by omega)
    ·exact absurd (h.1.symm.trans ai) (by omega)
   ·subst h;exact⟨⟨rfl,by unfold eJ;simp⟩,rfl⟩
   ·simp
  ·rw [if_neg h0];by_cases Z:k=1
   ·subst Z;rw [if_pos rfl];refine kb.map _ (λv=>v.N) _ _ (λv ⟨⟨aa,ai⟩,ay⟩=>⟨?_,ai,by simp⟩) (λn hn=>⟨rfl,⟨⟨by simp [lw],hn⟩,rfl⟩⟩)
    rcases v7 aa with h|h|h
    ·rw [h]at ay;exact absurd ay (by simp)
    ·obtain⟨a,b,c⟩:=v;simp only at h ay ⊢;rw [ay,h.2]
    ·exact absurd (h.1.symm.trans ay) (by omega)
   ·rw [if_neg Z];by_cases aa:k=2
    ·subst aa;rw [if_pos rfl];refine(((zj 64 (by omega)).map (λs=>(⟨2,0,s⟩:bq)) (λv=>v.S) (λv=>v.Kind=2∧v.N=0∧v.S.length≤64) (λv=>fL v.S) (λv ⟨ai,ay,aJ⟩=>⟨?_,aJ,rfl⟩) (λs hs=>⟨rfl,rfl,rfl,hs⟩)).chk _ 5 (by omega)).as _ _ (λv=>⟨fun⟨⟨ai,ay⟩,aJ⟩=>?_,fun⟨⟨ai,ay,aJ⟩,bE⟩=>?_⟩) (λv _=>by simp)
     ·obtain⟨a,b,c⟩:=v;simp only at ai ay ⊢;rw [ai,ay]
     ·rcases v7 ai with h|h|h
      ·rw [h]at aJ;exact absurd aJ (by simp)
      ·exact absurd (h.1.symm.trans aJ) (by omega)
      ·exact⟨⟨h.1,h.2.1,XJ h.2.2⟩,h.2.2⟩
     ·refine⟨⟨?_,by rw [ay];unfold eJ;omega⟩,ai⟩
      unfold lw;rw [ai,ay];simp [bE]
    ·rw [if_neg aa]
     exact {
      rt:=λv t ⟨⟨ai,ay⟩,aJ⟩=>by
       exfalso
       rcases v7 ai with h|h|h
       ·rw [h]at aJ;exact h0 aJ.symm
       ·exact Z (aJ.symm.trans h.1)
       ·exact aa (aJ.symm.trans h.1)
      gb:=λx v t h=>by cases h
      cN:=λx e h=>by cases h;omega}
 refine(l4.dep ei).map Prod.snd (λv=>(v.Kind,v)) pH cx (λv an=>⟨rfl,⟨?_,an,rfl⟩,?_⟩) (fun⟨k,v⟩ ⟨Z,aa,ai⟩=>⟨congrArg (·,v) ai,aa⟩)
 ·rcases v7 an.1 with h|h|h
  ·rw [h];unfold hq;simp
  ·unfold hq;rw [h.1];omega
  ·unfold hq;rw [h.1];omega
 ·unfold cx iO;rcases v7 an.1 with h|h|h
  ·rw [h];simp
  ·simp only [h.1];rfl
  ·simp only [h.1];rfl
def air(v:bq):cx v≠[]:=by
 unfold cx;split
 ·simp [pG]
 ·split
  ·simp [pG]
  ·exact pG _
open Go Go.Ab Go.Proofs
def res{α:Type}(z:α)(s:anT):Except Int (α×anT)→α×Int×Int
 |.ok (v,t)=>(v,((s.length-t.length:Nat):Int),0)
 |.error e=>(z,0,e)
def bg(s t:anT):Int:=((s.length-t.length:Nat):Int)
def Dd(p t:anT):bg (p++t) t=(p.length:Int):=by unfold bg;simp
def ais(s:anT):bg s s=0:=by unfold bg;simp
def gA{α:Type}{z:α}{s t:anT}{v:α}:res z s (.ok (v,t))=(v,bg s t,0):=rfl
def fh{α:Type}{z:α}{s:anT}{e:Int}:res z s (.error e)=(z,0,e):=rfl
def PW{α β:Type}{Db:β}{s:anT}{f:α→β}{D:d9 α}{t:anT}:res Db s (fv f D t)=match D t with|.ok (v,t)=>(f v,bg s t,0)|.error e=>(Db,0,e):=by
 unfold fv;cases D t<;>rfl
def XK(p x:anT)(i:Nat):(p++x).getD (p.length+i) 0=x.getD i 0:=by
 simp [List.getD_eq_getElem?_getD,List.getElem?_append_right]
def ait:∀x:Nat,x<256→oQ .u8 (x:Int) 127=((x % 128:Nat):Int):=by decide +kernel
def aiu{a b i:Nat}(h:a<2 ^ i)(hb:a+2 ^ i*b<18446744073709551616):pQ .u64 (a:Int) ((2 ^ i*b:Nat):Int)=((a+2 ^ i*b:Nat):Int):=by
 unfold pQ
 have e:((BitVec.ofInt (IntKind.bits .u64) (a:Int) |||BitVec.ofInt (IntKind.bits .u64) ((2 ^ i*b:Nat):Int)).toNat)=a+2 ^ i*b:=by
  rw [BitVec.toNat_or,BitVec.toNat_ofInt,BitVec.toNat_ofInt];simp only [IntKind.bits];rw [show(((a:Int) % ((2 ^ 64:Nat):Int)).toNat)=a by omega,show((((2 ^ i*b:Nat):Int) % ((2 ^ 64:Nat):Int)).toNat)=2 ^ i*b by omega]
  rw [Nat.or_comm,←Nat.two_pow_add_eq_or_of_lt h,Nat.add_comm]
 rw [e,rT hb]
def aiv{c i:Nat}(hi:i≤63)(h:2 ^ i*c<18446744073709551616):n0 .u64 (c:Int) (i:Int)=((2 ^ i*c:Nat):Int):=by
 unfold n0
 (simp only [anK];rw [show min i (IntKind.bits .u64)=i by simp only [IntKind.bits];omega,show(c:Int)*2 ^ i=((2 ^ i*c:Nat):Int)by rw [Nat.mul_comm];norm_cast,rT h])
def aiw{i c:Nat}(hi:i≤9)(hc:c<128)(eH:i=9→c≤1):2 ^ (7*i)*c<18446744073709551616∧∀a,a<2 ^ (7*i)→a+2 ^ (7*i)*c<18446744073709551616:=by
 have h:i=0∨i=1∨i=2∨i=3∨i=4∨i=5∨i=6∨i=7∨i=8∨i=9:=by omega
 rcases h with h|h|h|h|h|h|h|h|h|h<;>subst h<;>simp only [Nat.reduceMul,Nat.reducePow]<;>(try have:=eH rfl)<;>exact⟨by omega,λa ha=>by omega⟩
def zl{i:Nat}(h:i≤9223372036854775807):anV (i:Int)=(i:Int):=by rw [wr]<;>omega
def aix(n a:Nat):∀(k m i:Nat) (x pre:anT) (acc:Nat),i+k=10→pre.length=a+i→acc<2 ^ (7*i)→k<m→(pre++x).length≤4611686018427387904→
 BG n (pre++x) (a:Int) m (i:Int) (acc:Int)=some (match l3 k x with|.ok (u,t)=>(((acc+2 ^ (7*i)*u:Nat):Int),bg (pre++x) t,0)|.error e=>(0,0,e)):=by
 intro k;induction k with
 |zero=>
  intro m i x pre acc hi hp ha hm ab;obtain⟨m,rfl⟩:∃j,m=j+1:=⟨m-1,by omega⟩
  obtain rfl:i=10:=by omega
  rfl
 |succ k aG=>
  intro m i x pre acc hi hp ha hm ab;obtain⟨m,rfl⟩:∃j,m=j+1:=⟨m-1,by omega⟩
  have am9:(pre++x).length=pre.length+x.length:=List.length_append;have e1:anV ((a:Int)+(i:Int))=((pre.length:Nat):Int):=by rw [wr]<;>omega
  have aiy:i≤9:=by omega
  simp only [BG,MT,e1];rw [show(decide ((i:Int)<10))=true from decide_eq_true (by omega)]
  simp only [anE];cases x with
  |nil=>
   simp only [List.append_nil,Int.le_refl,anC,anE,l3]
  |cons c x=>
   have hlen:(pre++c::x).length=pre.length+(x.length+1):=by simp
   have hg:(pre++c::x).getD pre.length 0=c:=by
    have:=XK pre (c::x) 0
    simpa using this
   have hc:=c.toNat_lt;rw [show(decide ((((pre++c::x).length:Nat):Int)≤((pre.length:Nat):Int)))=false from decide_eq_false (by omega)]
   simp only [anF,b4 (show pre.length<(pre++c::x).length by omega),aX,anK,hg]
   have e2:anV (7*(i:Int))=((7*i:Nat):Int):=by rw [wr]<;>omega
   have e3:anV (((pre.length:Nat):Int)+1)=((pre.length+1:Nat):Int):=bD (by omega)
   have o2:anV ((i:Int)+1)=((i+1:Nat):Int):=bD (by omega)
   have Am:bg (pre++c::x) x=((pre.length+1:Nat):Int):=by
    have:=Dd (pre++[c]) x
    simpa using this
   unfold l3;by_cases XL:k=0∧1<c.toNat∨c.toNat=0∧k<9
   ·rw [if_pos XL,show(bif (bif (decide ((i:Int)=9)) then(decide (1<((c.toNat:Nat):Int)))else false)then true else(bif (decide (((c.toNat:Nat):Int)=0)) then(decide (0<(i:Int)))else false))=true by
     rw [eS,fr,fr,←Bool.decide_and,←Bool.decide_and,←Bool.decide_or];exact decide_eq_true (by omega)]
    rfl
   ·rw [if_neg XL,show(bif (bif (decide ((i:Int)=9)) then(decide (1<((c.toNat:Nat):Int)))else false)then true else(bif (decide (((c.toNat:Nat):Int)=0)) then(decide (0<(i:Int)))else false))=false by
     rw [eS,fr,fr,←Bool.decide_and,←Bool.decide_and,←Bool.decide_or];exact decide_eq_false (by omega)]
    have hb:=aiw (c:=c.toNat % 128) aiy (by omega) (by omega)
    have aiz:pQ .u64 (acc:Int) (n0 .u64 (IntKind.u64.wrap (oQ .u8 ((c.toNat:Nat):Int) 127)) (anV (7*(i:Int))))=((acc+2 ^ (7*i)*(c.toNat % 128):Nat):Int):=by
     rw [ait _ hc,rT (by omega),e2,aiv (by omega) hb.1,aiu ha (hb.2 acc ha)]
    simp only [anF,aiz,e3,o2];rw [e2,show ni ((7*i:Nat):Int)=true by simp only [ni,decide_eq_true_eq];omega,aX]
    by_cases hs:c.toNat<128
    ·rw [if_pos hs,show(decide (((c.toNat:Nat):Int)<128))=true from decide_eq_true (by omega)]
     simp only [anE,Am,Nat.mod_eq_of_lt hs]
    ·rw [if_neg hs,show(decide (((c.toNat:Nat):Int)<128))=false from decide_eq_false (by omega)]
     have w1:2 ^ (7*(i+1))=2 ^ (7*i)*128:=by rw [show 7*(i+1)=7*i+7 by omega,Nat.pow_add]
     have ov:=aG m (i+1) x (pre++[c]) (acc+2 ^ (7*i)*(c.toNat % 128)) (by omega) (by simp;omega) (by
      rw [w1];have Z:2 ^ (7*i)*(c.toNat % 128)≤2 ^ (7*i)*127:=Nat.mul_le_mul_left _ (by omega)
      omega) (by omega) (by simp at ab ⊢;omega)
     rw [show pre++[c]++x=pre++c::x by simp]at ov
     simp only [anF];rw [ov]
     congr 1
     cases l3 k x with
     |error e=>rfl
     |ok r=>
      obtain⟨u,t⟩:=r;simp only
      rw [w1,Nat.mul_add,Nat.mul_assoc,Nat.add_assoc]
def XM{n:Nat}{s t:anT}(h:t <:+ s):BF n s (bg s t)=some false:=by
 unfold BF bg;have:=h.length_le
 rw [decide_eq_false (by omega),decide_eq_false (by omega)];rfl
def zm{n:Nat}{s t:anT}(aC:t <:+ s)(hs:s.length≤4611686018427387904)(hn:12≤n):ry n s (bg s t)=some (res 0 s (hM t)):=by
 unfold ry;rw [XM (n:=n) aC];obtain⟨pre,rfl⟩:=aC;rw [Dd,ak,anF];refine(aix n pre.length 10 n 0 t pre 0 (by omega) (by omega) (by simp) (by omega) hs).trans (congrArg some ?_)
 unfold hM qH;rw [PW];cases l3 10 t with
 |error e=>rfl
 |ok r=>obtain⟨u,bC⟩:=r;simp
open Go Go.Ab Go.Proofs
def gl{e:Int}(h:e≠0):(!decide (e=0))=true:=by simp [h]
def XN{t bC:anT}{u:Nat}(h:qH t = .ok (u,bC)):hM t = .ok ((u:Int),bC):=by simp only [hM,fv,h]
def XO{t:anT}{e:Int}(h:qH t = .error e):hM t = .error e:=by simp only [hM,fv,h]
def aiA{u:Nat}(h:u<18446744073709551616):oQ .u64 (u:Int) 1=((u % 2:Nat):Int):=by
 unfold oQ
 have e:((BitVec.ofInt (IntKind.bits .u64) (u:Int) &&& BitVec.ofInt (IntKind.bits .u64) 1).toNat)=u % 2:=by
  rw [BitVec.toNat_and,BitVec.toNat_ofInt,BitVec.toNat_ofInt];simp only [IntKind.bits];rw [show(((u:Int) % ((2 ^ 64:Nat):Int)).toNat)=u by omega,show(((1:Int) % ((2 ^ 64:Nat):Int)).toNat)=1 by decide,Nat.and_one_is_mod]
 rw [e,rT (by omega)]
def aiB{u:Nat}:mw .u64 (u:Int) 1=((u / 2:Nat):Int):=by
 unfold mw;rw [show min (1:Int).toNat (IntKind.bits .u64)=1 by decide,Int.fdiv_eq_ediv_of_nonneg _ (by omega)]
 omega
def aiC{a:Nat}(h:a<9223372036854775808):l7 .i64 (a:Int) 0=(a:Int):=by
 unfold l7;rw [show BitVec.ofInt (IntKind.bits .i64) 0=0#_ from rfl,BitVec.xor_zero]
 rw [show((BitVec.ofInt (IntKind.bits .i64) (a:Int)).toNat:Int)=(a:Int) by
  rw [BitVec.toNat_ofInt];simp only [IntKind.bits];omega]
 exact zl (by omega)
def aiD{a:Nat}(h:a<9223372036854775808):l7 .i64 (a:Int) (-1) = -(a:Int)-1:=by
 unfold l7;rw [show BitVec.ofInt (IntKind.bits .i64) (-1)=BitVec.allOnes _ by decide,BitVec.xor_allOnes]
 rw [show((~~~ BitVec.ofInt (IntKind.bits .i64) (a:Int)).toNat:Int)=((18446744073709551615-a:Nat):Int) by
  rw [BitVec.toNat_not,BitVec.toNat_ofInt];simp only [IntKind.bits];omega]
 (try unfold anV);rw [IntKind.wrap_i64];omega
def aiE{u:Nat}(h:u<18446744073709551616):l7 .i64 (anV (mw .u64 (u:Int) 1)) (anV (0-(anV (oQ .u64 (u:Int) 1))))=zi u:=by
 rw [aiB,aiA h,zl (i:=u / 2) (by omega),zl (i:=u % 2) (by omega)]
 unfold zi;by_cases aa:u % 2=1
 ·rw [if_pos aa,aa,show anV (0-((1:Nat):Int)) = -1 by decide,aiD (by omega)]
 ·rw [if_neg aa,show u % 2=0 by omega,show anV (0-((0:Nat):Int))=0 by decide,aiC (by omega)]
def PX{n:Nat}{s t:anT}(aC:t <:+ s)(hs:s.length≤4611686018427387904)(hn:12≤n):xX n s (bg s t)=some (res 0 s (ib t)):=by
 unfold xX ib fv;rw [zm aC hs hn,ak];cases h:qH t with
 |error e=>
  rw [XO h,fh];simp only [gl (qI.cN _ _ h),anE,fh]
 |ok r=>
  obtain⟨u,bC⟩:=r;rw [XN h,gA];simp only [anC,anG,anF,aiE (qI.gb _ _ _ h).2,gA]
def pI(bu:Nat):d9 Int:=fv (λu:Nat=>(u:Int)) (iC bu)
def aiF{s t:anT}(aC:t <:+ s)(hs:s.length≤4611686018427387904):IntKind.u64.wrap (anV (((s.length:Nat):Int)-bg s t))=((t.length:Nat):Int):=by
 have:=aC.length_le
 unfold bg;rw [wr (by omega) (by omega),IntKind.wrap_u64];omega
def aiG{t bC:anT}{u:Nat}(h:qH t = .ok (u,bC)):bC <:+ t:=qI.k7 h
def aiH{n bu:Nat}{s t:anT}(aC:t <:+ s)(hs:s.length≤4611686018427387904)(hm:bu<9223372036854775808)(r:Int×Int×Int)(ah:r=res 0 s (hM t)):
 (bif (!decide (r.2.2=0))then some ((0:Int),(0:Int),r.2.2) else(bif (bif (decide ((bu:Int)<0))then true else(decide ((IntKind.u64.wrap (bu:Int))<r.1)))then some (0,0,2) else(bif (decide ((IntKind.u64.wrap (anV (((s.length:Nat):Int)-r.2.1)))<r.1))then some (0,0,6)else some ((anV r.1),r.2.1,0))))=some (res 0 s (pI bu t)):=by
 subst ah;unfold pI;rw [PW];unfold iC;cases h:qH t with
 |error e=>
  rw [XO h,fh];simp only [gl (qI.cN _ _ h),anE]
 |ok r=>
  obtain⟨u,bC⟩:=r;have hu:=(qI.gb _ _ _ h).2;have en:bC <:+ s:=(aiG h).trans aC;have ab:=en.length_le;rw [XN h,gA];simp only [anC,anG,anF,aiF en hs,rT (show bu<18446744073709551616 by omega),show¬ ((bu:Int)<0)by omega,anD,anL]
  by_cases Z:bu<u
  ·simp only [Z,anC,anE,anR]
  ·by_cases aa:bC.length<u
   ·simp only [Z,aa,anC,anD,anE,anF,anR,anS]
   ·simp only [Z,aa,anD,anF,anS,zl (show u≤9223372036854775807 by omega)]
def tw{n bu:Nat}{s t:anT}(aC:t <:+ s)(hs:s.length≤4611686018427387904)(hm:bu<9223372036854775808)(hn:12≤n):ph n s (bg s t) (bu:Int)=some (res 0 s (pI bu t)):=by
 unfold ph;rw [zm aC hs hn,ak];exact aiH (n:=n) aC hs hm _ rfl
def qK{bu u:Nat}{t bC:anT}(h:iC bu t = .ok (u,bC)):pI bu t = .ok ((u:Int),bC):=by simp only [pI,fv,h]
def qL{bu:Nat}{t:anT}{e:Int}(h:iC bu t = .error e):pI bu t = .error e:=by simp only [pI,fv,h]
def aiI{s t:anT}{u:Nat}(aC:t <:+ s)(hs:s.length≤4611686018427387904)(hu:u≤t.length):
 anV (bg s t+(u:Int))=bg s (t.drop u)∧lB (bg s t) (bg s (t.drop u)) s.length=true∧(s.take (bg s (t.drop u)).toNat).drop (bg s t).toNat=t.take u:=by
 have ab:=aC.length_le;have e:bg s (t.drop u)=bg s t+(u:Int):=by unfold bg;simp;omega
 refine⟨?_,?_,?_⟩
 ·rw [e];unfold bg;rw [wr]<;>omega
 ·rw [e];unfold bg lB;simp;omega
 ·rw [e];obtain⟨pre,rfl⟩:=aC
  (rw [Dd,show(((pre.length:Nat):Int)+(u:Int)).toNat=pre.length+u by omega];simp only [anK];rw [List.drop_take])
  simp
def De{n bu:Nat}{s t:anT}(aC:t <:+ s)(hs:s.length≤4611686018427387904)(hm:bu<9223372036854775808)(hn:12≤n):sN n s (bg s t) (bu:Int)=some (res [] s (fD bu t)):=by
 unfold sN fD;rw [tw aC hs hm hn,ak];cases h:iC bu t with
 |error e=>
  rw [qL h,fh];simp only [gl (nT h),anE,fh]
 |ok r=>
  obtain⟨u,bC⟩:=r;obtain⟨Z,aa,ai⟩:=oF h;have en:bC <:+ s:=List.IsSuffix.trans ⟨eM u,Z.symm⟩ aC;obtain⟨g1,g2,g3⟩:=aiI en hs ai;rw [qK h,gA];simp only [anC,anG,anF,g1,g2,g3,aX,gA]
def aiJ{n:Nat}{s t:anT}(aC:t <:+ s)(hs:s.length≤4611686018427387904):
 (bif (decide (bg s t=((s.length:Nat):Int)))then some (false,(0:Int),(6:Int)) else(aE (a7 (bg s t) s.length)<|bif (decide (1<(((s.getD (bg s t).toNat 0).toNat:Nat):Int)))then some (false,0,5) else(aE (a7 (bg s t) s.length)<|some ((decide ((((s.getD (bg s t).toNat 0).toNat:Nat):Int)=1)),(anV (bg s t+1)),0))))=some (res false s (qJ t)):=by
 obtain⟨pre,rfl⟩:=aC;rw [Dd];cases t with
 |nil=>simp [qJ,res]
 |cons c t=>
  have hg:(pre++c::t).getD pre.length 0=c:=by
   have:=XK pre (c::t) 0
   simpa using this
  have hlen:(pre++c::t).length=pre.length+(t.length+1):=by simp
  have e3:anV (((pre.length:Nat):Int)+1)=((pre.length+1:Nat):Int):=bD (by omega)
  have Am:bg (pre++c::t) t=((pre.length+1:Nat):Int):=by
   have:=Dd (pre++[c]) t
   simpa using this
  rw [show decide (((pre.length:Nat):Int)=(((pre++c::t).length:Nat):Int))=false from decide_eq_false (by omega)]
  simp only [anF,b4 (show pre.length<(pre++c::t).length by omega),aX,anK,hg,e3,fq,fU,qJ]
  by_cases h:1<c.toNat
  ·simp only [h,anC,anE,anR,fh]
  ·simp only [h,anD,anF,anS,gA,Am]
def aiK{n:Nat}{s t:anT}(aC:t <:+ s)(hs:s.length≤4611686018427387904):Ge n s (bg s t)=some (res false s (qJ t)):=by
 unfold Ge;rw [XM aC,ak,anF];exact aiJ (n:=n) aC hs
open Go Go.Ab Go.Proofs
def aiL(t:anT):l5 t=match hM t with|.ok (k,bC)=>zk k bC|.error e=>.error e:=by
 unfold l5 fv dv;cases hM t with
 |error e=>rfl
 |ok r=>
  obtain⟨k,bC⟩:=r;simp only
  cases zk k bC with
  |error e=>rfl
  |ok r=>rfl
def iD{α:Type}{D:d9 α}{E:α→anT}{ok:α→Prop}(h:dR D E ok){s x:anT}{v:α}{t:anT}(hx:D x = .ok (v,t))(hs:x <:+ s):t <:+ s:=(h.k7 hx).trans hs
def XP:dR (fD 64) fL (λs=>s.length≤64):=zj 64 (by omega)
def nb:dR (fD 24) fL (λs=>s.length≤24):=zj 24 (by omega)
def PY{n:Nat}{s t:anT}(aC:t <:+ s)(hs:s.length≤4611686018427387904)(hn:70≤n):xY n s (bg s t)=some (res ⟨0,0,[]⟩ s (l5 t)):=by
 unfold xY;rw [zm aC hs (by omega),ak,aiL]
 cases h:hM t with
 |error e=>rw [fh];simp only [gl (l4.cN _ _ h),anE,fh]
 |ok r=>
  obtain⟨k,bC⟩:=r;have en:=iD l4 h aC;rw [gA];simp only [anC,anG,anF];unfold zk;by_cases h0:k=0
  ·subst h0;rfl
  ·by_cases Z:k=1
   ·subst Z;simp only [show¬ (1:Int)=0 by omega,anD,anF,anC,anE,anS,anR]
    rw [PX en hs (by omega),ak,PW]
    cases aa:ib bC with
    |error e=>rw [fh];simp only [gl (kb.cN _ _ aa),anE]
    |ok r=>obtain⟨x,mu⟩:=r;rw [gA];simp only [anC,anG,anF,MS,ak]
   ·by_cases aa:k=2
    ·subst aa;simp only [show¬ (2:Int)=0 by omega,show¬ (2:Int)=1 by omega,anD,anF,anC,anE,anS,anR]
     rw [show(64:Int)=((64:Nat):Int)from rfl,De en hs (by omega) (by omega),ak]
     unfold l2 fv;cases ai:fD 64 bC with
     |error e=>rw [fh];simp only [show¬ e=0 from XP.cN _ _ ai,anD,anF,ak,BH,anH,anE,fh]
     |ok r=>
      obtain⟨x,mu⟩:=r;have hx:=(XP.gb _ _ _ ai).2;rw [gA];simp only [anC,anE,Xz (show x.length<n by omega) (by omega),ak,BH]
      cases j' x<;>rfl
    ·simp only [h0,Z,aa,anD,anF,anS,fh]
def aiM{α β R:Type}{D:d9 α}{s:anT}{u:Nat}{f:Nat→α→β}{L:Nat→Nat→anT→List β→Option R}{fin:List β→anT→Option R}{bad:Int→Option R}
 (k7:∀x v t,D x = .ok (v,t)→t <:+ x)
 (step:∀m i t acc,i<u→acc.length=i→t <:+ s→L (m+1) i t acc=match D t with|.ok (v,bC)=>L m (i+1) bC (acc++[f i v])|.error e=>bad e)
 (stop:∀m t acc,acc.length=u→t <:+ s→L (m+1) u t acc=fin acc t):
 ∀k m i t acc,i+k=u→k<m→acc.length=i→t <:+ s→L m i t acc=match gJ D k t with|.ok (l,bC)=>fin (acc++(l.zipIdx i).map λp=>f p.2 p.1) bC|.error e=>bad e:=by
 intro k;induction k with
 |zero=>
  intro m i t acc hi hm ha aC;obtain⟨m,rfl⟩:∃j,m=j+1:=⟨m-1,by omega⟩
  obtain rfl:i=u:=by omega
  rw [stop m t acc ha aC];simp [gJ]
 |succ k aG=>
  intro m i t acc hi hm ha aC;obtain⟨m,rfl⟩:∃j,m=j+1:=⟨m-1,by omega⟩
  rw [step m i t acc (by omega) ha aC]
  unfold gJ;cases h:D t with
  |error e=>rfl
  |ok r=>
   obtain⟨v,bC⟩:=r;simp only
   rw [aG m (i+1) bC (acc++[f i v]) (by omega) (by omega) (by simp [ha]) ((k7 _ _ _ h).trans aC)]
   cases gJ D k bC with
   |error e=>rfl
   |ok r=>obtain⟨l,mu⟩:=r;simp
def XQ{α R:Type}{D:d9 α}{s:anT}{u:Nat}{L:Nat→Nat→anT→List α→Option R}{fin:List α→anT→Option R}{bad:Int→Option R}
 (k7:∀x v t,D x = .ok (v,t)→t <:+ x)
 (step:∀m i t acc,i<u→acc.length=i→t <:+ s→L (m+1) i t acc=match D t with|.ok (v,bC)=>L m (i+1) bC (acc++[v])|.error e=>bad e)
 (stop:∀m t acc,acc.length=u→t <:+ s→L (m+1) u t acc=fin acc t) {m:Nat} (hm:u<m) {t:anT} (aC:t <:+ s):
 L m 0 t []=match gJ D u t with|.ok (l,bC)=>fin l bC|.error e=>bad e:=by
 have:=aiM (f:=λ_ v=>v) (L:=L) k7 step stop u m 0 t [] (by omega) hm rfl aC
 rw [this];cases gJ D u t with
 |error e=>rfl
 |ok r=>
  obtain⟨l,bC⟩:=r;have e:((l.zipIdx 0).map λp:α×Nat=>p.1)=l:=by rw [List.zipIdx_map_fst]
  simp only [List.nil_append];rw [e]
def Df:∀a b:anT,(!Op.bytesLess a b)=(Op.bytesLess b a||decide (b=a))
 |[],[]=>rfl
 |[],b::y=>rfl
 |a::x,[]=>rfl
 |a::x,b::y=>by
  simp only [Op.bytesLess,Df x y,Bool.not_or,Bool.not_and];rcases Nat.lt_trichotomy a.toNat b.toNat with h|h|h
  ·have Z:a<b:=h;have aa:¬ b<a:=by show¬ b.toNat<a.toNat;omega
   have ai:a≠b:=by intro e;subst e;omega
   simp [Z,aa,Ne.symm ai]
  ·obtain rfl:a=b:=UInt8.toNat_inj.1 h;simp
  ·have Z:b<a:=h;have aa:¬ a<b:=by show¬ a.toNat<b.toNat;omega
   have ai:a≠b:=by intro e;subst e;omega
   simp [Z,aa,ai]
def XR:∀a b c:anT,Op.bytesLess a b=true→Op.bytesLess b c=true→Op.bytesLess a c=true
 |_,[],_,h,_=>by simp [Op.bytesLess]at h
 |_,b::y,[],_,h=>by simp [Op.bytesLess]at h
 |[],b::y,c::z,_,_=>rfl
 |a::x,b::y,c::z,Z,aa=>by
  simp only [Op.bytesLess,Bool.or_eq_true,Bool.and_eq_true,decide_eq_true_eq,beq_iff_eq]at Z aa ⊢;rcases Z with Z|⟨rfl,Z⟩
  ·rcases aa with aa|⟨rfl,aa⟩
   ·left;show a.toNat<c.toNat;have ai:a.toNat<b.toNat:=Z;have ay:b.toNat<c.toNat:=aa;omega
   ·exact .inl Z
  ·rcases aa with aa|⟨rfl,aa⟩
   ·exact .inl aa
   ·exact .inr ⟨rfl,XR x y z Z aa⟩
end Go.Ab.Y

/- The plain law: what the functions compute answers as the statement says. -/
import Derived.Test.YtcjbfnojhpfchaaGreatDoorPlainC
set_option linter.all false
namespace Go.Ab.Y
open Go Go.Ab Go.Proofs
def akw{α:Type}(l:List α)(h:l.length=13):∃a b c d e f g i j k m n o,l=[a,b,c,d,e,f,g,i,j,k,m,n,o]:=by
 match l,h with
 |[a,b,c,d,e,f,g,i,j,k,m,n,o],_=>exact⟨a,b,c,d,e,f,g,i,j,k,m,n,o,rfl⟩
def akx{α:Type}(l:List α)(h:l.length=7):∃a b c d e f g,l=[a,b,c,d,e,f,g]:=by
 match l,h with
 |[a,b,c,d,e,f,g],_=>exact⟨a,b,c,d,e,f,g,rfl⟩
def YL{α:Type}(l:List α)(h:l.length=3):∃a b c,l=[a,b,c]:=by
 match l,h with
 |[a,b,c],_=>exact⟨a,b,c,rfl⟩
def YM{α:Type}(l:List α)(h:l.length=2):∃a b,l=[a,b]:=by
 match l,h with
 |[a,b],_=>exact⟨a,b,rfl⟩
section
variable {H:Type} {enc:TypeId×Value→H} {W:World}
theorem Jh:Tryz.prog.cellsOf 167=13:=by kernel_rfl
theorem YN:Tryz.prog.cellsOf 109=2:=by kernel_rfl
theorem YO:Tryz.prog.cellsOf 52=3:=by kernel_rfl
theorem YP:Tryz.prog.cellsOf 50=1:=by kernel_rfl
theorem aky:Tryz.prog.cellsOf 49=1:=by kernel_rfl
theorem Ji:∀l:List Stmt,(∀i,i<l.length→qz (l.getD i default))→qA l
 |[],h=>trivial
 |x::l,h=>⟨h 0 (by simp),Ji l λi hi=>by have:=h (i+1) (by simpa using hi);simpa using this⟩
theorem akz:∀(fuel:Nat) (cs:List Value) (x:DataW H×List MemPlace),DataW.trod enc Tryz.prog W 0 (λ_=>true) true fuel 167 cs=some x→∃s:Stmt,qz s∧fP W cs (bU s).cells:=by
 intro fuel;induction fuel using Nat.strongRecOn with
 |_ fuel aG=>
  intro cs x h;obtain⟨xs,n,hn,_,ab,gB,aN⟩:=DataW.trod_struct Tryz.underlying167 h;rw [Jh]at ab;obtain⟨c0,c1,c2,c3,c4,c5,k_,kD,oO,c9,lV,zG,c12,rfl⟩:=akw cs ab;obtain⟨f5,dG,eL,ly,fF,mQ,pj,rfl⟩:=akx xs gB;have h0:DataW.trod enc Tryz.prog W 0 (λ_=>true) true n 3 (List.take (Tryz.prog.cellsOf 3) [c0,c1,c2,c3,c4,c5,k_,kD,oO,c9,lV,zG,c12])=some f5:=aN 0 _ rfl
  have Z:DataW.trod enc Tryz.prog W 0 (λ_=>true) true n 9 (List.take (Tryz.prog.cellsOf 9) [c1,c2,c3,c4,c5,k_,kD,oO,c9,lV,zG,c12])=some dG:=aN 1 _ rfl
  have aa:DataW.trod enc Tryz.prog W 0 (λ_=>true) true n 3 (List.take (Tryz.prog.cellsOf 3) [c2,c3,c4,c5,k_,kD,oO,c9,lV,zG,c12])=some eL:=aN 2 _ rfl
  have ai:DataW.trod enc Tryz.prog W 0 (λ_=>true) true n 165 (List.take (Tryz.prog.cellsOf 165) [c3,c4,c5,k_,kD,oO,c9,lV,zG,c12])=some ly:=aN 3 _ rfl
  have ay:DataW.trod enc Tryz.prog W 0 (λ_=>true) true n 165 (List.take (Tryz.prog.cellsOf 165) [kD,oO,c9,lV,zG,c12])=some fF:=aN 4 _ rfl
  have aJ:DataW.trod enc Tryz.prog W 0 (λ_=>true) true n 50 (List.take (Tryz.prog.cellsOf 50) [zG,c12])=some mQ:=aN 5 _ rfl
  have bE:DataW.trod enc Tryz.prog W 0 (λ_=>true) true n 50 (List.take (Tryz.prog.cellsOf 50) [c12])=some pj:=aN 6 _ rfl
  rw [oM]at h0 aa;rw [oN]at Z;rw [Qr]at ai ay;rw [YP]at aJ bE;obtain⟨Op,_,dk⟩:=ip (k:=.i64) Tryz.underlying3 h0;obtain⟨Nm,aQ,r1⟩:=od Tryz.underlying9 Z;obtain⟨YQ,cI,r2⟩:=ip (k:=.i64) Tryz.underlying3 aa;obtain⟨A,aI,r3⟩:=YK n _ _ ai;obtain⟨B,cR,aZ⟩:=YK n _ _ ay;obtain⟨ao,ana,Qs,cA⟩:=ll (encA:=bU) (ok:=qz) Tryz.underlying50 Jh (by omega) aJ (λm cs' fN hm hx=>aG m (by omega) cs' fN hx)
  obtain⟨Qt,anb,Qu,b8⟩:=ll (encA:=bU) (ok:=qz) Tryz.underlying50 Jh (by omega) bE (λm cs' fN hm hx=>aG m (by omega) cs' fN hx)
  refine⟨⟨Op,Nm,YQ,A,B,ao,Qt⟩,⟨cI,aQ,aI,cR,Ji ao Qs,Ji Qt Qu⟩,?_⟩
  have:=(((((dk.app r1).app r2).app (r3.EM (Lu A))).app (aZ.EM (Lu B))).app cA).app b8
  exact this.EM (Ts ⟨Op,Nm,YQ,A,B,ao,Qt⟩)
theorem akA(fuel:Nat)(cs:List Value)(x:DataW H×List MemPlace)(h:DataW.trod enc Tryz.prog W 0 (λ_=>true) true fuel 109 cs=some x):∃p:Param,p.Name.length≤9223372036854775807∧fP W cs (eD p).cells:=by
 obtain⟨xs,n,hn,_,ab,gB,aN⟩:=DataW.trod_struct Tryz.underlying109 h;rw [YN]at ab;obtain⟨c0,c1,rfl⟩:=YM cs ab;obtain⟨f5,dG,rfl⟩:=YM xs gB;have h0:DataW.trod enc Tryz.prog W 0 (λ_=>true) true n 9 (List.take (Tryz.prog.cellsOf 9) [c0,c1])=some f5:=aN 0 _ rfl
 have Z:DataW.trod enc Tryz.prog W 0 (λ_=>true) true n 3 (List.take (Tryz.prog.cellsOf 3) [c1])=some dG:=aN 1 _ rfl
 rw [oN]at h0;rw [oM]at Z;obtain⟨Nm,aQ,dk⟩:=od Tryz.underlying9 h0;obtain⟨akB,_,r1⟩:=ip (k:=.i64) Tryz.underlying3 Z;exact⟨⟨Nm,akB⟩,aQ,dk.app r1⟩
theorem akC(fuel:Nat)(cs:List Value)(x:DataW H×List MemPlace)(h:DataW.trod enc Tryz.prog W 0 (λ_=>true) true fuel 52 cs=some x):∃p:bd,qB p∧fP W cs (ee p).cells:=by
 obtain⟨xs,n,hn,_,ab,gB,aN⟩:=DataW.trod_struct Tryz.underlying52 h;rw [YO]at ab;obtain⟨c0,c1,c2,rfl⟩:=YL cs ab;obtain⟨f5,dG,eL,rfl⟩:=YL xs gB;have h0:DataW.trod enc Tryz.prog W 0 (λ_=>true) true n 9 (List.take (Tryz.prog.cellsOf 9) [c0,c1,c2])=some f5:=aN 0 _ rfl
 have Z:DataW.trod enc Tryz.prog W 0 (λ_=>true) true n 49 (List.take (Tryz.prog.cellsOf 49) [c1,c2])=some dG:=aN 1 _ rfl
 have aa:DataW.trod enc Tryz.prog W 0 (λ_=>true) true n 50 (List.take (Tryz.prog.cellsOf 50) [c2])=some eL:=aN 2 _ rfl
 rw [oN]at h0;rw [aky]at Z;rw [YP]at aa;obtain⟨Nm,aQ,dk⟩:=od Tryz.underlying9 h0;obtain⟨akD,kQ,Qs,r1⟩:=ll (encA:=eD) (ok:=λp:Param=>p.Name.length≤9223372036854775807) Tryz.underlying49 YN (by omega) Z (λm cs' fN hm hx=>akA m cs' fN hx)
 obtain⟨ao,cR,Qu,r2⟩:=ll (encA:=bU) (ok:=qz) Tryz.underlying50 Jh (by omega) aa (λm cs' fN hm hx=>akz m cs' fN hx)
 exact⟨⟨Nm,akD,ao⟩,⟨aQ,kQ,Qs,Ji ao Qu⟩,(dk.app r1).app r2⟩
end
def wu{α:Type}(l:List α)(h:l.length=2):∃a0 aT,l=[a0,aT]:=by
 match l,h with
 |[a0,aT],_=>exact⟨a0,aT,rfl⟩
def pO{α:Type}(l:List α)(h:l.length=3):∃a0 aT a2,l=[a0,aT,a2]:=by
 match l,h with
 |[a0,aT,a2],_=>exact⟨a0,aT,a2,rfl⟩
def akE{α:Type}(l:List α)(h:l.length=4):∃a0 aT a2 a3,l=[a0,aT,a2,a3]:=by
 match l,h with
 |[a0,aT,a2,a3],_=>exact⟨a0,aT,a2,a3,rfl⟩
def Qv{α:Type}(l:List α)(h:l.length=5):∃a0 aT a2 a3 a4,l=[a0,aT,a2,a3,a4]:=by
 match l,h with
 |[a0,aT,a2,a3,a4],_=>exact⟨a0,aT,a2,a3,a4,rfl⟩
def akF{α:Type}(l:List α)(h:l.length=6):∃a0 aT a2 a3 a4 a5,l=[a0,aT,a2,a3,a4,a5]:=by
 match l,h with
 |[a0,aT,a2,a3,a4,a5],_=>exact⟨a0,aT,a2,a3,a4,a5,rfl⟩
def YR{α:Type}(l:List α)(h:l.length=8):∃a0 aT a2 a3 a4 a5 pB wv,l=[a0,aT,a2,a3,a4,a5,pB,wv]:=by
 match l,h with
 |[a0,aT,a2,a3,a4,a5,pB,wv],_=>exact⟨a0,aT,a2,a3,a4,a5,pB,wv,rfl⟩
def akG{α:Type}(l:List α)(h:l.length=11):∃a0 aT a2 a3 a4 a5 pB wv Qw a9 Qx,l=[a0,aT,a2,a3,a4,a5,pB,wv,Qw,a9,Qx]:=by
 match l,h with
 |[a0,aT,a2,a3,a4,a5,pB,wv,Qw,a9,Qx],_=>exact⟨a0,aT,a2,a3,a4,a5,pB,wv,Qw,a9,Qx,rfl⟩
section
variable {H:Type} {enc:TypeId×Value→H} {W:World}
theorem YS:Tryz.prog.cellsOf 4=1:=by kernel_rfl
theorem akH:Tryz.prog.cellsOf 22=1:=by kernel_rfl
theorem YT:Tryz.prog.cellsOf 24=3:=by kernel_rfl
theorem akI:Tryz.prog.cellsOf 25=1:=by kernel_rfl
theorem akJ:Tryz.prog.cellsOf 26=1:=by kernel_rfl
theorem akK:Tryz.prog.cellsOf 27=1:=by kernel_rfl
theorem YU:Tryz.prog.cellsOf 29=2:=by kernel_rfl
theorem akL:Tryz.prog.cellsOf 30=1:=by kernel_rfl
theorem akM:Tryz.prog.cellsOf 31=1:=by kernel_rfl
theorem akN:Tryz.prog.cellsOf 32=1:=by kernel_rfl
theorem akO:Tryz.prog.cellsOf 34=11:=by kernel_rfl
theorem YV:Tryz.prog.cellsOf 54=1:=by kernel_rfl
theorem YW:Tryz.prog.cellsOf 55=1:=by kernel_rfl
theorem YX:Tryz.prog.cellsOf 57=3:=by kernel_rfl
theorem YY:Tryz.prog.cellsOf 59=8:=by kernel_rfl
theorem YZ:Tryz.prog.cellsOf 61=5:=by kernel_rfl
theorem Jj:Tryz.prog.cellsOf 63=3:=by kernel_rfl
theorem Y0:Tryz.prog.cellsOf 65=4:=by kernel_rfl
theorem akP:Tryz.prog.cellsOf 66=1:=by kernel_rfl
theorem Y1:Tryz.prog.cellsOf 68=2:=by kernel_rfl
theorem akQ:Tryz.prog.cellsOf 99=1:=by kernel_rfl
theorem Y2:Tryz.prog.cellsOf 101=3:=by kernel_rfl
theorem Y3:Tryz.prog.cellsOf 103=3:=by kernel_rfl
theorem Y4:Tryz.prog.cellsOf 105=5:=by kernel_rfl
theorem Y5:Tryz.prog.cellsOf 107=2:=by kernel_rfl
structure ww(x:bq):Prop where
 anc:eJ x.Kind
 Y6:eJ x.N
 ane:x.S.length≤9223372036854775807
theorem Qy(fuel:Nat)(cs:List Value)(x:DataW H×List MemPlace)(h:DataW.trod enc Tryz.prog W 0 (λ_=>true) true fuel 63 cs=some x):∃p:bq,ww p∧fP W cs (ed p).cells:=by
 obtain⟨xs,n,hn,_,ab,gB,aN⟩:=DataW.trod_struct Tryz.underlying63 h;rw [Jj]at ab;obtain⟨c0,c1,c2,rfl⟩:=pO cs ab;obtain⟨f5,dG,eL,rfl⟩:=pO xs gB;have h0:DataW.trod enc Tryz.prog W 0 (λ_=>true) true n 3 (List.take (Tryz.prog.cellsOf 3) [c0,c1,c2])=some f5:=aN 0 _ rfl
 rw [oM]at h0;obtain⟨v0,e4,dk⟩:=ip (k:=.i64) Tryz.underlying3 h0;have Z:DataW.trod enc Tryz.prog W 0 (λ_=>true) true n 2 (List.take (Tryz.prog.cellsOf 2) [c1,c2])=some dG:=aN 1 _ rfl
 rw [pN]at Z;obtain⟨v1,cP,r1⟩:=ip (k:=.i64) Tryz.underlying2 Z;have aa:DataW.trod enc Tryz.prog W 0 (λ_=>true) true n 9 (List.take (Tryz.prog.cellsOf 9) [c2])=some eL:=aN 2 _ rfl
 rw [oN]at aa;obtain⟨v2,aq,r2⟩:=od Tryz.underlying9 aa;exact⟨⟨v0,v1,v2⟩,⟨⟨e4.1,e4.2⟩,⟨cP.1,cP.2⟩,aq⟩,((dk.app r1).app r2)⟩
structure Qz(x:Version):Prop where
 anf:eJ x.cl
 akR:ww x.b0
theorem akS(fuel:Nat)(cs:List Value)(x:DataW H×List MemPlace)(h:DataW.trod enc Tryz.prog W 0 (λ_=>true) true fuel 65 cs=some x):∃p:Version,Qz p∧fP W cs (jl p).cells:=by
 obtain⟨xs,n,hn,_,ab,gB,aN⟩:=DataW.trod_struct Tryz.underlying65 h;rw [Y0]at ab;obtain⟨c0,c1,c2,c3,rfl⟩:=akE cs ab;obtain⟨f5,dG,rfl⟩:=wu xs gB;have h0:DataW.trod enc Tryz.prog W 0 (λ_=>true) true n 2 (List.take (Tryz.prog.cellsOf 2) [c0,c1,c2,c3])=some f5:=aN 0 _ rfl
 rw [pN]at h0;obtain⟨v0,e4,dk⟩:=ip (k:=.i64) Tryz.underlying2 h0;have Z:DataW.trod enc Tryz.prog W 0 (λ_=>true) true n 63 (List.take (Tryz.prog.cellsOf 63) [c1,c2,c3])=some dG:=aN 1 _ rfl
 rw [Jj]at Z;obtain⟨v1,cP,r1⟩:=Qy n _ _ Z;exact⟨⟨v0,v1⟩,⟨⟨e4.1,e4.2⟩,cP⟩,(dk.app r1)⟩
structure QA(x:Row):Prop where
 akT:x.Key.length≤9223372036854775807
 akU:x.bJ.length≤9223372036854775807∧∀i,i<x.bJ.length→Qz (x.bJ.getD i default)
theorem akV(fuel:Nat)(cs:List Value)(x:DataW H×List MemPlace)(h:DataW.trod enc Tryz.prog W 0 (λ_=>true) true fuel 68 cs=some x):∃p:Row,QA p∧fP W cs (c_ p).cells:=by
 obtain⟨xs,n,hn,_,ab,gB,aN⟩:=DataW.trod_struct Tryz.underlying68 h;rw [Y1]at ab;obtain⟨c0,c1,rfl⟩:=wu cs ab;obtain⟨f5,dG,rfl⟩:=wu xs gB;have h0:DataW.trod enc Tryz.prog W 0 (λ_=>true) true n 9 (List.take (Tryz.prog.cellsOf 9) [c0,c1])=some f5:=aN 0 _ rfl
 rw [oN]at h0;obtain⟨v0,e4,dk⟩:=od Tryz.underlying9 h0;have Z:DataW.trod enc Tryz.prog W 0 (λ_=>true) true n 66 (List.take (Tryz.prog.cellsOf 66) [c1])=some dG:=aN 1 _ rfl
 rw [akP]at Z;obtain⟨v1,cP,g1,r1⟩:=ll (encA:=jl) (ok:=Qz) Tryz.underlying66 Y0 (by omega) Z (λm cs' fN hm hx=>akS m cs' fN hx)
 exact⟨⟨v0,v1⟩,⟨e4,⟨cP,g1⟩⟩,(dk.app r1)⟩
structure QB(x:aA):Prop where
 ang:eJ x.cD
 anh:eJ x.cp
 akW:x.Rows.length≤9223372036854775807∧∀i,i<x.Rows.length→QA (x.Rows.getD i default)
theorem akX(fuel:Nat)(cs:List Value)(x:DataW H×List MemPlace)(h:DataW.trod enc Tryz.prog W 0 (λ_=>true) true fuel 24 cs=some x):∃p:aA,QB p∧fP W cs (acH p).cells:=by
 obtain⟨xs,n,hn,_,ab,gB,aN⟩:=DataW.trod_struct Tryz.underlying24 h;rw [YT]at ab;obtain⟨c0,c1,c2,rfl⟩:=pO cs ab;obtain⟨f5,dG,eL,rfl⟩:=pO xs gB;have h0:DataW.trod enc Tryz.prog W 0 (λ_=>true) true n 2 (List.take (Tryz.prog.cellsOf 2) [c0,c1,c2])=some f5:=aN 0 _ rfl
 rw [pN]at h0;obtain⟨v0,e4,dk⟩:=ip (k:=.i64) Tryz.underlying2 h0;have Z:DataW.trod enc Tryz.prog W 0 (λ_=>true) true n 2 (List.take (Tryz.prog.cellsOf 2) [c1,c2])=some dG:=aN 1 _ rfl
 rw [pN]at Z;obtain⟨v1,cP,r1⟩:=ip (k:=.i64) Tryz.underlying2 Z;have aa:DataW.trod enc Tryz.prog W 0 (λ_=>true) true n 22 (List.take (Tryz.prog.cellsOf 22) [c2])=some eL:=aN 2 _ rfl
 rw [akH]at aa;obtain⟨v2,aq,g2,r2⟩:=ll (encA:=c_) (ok:=QA) Tryz.underlying22 Y1 (by omega) aa (λm cs' fN hm hx=>akV m cs' fN hx)
 exact⟨⟨v0,v1,v2⟩,⟨⟨e4.1,e4.2⟩,⟨cP.1,cP.2⟩,⟨aq,g2⟩⟩,((dk.app r1).app r2)⟩
structure QC(x:Outcome):Prop where
 ani:eJ x.Status
 anj:eJ x.Code
 akY:x.Out.length≤9223372036854775807∧∀i,i<x.Out.length→ww (x.Out.getD i default)
theorem akZ(fuel:Nat)(cs:List Value)(x:DataW H×List MemPlace)(h:DataW.trod enc Tryz.prog W 0 (λ_=>true) true fuel 103 cs=some x):∃p:Outcome,QC p∧fP W cs (acJ p).cells:=by
 obtain⟨xs,n,hn,_,ab,gB,aN⟩:=DataW.trod_struct Tryz.underlying103 h;rw [Y3]at ab;obtain⟨c0,c1,c2,rfl⟩:=pO cs ab;obtain⟨f5,dG,eL,rfl⟩:=pO xs gB;have h0:DataW.trod enc Tryz.prog W 0 (λ_=>true) true n 3 (List.take (Tryz.prog.cellsOf 3) [c0,c1,c2])=some f5:=aN 0 _ rfl
 rw [oM]at h0;obtain⟨v0,e4,dk⟩:=ip (k:=.i64) Tryz.underlying3 h0;have Z:DataW.trod enc Tryz.prog W 0 (λ_=>true) true n 3 (List.take (Tryz.prog.cellsOf 3) [c1,c2])=some dG:=aN 1 _ rfl
 rw [oM]at Z;obtain⟨v1,cP,r1⟩:=ip (k:=.i64) Tryz.underlying3 Z;have aa:DataW.trod enc Tryz.prog W 0 (λ_=>true) true n 54 (List.take (Tryz.prog.cellsOf 54) [c2])=some eL:=aN 2 _ rfl
 rw [YV]at aa;obtain⟨v2,aq,g2,r2⟩:=ll (encA:=ed) (ok:=ww) Tryz.underlying54 Jj (by omega) aa (λm cs' fN hm hx=>Qy m cs' fN hx)
 exact⟨⟨v0,v1,v2⟩,⟨⟨e4.1,e4.2⟩,⟨cP.1,cP.2⟩,⟨aq,g2⟩⟩,((dk.app r1).app r2)⟩
structure QD(x:ev):Prop where
 Y7:eJ x.Client
 ak0:eJ x.Seq
 ak1:QC x.Outcome
theorem ak2(fuel:Nat)(cs:List Value)(x:DataW H×List MemPlace)(h:DataW.trod enc Tryz.prog W 0 (λ_=>true) true fuel 105 cs=some x):∃p:ev,QD p∧fP W cs (iq p).cells:=by
 obtain⟨xs,n,hn,_,ab,gB,aN⟩:=DataW.trod_struct Tryz.underlying105 h;rw [Y4]at ab;obtain⟨c0,c1,c2,c3,c4,rfl⟩:=Qv cs ab;obtain⟨f5,dG,eL,rfl⟩:=pO xs gB;have h0:DataW.trod enc Tryz.prog W 0 (λ_=>true) true n 3 (List.take (Tryz.prog.cellsOf 3) [c0,c1,c2,c3,c4])=some f5:=aN 0 _ rfl
 rw [oM]at h0;obtain⟨v0,e4,dk⟩:=ip (k:=.i64) Tryz.underlying3 h0;have Z:DataW.trod enc Tryz.prog W 0 (λ_=>true) true n 2 (List.take (Tryz.prog.cellsOf 2) [c1,c2,c3,c4])=some dG:=aN 1 _ rfl
 rw [pN]at Z;obtain⟨v1,cP,r1⟩:=ip (k:=.i64) Tryz.underlying2 Z;have aa:DataW.trod enc Tryz.prog W 0 (λ_=>true) true n 103 (List.take (Tryz.prog.cellsOf 103) [c2,c3,c4])=some eL:=aN 2 _ rfl
 rw [Y3]at aa;obtain⟨v2,aq,r2⟩:=akZ n _ _ aa;exact⟨⟨v0,v1,v2⟩,⟨⟨e4.1,e4.2⟩,⟨cP.1,cP.2⟩,aq⟩,((dk.app r1).app r2)⟩
structure Jk(x:bG):Prop where
 Y7:eJ x.Client
 ank:eJ x.Next
 ak3:x.bS.length≤9223372036854775807∧∀i,i<x.bS.length→QD (x.bS.getD i default)
theorem ak4(fuel:Nat)(cs:List Value)(x:DataW H×List MemPlace)(h:DataW.trod enc Tryz.prog W 0 (λ_=>true) true fuel 101 cs=some x):∃p:bG,Jk p∧fP W cs (dn p).cells:=by
 obtain⟨xs,n,hn,_,ab,gB,aN⟩:=DataW.trod_struct Tryz.underlying101 h;rw [Y2]at ab;obtain⟨c0,c1,c2,rfl⟩:=pO cs ab;obtain⟨f5,dG,eL,rfl⟩:=pO xs gB;have h0:DataW.trod enc Tryz.prog W 0 (λ_=>true) true n 3 (List.take (Tryz.prog.cellsOf 3) [c0,c1,c2])=some f5:=aN 0 _ rfl
 rw [oM]at h0;obtain⟨v0,e4,dk⟩:=ip (k:=.i64) Tryz.underlying3 h0;have Z:DataW.trod enc Tryz.prog W 0 (λ_=>true) true n 2 (List.take (Tryz.prog.cellsOf 2) [c1,c2])=some dG:=aN 1 _ rfl
 rw [pN]at Z;obtain⟨v1,cP,r1⟩:=ip (k:=.i64) Tryz.underlying2 Z;have aa:DataW.trod enc Tryz.prog W 0 (λ_=>true) true n 99 (List.take (Tryz.prog.cellsOf 99) [c2])=some eL:=aN 2 _ rfl
 rw [akQ]at aa;obtain⟨v2,aq,g2,r2⟩:=ll (encA:=iq) (ok:=QD) Tryz.underlying99 Y4 (by omega) aa (λm cs' fN hm hx=>ak2 m cs' fN hx)
 exact⟨⟨v0,v1,v2⟩,⟨⟨e4.1,e4.2⟩,⟨cP.1,cP.2⟩,⟨aq,g2⟩⟩,((dk.app r1).app r2)⟩
structure QE(x:Part):Prop where
 ak5:eJ x.Id
 anl:x.fQ.length≤9223372036854775807
 ak6:eJ x.Node
 ak7:eJ x.h2
 anm:x.ir.length≤9223372036854775807
theorem ak8(fuel:Nat)(cs:List Value)(x:DataW H×List MemPlace)(h:DataW.trod enc Tryz.prog W 0 (λ_=>true) true fuel 61 cs=some x):∃p:Part,QE p∧fP W cs (cX p).cells:=by
 obtain⟨xs,n,hn,_,ab,gB,aN⟩:=DataW.trod_struct Tryz.underlying61 h;rw [YZ]at ab;obtain⟨c0,c1,c2,c3,c4,rfl⟩:=Qv cs ab;obtain⟨f5,dG,eL,ly,fF,rfl⟩:=Qv xs gB;have h0:DataW.trod enc Tryz.prog W 0 (λ_=>true) true n 3 (List.take (Tryz.prog.cellsOf 3) [c0,c1,c2,c3,c4])=some f5:=aN 0 _ rfl
 rw [oM]at h0;obtain⟨v0,e4,dk⟩:=ip (k:=.i64) Tryz.underlying3 h0;have Z:DataW.trod enc Tryz.prog W 0 (λ_=>true) true n 9 (List.take (Tryz.prog.cellsOf 9) [c1,c2,c3,c4])=some dG:=aN 1 _ rfl
 rw [oN]at Z;obtain⟨v1,cP,r1⟩:=od Tryz.underlying9 Z;have aa:DataW.trod enc Tryz.prog W 0 (λ_=>true) true n 3 (List.take (Tryz.prog.cellsOf 3) [c2,c3,c4])=some eL:=aN 2 _ rfl
 rw [oM]at aa;obtain⟨v2,aq,r2⟩:=ip (k:=.i64) Tryz.underlying3 aa;have ai:DataW.trod enc Tryz.prog W 0 (λ_=>true) true n 3 (List.take (Tryz.prog.cellsOf 3) [c3,c4])=some ly:=aN 3 _ rfl
 rw [oM]at ai;obtain⟨v3,eb,r3⟩:=ip (k:=.i64) Tryz.underlying3 ai;have ay:DataW.trod enc Tryz.prog W 0 (λ_=>true) true n 9 (List.take (Tryz.prog.cellsOf 9) [c4])=some fF:=aN 4 _ rfl
 rw [oN]at ay;obtain⟨v4,dS,aZ⟩:=od Tryz.underlying9 ay;exact⟨⟨v0,v1,v2,v3,v4⟩,⟨⟨e4.1,e4.2⟩,cP,⟨aq.1,aq.2⟩,⟨eb.1,eb.2⟩,dS⟩,((((dk.app r1).app r2).app r3).app aZ)⟩
structure QF(x:b7):Prop where
 ak9:eJ x.Version
 ak':x.aW.length≤9223372036854775807∧∀i,i<x.aW.length→QE (x.aW.getD i default)
theorem ak_(fuel:Nat)(cs:List Value)(x:DataW H×List MemPlace)(h:DataW.trod enc Tryz.prog W 0 (λ_=>true) true fuel 29 cs=some x):∃p:b7,QF p∧fP W cs (acK p).cells:=by
 obtain⟨xs,n,hn,_,ab,gB,aN⟩:=DataW.trod_struct Tryz.underlying29 h;rw [YU]at ab;obtain⟨c0,c1,rfl⟩:=wu cs ab;obtain⟨f5,dG,rfl⟩:=wu xs gB;have h0:DataW.trod enc Tryz.prog W 0 (λ_=>true) true n 2 (List.take (Tryz.prog.cellsOf 2) [c0,c1])=some f5:=aN 0 _ rfl
 rw [pN]at h0;obtain⟨v0,e4,dk⟩:=ip (k:=.i64) Tryz.underlying2 h0;have Z:DataW.trod enc Tryz.prog W 0 (λ_=>true) true n 27 (List.take (Tryz.prog.cellsOf 27) [c1])=some dG:=aN 1 _ rfl
 rw [akK]at Z;obtain⟨v1,cP,g1,r1⟩:=ll (encA:=cX) (ok:=QE) Tryz.underlying27 YZ (by omega) Z (λm cs' fN hm hx=>ak8 m cs' fN hx)
 exact⟨⟨v0,v1⟩,⟨⟨e4.1,e4.2⟩,⟨cP,g1⟩⟩,(dk.app r1)⟩
structure Jl(x:be):Prop where
 akT:x.Key.length≤9223372036854775807
 ala:eJ x.Count
theorem alb(fuel:Nat)(cs:List Value)(x:DataW H×List MemPlace)(h:DataW.trod enc Tryz.prog W 0 (λ_=>true) true fuel 107 cs=some x):∃p:be,Jl p∧fP W cs (dT p).cells:=by
 obtain⟨xs,n,hn,_,ab,gB,aN⟩:=DataW.trod_struct Tryz.underlying107 h;rw [Y5]at ab;obtain⟨c0,c1,rfl⟩:=wu cs ab;obtain⟨f5,dG,rfl⟩:=wu xs gB;have h0:DataW.trod enc Tryz.prog W 0 (λ_=>true) true n 9 (List.take (Tryz.prog.cellsOf 9) [c0,c1])=some f5:=aN 0 _ rfl
 rw [oN]at h0;obtain⟨v0,e4,dk⟩:=od Tryz.underlying9 h0;have Z:DataW.trod enc Tryz.prog W 0 (λ_=>true) true n 2 (List.take (Tryz.prog.cellsOf 2) [c1])=some dG:=aN 1 _ rfl
 rw [pN]at Z;obtain⟨v1,cP,r1⟩:=ip (k:=.i64) Tryz.underlying2 Z;exact⟨⟨v0,v1⟩,⟨e4,⟨cP.1,cP.2⟩⟩,(dk.app r1)⟩
structure Y8(x:fg):Prop where
 ann:True
 ano:x.Reads.length≤9223372036854775807∧∀i,i<x.Reads.length→(x.Reads.getD i default).length≤9223372036854775807
 anp:x.cT.length≤9223372036854775807∧∀i,i<x.cT.length→(x.cT.getD i default).length≤9223372036854775807
theorem alc(fuel:Nat)(cs:List Value)(x:DataW H×List MemPlace)(h:DataW.trod enc Tryz.prog W 0 (λ_=>true) true fuel 57 cs=some x):∃p:fg,Y8 p∧fP W cs (acL p).cells:=by
 obtain⟨xs,n,hn,_,ab,gB,aN⟩:=DataW.trod_struct Tryz.underlying57 h;rw [YX]at ab;obtain⟨c0,c1,c2,rfl⟩:=pO cs ab;obtain⟨f5,dG,eL,rfl⟩:=pO xs gB;have h0:DataW.trod enc Tryz.prog W 0 (λ_=>true) true n 4 (List.take (Tryz.prog.cellsOf 4) [c0,c1,c2])=some f5:=aN 0 _ rfl
 rw [YS]at h0;obtain⟨v0,dk⟩:=S9 Tryz.underlying4 h0;have Z:DataW.trod enc Tryz.prog W 0 (λ_=>true) true n 55 (List.take (Tryz.prog.cellsOf 55) [c1,c2])=some dG:=aN 1 _ rfl
 rw [YW]at Z;obtain⟨v1,cP,g1,r1⟩:=ll (encA:=bz) (ok:=λs:anT=>s.length≤9223372036854775807) Tryz.underlying55 oN (by omega) Z (λm cs' fN hm hx=>od Tryz.underlying9 hx)
 have aa:DataW.trod enc Tryz.prog W 0 (λ_=>true) true n 55 (List.take (Tryz.prog.cellsOf 55) [c2])=some eL:=aN 2 _ rfl
 rw [YW]at aa;obtain⟨v2,aq,g2,r2⟩:=ll (encA:=bz) (ok:=λs:anT=>s.length≤9223372036854775807) Tryz.underlying55 oN (by omega) aa (λm cs' fN hm hx=>od Tryz.underlying9 hx)
 exact⟨⟨v0,v1,v2⟩,⟨trivial,⟨cP,g1⟩,⟨aq,g2⟩⟩,((dk.app r1).app r2)⟩
structure Jm(x:Request):Prop where
 Y7:eJ x.Client
 ak0:eJ x.Seq
 anq:x.bd.length≤9223372036854775807
 fArgs:x.aw.length≤9223372036854775807∧∀i,i<x.aw.length→ww (x.aw.getD i default)
 anr:True
 ans:Y8 x.bx
theorem ald(fuel:Nat)(cs:List Value)(x:DataW H×List MemPlace)(h:DataW.trod enc Tryz.prog W 0 (λ_=>true) true fuel 59 cs=some x):∃p:Request,Jm p∧fP W cs (ew p).cells:=by
 obtain⟨xs,n,hn,_,ab,gB,aN⟩:=DataW.trod_struct Tryz.underlying59 h;rw [YY]at ab;obtain⟨c0,c1,c2,c3,c4,c5,k_,kD,rfl⟩:=YR cs ab;obtain⟨f5,dG,eL,ly,fF,mQ,rfl⟩:=akF xs gB;have h0:DataW.trod enc Tryz.prog W 0 (λ_=>true) true n 3 (List.take (Tryz.prog.cellsOf 3) [c0,c1,c2,c3,c4,c5,k_,kD])=some f5:=aN 0 _ rfl
 rw [oM]at h0;obtain⟨v0,e4,dk⟩:=ip (k:=.i64) Tryz.underlying3 h0;have Z:DataW.trod enc Tryz.prog W 0 (λ_=>true) true n 2 (List.take (Tryz.prog.cellsOf 2) [c1,c2,c3,c4,c5,k_,kD])=some dG:=aN 1 _ rfl
 rw [pN]at Z;obtain⟨v1,cP,r1⟩:=ip (k:=.i64) Tryz.underlying2 Z;have aa:DataW.trod enc Tryz.prog W 0 (λ_=>true) true n 9 (List.take (Tryz.prog.cellsOf 9) [c2,c3,c4,c5,k_,kD])=some eL:=aN 2 _ rfl
 rw [oN]at aa;obtain⟨v2,aq,r2⟩:=od Tryz.underlying9 aa;have ai:DataW.trod enc Tryz.prog W 0 (λ_=>true) true n 54 (List.take (Tryz.prog.cellsOf 54) [c3,c4,c5,k_,kD])=some ly:=aN 3 _ rfl
 rw [YV]at ai;obtain⟨v3,eb,g3,r3⟩:=ll (encA:=ed) (ok:=ww) Tryz.underlying54 Jj (by omega) ai (λm cs' fN hm hx=>Qy m cs' fN hx)
 have ay:DataW.trod enc Tryz.prog W 0 (λ_=>true) true n 4 (List.take (Tryz.prog.cellsOf 4) [c4,c5,k_,kD])=some fF:=aN 4 _ rfl
 rw [YS]at ay;obtain⟨v4,aZ⟩:=S9 Tryz.underlying4 ay;have aJ:DataW.trod enc Tryz.prog W 0 (λ_=>true) true n 57 (List.take (Tryz.prog.cellsOf 57) [c5,k_,kD])=some mQ:=aN 5 _ rfl
 rw [YX]at aJ;obtain⟨v5,QG,cA⟩:=alc n _ _ aJ;exact⟨⟨v0,v1,v2,v3,v4,v5⟩,⟨⟨e4.1,e4.2⟩,⟨cP.1,cP.2⟩,aq,⟨eb,g3⟩,trivial,QG⟩,(((((dk.app r1).app r2).app r3).app aZ).app cA)⟩
structure tJ(x:bP):Prop where
 ale:eJ x.Pos
 alf:QB x.aA
 Y9:x.cc.length≤9223372036854775807∧∀i,i<x.cc.length→qB (x.cc.getD i default)
 alg:x.cQ.length≤9223372036854775807∧∀i,i<x.cQ.length→Jk (x.cQ.getD i default)
 Y':QF x.Place
 alh:x.be.length≤9223372036854775807∧∀i,i<x.be.length→Jl (x.be.getD i default)
 ali:x.Queue.length≤9223372036854775807∧∀i,i<x.Queue.length→Jm (x.Queue.getD i default)
 alj:hq x.de
theorem alk(fuel:Nat)(cs:List Value)(x:DataW H×List MemPlace)(h:DataW.trod enc Tryz.prog W 0 (λ_=>true) true fuel 34 cs=some x):∃p:bP,tJ p∧fP W cs (Tt p).cells:=by
 obtain⟨xs,n,hn,_,ab,gB,aN⟩:=DataW.trod_struct Tryz.underlying34 h;rw [akO]at ab;obtain⟨c0,c1,c2,c3,c4,c5,k_,kD,oO,c9,lV,rfl⟩:=akG cs ab;obtain⟨f5,dG,eL,ly,fF,mQ,pj,BZ,rfl⟩:=YR xs gB;have h0:DataW.trod enc Tryz.prog W 0 (λ_=>true) true n 2 (List.take (Tryz.prog.cellsOf 2) [c0,c1,c2,c3,c4,c5,k_,kD,oO,c9,lV])=some f5:=aN 0 _ rfl
 rw [pN]at h0;obtain⟨v0,e4,dk⟩:=ip (k:=.i64) Tryz.underlying2 h0;have Z:DataW.trod enc Tryz.prog W 0 (λ_=>true) true n 24 (List.take (Tryz.prog.cellsOf 24) [c1,c2,c3,c4,c5,k_,kD,oO,c9,lV])=some dG:=aN 1 _ rfl
 rw [YT]at Z;obtain⟨v1,cP,r1⟩:=akX n _ _ Z;have aa:DataW.trod enc Tryz.prog W 0 (λ_=>true) true n 25 (List.take (Tryz.prog.cellsOf 25) [c4,c5,k_,kD,oO,c9,lV])=some eL:=aN 2 _ rfl
 rw [akI]at aa;obtain⟨v2,aq,g2,r2⟩:=ll (encA:=ee) (ok:=qB) Tryz.underlying25 YO (by omega) aa (λm cs' fN hm hx=>akC m cs' fN hx)
 have ai:DataW.trod enc Tryz.prog W 0 (λ_=>true) true n 26 (List.take (Tryz.prog.cellsOf 26) [c5,k_,kD,oO,c9,lV])=some ly:=aN 3 _ rfl
 rw [akJ]at ai;obtain⟨v3,eb,g3,r3⟩:=ll (encA:=dn) (ok:=Jk) Tryz.underlying26 Y2 (by omega) ai (λm cs' fN hm hx=>ak4 m cs' fN hx)
 have ay:DataW.trod enc Tryz.prog W 0 (λ_=>true) true n 29 (List.take (Tryz.prog.cellsOf 29) [k_,kD,oO,c9,lV])=some fF:=aN 4 _ rfl
 rw [YU]at ay;obtain⟨v4,dS,aZ⟩:=ak_ n _ _ ay;have aJ:DataW.trod enc Tryz.prog W 0 (λ_=>true) true n 30 (List.take (Tryz.prog.cellsOf 30) [oO,c9,lV])=some mQ:=aN 5 _ rfl
 rw [akL]at aJ;obtain⟨v5,QG,g5,cA⟩:=ll (encA:=dT) (ok:=Jl) Tryz.underlying30 Y5 (by omega) aJ (λm cs' fN hm hx=>alb m cs' fN hx)
 have bE:DataW.trod enc Tryz.prog W 0 (λ_=>true) true n 31 (List.take (Tryz.prog.cellsOf 31) [c9,lV])=some pj:=aN 6 _ rfl
 rw [akM]at bE;obtain⟨v6,qi,g6,b8⟩:=ll (encA:=ew) (ok:=Jm) Tryz.underlying31 YY (by omega) bE (λm cs' fN hm hx=>ald m cs' fN hx)
 have cz:DataW.trod enc Tryz.prog W 0 (λ_=>true) true n 32 (List.take (Tryz.prog.cellsOf 32) [lV])=some BZ:=aN 7 _ rfl
 rw [akN]at cz;obtain⟨bK,Y_,cJ⟩:=ip (k:=.u64) Tryz.underlying32 cz;exact⟨⟨v0,v1,v2,v3,v4,v5,v6,bK⟩,⟨⟨e4.1,e4.2⟩,cP,⟨aq,g2⟩,⟨eb,g3⟩,dS,⟨QG,g5⟩,⟨qi,g6⟩,⟨Y_.1,Int.lt_of_le_of_lt Y_.2 (by decide)⟩⟩,(((((((dk.app r1).app r2).app r3).app aZ).app cA).app b8).app cJ)⟩
end
def nX{α:Type}[Inhabited α]{P:α→Prop}{l:List α}(h:∀i,i<l.length→P (l.getD i default))(h0:P default)(i:Nat):P (l.getD i default):=by
 by_cases hi:i<l.length
 ·exact h i hi
 ·rw [List.getD_eq_getElem?_getD,List.getElem?_eq_none (by omega)];exact h0
def nh{α:Type}[Inhabited α]{P:α→Prop}{l:List α}(h:∀i,i<l.length→P (l.getD i default))(x:α)(hx:x∈l):P x:=by
 obtain⟨i,hi,e⟩:=Qp hx;rw [←e];exact h i hi
def zD.b3{r:bP}(h:zD r)(hi:tJ r){n:Nat}(hn:3000000≤n):wi n r where
 st:=⟨by have:=h.zE;omega,λi=>nX (P:=P3 n) (λk hk=>by
  have Z:=h.rs k hk;unfold wn at Z;simp only [Bool.and_eq_true,decide_eq_true_eq,hW]at Z;obtain⟨⟨aa,ai⟩,ay⟩:=Z;exact⟨by omega,by omega,λj=>nX (P:=λx:Version=>x.b0.S.length≤1000) (λm hm=>by have:=ay m hm;omega) (by show([]:anT).length≤1000;simp) j⟩) ((Yt (n:=n) (by omega)).st.row 0) i⟩
 Dr:=by have:=h.pl;omega
 l6:=λi=>nX (P:=oK) (λk hk=>by
  obtain⟨Z,aa,ai,ay⟩:=h.bM k hk;have aJ:=Iy (r.cc.getD k default).Body;exact⟨hi.Y9.2 k hk,by omega,by omega,by omega⟩) Yi i
 wj:=by have:=h.kz;omega
 oL:=λi=>nX (P:=rY n) (λk hk=>by
  obtain⟨Z,aa⟩:=h.nE k hk
  exact⟨by omega,λj=>nX (P:=λx:ev=>zu n x.Outcome) (λm hm=>by
   obtain⟨ai,ay⟩:=aa m hm;exact⟨by omega,λq=>nX (P:=λx:bq=>x.S.length≤1000) (λm hm=>by have:=ay m hm;omega) (by show([]:anT).length≤1000;simp) q⟩) ((I5 (n:=n) (by omega) (l:=[]) (λx hx=>by cases hx) 0).out 0) j⟩) (I5 (n:=n) (by omega) (l:=[]) (λx hx=>by cases hx) 0) i
 pl:=by have:=h.Jf.pl;omega
 Ds:=λi=>nX (P:=v_) (λk hk=>by obtain⟨a,b⟩:=h.Jf.bM k hk;exact⟨by omega,by omega⟩) ((Yt (n:=n) (by omega)).Ds 0) i
 aC:=by have:=h.Jf.ab;omega
 kh:=λi=>nX (P:=λx:be=>x.Key.length≤1000) (λk hk=>by have:=h.Jf.hs k hk;omega) (by show([]:anT).length≤1000;simp) i
 pM:=by have:=h.YC;omega
 wk:=λi=>nX (P:=tA n) (λk hk=>by
  obtain⟨Z,aa,ai,f1,f2,f3,f4⟩:=h.akn k hk
  exact⟨by omega,by omega,λj=>nX (P:=λx:bq=>x.S.length≤1000) (λm hm=>by have:=ai m hm;omega) (by show([]:anT).length≤1000;simp) j,by omega,by omega,
   λj=>nX (P:=λx:anT=>x.length≤1000) (λm hm=>by have:=f3 m hm;omega) (by show([]:anT).length≤1000;simp) j,
   λj=>nX (P:=λx:anT=>x.length≤1000) (λm hm=>by have:=f4 m hm;omega) (by show([]:anT).length≤1000;simp) j⟩) (Ys (by omega)) i
def QH{k:anT}(h:nS k=true):k.length≤24:=by
 unfold nS at h;simp only [Bool.and_eq_true,decide_eq_true_eq]at h;exact h.1.2
def Za{k:anT}(h:rX k=true):k.length≤24:=by
 unfold rX at h;simp only [Bool.and_eq_true,decide_eq_true_eq]at h;exact h.2
def Zb{l:List bq}(h:tz l=true)(hi:∀i,i<l.length→ww (l.getD i default)):∀v∈l,pH v:=by
 unfold tz at h;rw [hW]at h;refine nh λi ab=>?_
 have Z:=h i ab;rw [Bool.and_eq_true]at Z;exact⟨Z.1,(hi i ab).Y6⟩
def alm{o:Outcome}(h:zt o=true)(hi:QC o):oI o:=by
 unfold zt at h;by_cases hs:o.Status=1
 ·simp only [hs,anC,anE,Bool.and_eq_true,decide_eq_true_eq]at h;obtain⟨⟨Z,aa⟩,ai⟩:=h;exact⟨by omega,by omega,aa,Zb ai hi.akY.2⟩
 ·simp only [hs,anD,anF,Bool.and_eq_true,decide_eq_true_eq]at h;obtain⟨⟨⟨Z,aa⟩,ai⟩,ay⟩:=h;have aJ:o.Out=[]:=List.length_eq_zero_iff.1 ay;exact⟨by omega,by omega,by rw [aJ];simp,by rw [aJ];exact λv an=>by cases an⟩
def aln{s:bG}(h:Di s=true)(hi:Jk s):pL s:=by
 unfold Di at h;simp only [Bool.and_eq_true,Bool.not_eq_true',decide_eq_true_eq,hW]at h;obtain⟨⟨Z,aa⟩,ai⟩:=h;obtain⟨aT,a2,a3,a4⟩:=X0 Z;have hk:=Dm ⟨a3,a4⟩
 have ay:∀i,i<s.bS.length→((s.bS.getD i default).Client=s.Client∧(s.bS.getD i default).Seq=s.Next-(s.bS.length:Int)+(i:Int))∧zt (s.bS.getD i default).Outcome=true:=λi ab=>by
  have:=ai i ab
  unfold IS at this;simp only [Bool.and_eq_true,decide_eq_true_eq]at this;exact this
 refine⟨⟨aT,a2⟩,⟨a3,a4⟩,?_,by rw [List.length_map];omega,?_⟩
 ·refine List.ext_getElem (by simp [tF]) λi g1 g2=>?_
  have aJ:=ay i g1;rw [List.getD_eq_getElem?_getD,List.getElem?_eq_getElem g1,Option.getD_some]at aJ;simp only [tF,List.getElem_map,List.getElem_zipIdx,Nat.zero_add];rw [wr (x:=kA s.Next-(i:Int)) (by omega) (by omega),wr (x:=s.Next-(kA s.Next-(i:Int))) (by omega) (by omega)]
  generalize s.bS[i]=x at aJ
  obtain⟨c,q,o⟩:=x;obtain⟨⟨e1,e2⟩,_⟩:=aJ;simp only at e1 e2
  subst e1;rw [e2,aa,show s.Next-kA s.Next+(i:Int)=s.Next-(kA s.Next-(i:Int))by omega]
 ·intro o am;obtain⟨x,hx,rfl⟩:=List.mem_map.1 am;exact nh (P:=λx:ev=>oI x.Outcome) (λi ab=>alm (ay i ab).2 (hi.ak3.2 i ab).ak1) x hx
def alo{p:b7}(h:oH p=true)(hi:QF p):p.aW.length≤16∧∀x∈p.aW,pK x:=by
 unfold oH at h;simp only [Bool.and_eq_true,Bool.not_eq_true',Bool.or_eq_false_iff,decide_eq_false_iff_not,Bool.not_eq_false',decide_eq_true_eq,hW]at h;obtain⟨⟨⟨⟨⟨Z,aa⟩,ai⟩,ay⟩,aJ⟩,bE⟩:=h;refine⟨by omega,nh λi ab=>?_⟩
 have cz:=bE i ab;have hx:=hi.ak'.2 i ab;unfold Dg zr at cz;simp only [Bool.and_eq_true]at cz;obtain⟨dh,⟨_,eH⟩,_⟩:=cz;refine⟨hx.ak5,?_,hx.ak6,hx.ak7,?_⟩
 ·cases i with
  |zero=>rw [aJ];simp
  |succ i=>
   rw [show decide (0<((i+1:Nat):Int))=true from decide_eq_true (by omega),anG,Bool.false_or,Bool.and_eq_true]at dh
   exact Za dh.1
 ·by_cases hd:(p.aW.getD i default).h2=0
  ·simp only [hd,anC,anE,decide_eq_true_eq]at eH;rw [eH];simp
  ·simp only [hd,anD,anF,Bool.and_eq_true]at eH;exact Za eH.1.1.2
def alp{l:List be}(h:v8 l=true)(hi:∀i,i<l.length→Jl (l.getD i default)):l.length≤32∧∀x∈l,x.Key.length≤24∧eJ x.Count:=by
 unfold v8 at h;simp only [Bool.and_eq_true,decide_eq_true_eq,hW]at h;obtain⟨Z,aa⟩:=h;exact⟨by omega,nh (P:=λx:be=>x.Key.length≤24∧eJ x.Count) λi ab=>⟨QH (Z i ab).1.1.1,(hi i ab).ala⟩⟩
def Zc{l:jt}(h:v' l=true):∀v∈l,v.length≤24:=by
 unfold v' at h;rw [hW]at h
 exact nh (P:=λv:anT=>v.length≤24) λi ab=>by
  have:=h i ab
  rw [Bool.and_eq_true]at this;exact QH this.1
def alq{s:anT}(h:gx s=true):s.length≤16:=by obtain⟨_,_,_,_,_,_,h⟩:=Pk h;exact h
def alr{
 r:Request} (h:rW r=0) (hi:Jm r):ne r∧r0 r=true:=by
 have h0:=h;unfold rW at h;cases Z:((decide (r.Client<1)||decide (32<r.Client))||decide (r.Seq<1))||decide (1099511627776<r.Seq)
 ·cases aa:gx r.bd
  ·rw [Z,aa]at h;simp at h
  ·cases ai:decide (6<r.aw.length)
   ·cases ay:tz r.aw
    ·rw [Z,aa,ai,ay]at h;simp at h
    ·cases aJ:((!zp r.bx||r.bx.eI)||(!r.eW&&decide (0<r.bx.Reads.length+r.bx.cT.length)))
     ·simp only [Bool.or_eq_false_iff,decide_eq_false_iff_not]at Z ai aJ;obtain⟨⟨⟨c7,jN⟩,PG⟩,als⟩:=Z;obtain⟨⟨c1,c2⟩,c3⟩:=aJ;rw [Bool.not_eq_false']at c1;unfold zp at c1;rw [c2,anF]at c1;simp only [Bool.and_eq_true,decide_eq_true_eq]at c1;obtain⟨⟨d1,d2⟩,d3,d4⟩:=c1;refine⟨⟨⟨by omega,by omega⟩,⟨by omega,by omega⟩,alq aa,⟨by omega,Zb ay hi.fArgs.2⟩,?_,c2⟩,?_⟩
      ·unfold Dn;cases hd:r.eW
       ·rw [hd]at c3;simp only [anH,Bool.true_and,decide_eq_false_iff_not]at c3;rw [if_neg (by simp)]
        rw [List.length_eq_zero_iff.1 (show r.bx.Reads.length=0 by omega),List.length_eq_zero_iff.1 (show r.bx.cT.length=0 by omega)]
       ·rw [if_pos rfl];exact⟨⟨d2,Zc d1⟩,d4,Zc d3⟩
      ·unfold r0;rw [h0,decide_eq_true (show r.Client≤32 by omega),decide_eq_true (show r.Seq≤1099511627776 by omega)];rfl
     ·rw [Z,aa,ai,ay,aJ]at h;simp at h
   ·rw [Z,aa,ai]at h;simp at h
 ·rw [Z]at h;simp at h
def alt{s:aA}(hs:mv s=true)(hi:QB s)(hb:∀i,i<s.Rows.length→(s.Rows.getD i default).bJ.length≤1000000000):∀p∈fY s.Rows,qO p:=by
 intro p hp;obtain⟨r,ah,e,_⟩:=Dw _ _ hp;obtain⟨j,hj,rfl⟩:=Qp ah;obtain⟨a,b⟩:=YH hs hb j hj;rw [e];refine⟨QH a,b,?_⟩
 have Z:=(hi.akW.2 j hj).akU.2;exact nX (P:=λv:Version=>eJ v.b0.N) (λk hk=>(Z k hk).akR.Y6) (by show eJ (0:Int);exact⟨by omega,by omega⟩) _
def alu{r:bP}(hs:hN r=true)(hi:tJ r)(f8:r.aA.Rows.length≤1000000)(hb:∀i,i<r.aA.Rows.length→(r.aA.Rows.getD i default).bJ.length≤1000000000)(wq:r.cQ.length≤32):r4 (nW r (fY r.aA.Rows)):=by
 unfold hN at hs;simp only [Bool.and_eq_true,decide_eq_true_eq]at hs;obtain⟨⟨⟨⟨⟨⟨⟨⟨Z,aa⟩,ai⟩,ay⟩,aJ⟩,bE⟩,cz⟩,dh⟩,eH⟩:=hs;have nr:=wo r.aA.Rows;refine⟨hi.ale,⟨⟨by show(fY r.aA.Rows).length≤_;omega,alt ai hi.alf hb⟩,aks ai f8 hb⟩,?_,⟨⟨wq,?_⟩,bE⟩,⟨⟨hi.Y'.ak9,alo cz hi.Y'⟩,cz⟩,alp dh hi.alh.2,?_,hi.alj⟩
 ·unfold zz at aJ;simp only [Bool.and_eq_true,decide_eq_true_eq,hW]at aJ;obtain⟨gi,alv⟩:=aJ;refine⟨by show(r.cc.map hr).length≤16;rw [List.length_map];exact alv,λs hs=>?_⟩
  obtain⟨p,hp,rfl⟩:=List.mem_map.1 (show s∈r.cc.map hr from hs)
  refine nh (P:=λp:bd=>(hr p).length≤16384) (λi ab=>?_) p hp
  have:=(gi i ab).1
  simp only [Bool.not_eq_true',Bool.or_eq_false_iff,decide_eq_false_iff_not]at this;omega
 ·have gi:=bE;unfold pJ at gi;simp only [Bool.and_eq_true,hW]at gi;exact nh (P:=pL) λi ab=>aln (gi i ab).1 (hi.alg.2 i ab)
 ·have gi:=eH;unfold Dq at gi;simp only [Bool.and_eq_true,decide_eq_true_eq,hW]at gi;exact⟨gi.2,nh (P:=λq:Request=>ne q∧r0 q=true) λi ab=>alr (gi.1 i ab) (hi.ali.2 i ab)⟩
def QI{α:Type}{E:α→anT}{k:Nat}:∀{l:List α},(∀v∈l,(E v).length≤k)→(ia E l).length≤k*l.length
 |[],_=>by simp [ia]
 |v::l,h=>by
  have Z:=h v (by simp)
  have aa:=QI (E:=E) (l:=l) λw hw=>h w (by simp [hw])
  rw [zh,anM,anI,Nat.mul_add,Nat.mul_one];omega
def qY{α:Type}{E:α→anT}{k:Nat}(m:Nat){l:List α}(ab:l.length≤m)(hm:m<18446744073709551616)(hk:∀v∈l,(E v).length≤k):(dC E l).length≤10+k*m:=by
 have Z:=QI hk;have aa:=mt (u:=l.length) (by omega)
 have ai:=Nat.mul_le_mul_left k ab;unfold dC;rw [anM];omega
def QJ{v:bq}(h:pH v):(cx v).length≤84:=by
 have Z:=rZ h;have aa:=XA h.2 (by omega)
 omega
def tK{s:anT}{k:Nat}(h:s.length≤k)(hk:k≤1000000):(fL s).length≤k+10:=by
 have:=IL (s:=s) (by omega)
 omega
def alw{o:Outcome}(h:oI o):(qQ o).length≤1374:=by
 obtain⟨Z,aa⟩:=Yv h;have aT:=ng Z;have a2:=ng aa;have a3:=qY (E:=cx) (k:=84) 16 h.2.2.1 (by omega) λv an=>QJ (h.2.2.2 v an)
 unfold qQ;simp only [anM];omega
def alx{s:bG}(h:pL s):(kC s).length≤11012:=by
 obtain⟨Z,aa,ai,ay,aJ⟩:=h;have aT:=ng (z:=s.Client) ⟨by omega,by omega⟩
 have a2:=ng (z:=s.Next) ⟨by omega,by omega⟩
 have a3:=QI (E:=qQ) (k:=1374) λo am=>alw (aJ o am)
 have a4:=Dm aa;unfold kC;simp only [anM];omega
def aly{x:Part}(h:pK x):(qP x).length≤98:=by
 obtain⟨Z,aa,ai,ay,aJ⟩:=h;have aT:=qG Z;have a2:=qG ai;have a3:=qG ay;have a4:=tK aa (by omega)
 have a5:=tK aJ (by omega)
 unfold qP;simp only [anM];omega
def alz{r:Request}(h:ne r):(i' r).length≤5000:=by
 obtain⟨Z,aa,ai,ay,aJ,bE⟩:=h;have aT:=ng Z;have a2:=ng aa;have a3:=tK ai (by omega)
 have a4:=qY (E:=cx) (k:=84) 6 ay.1 (by omega) λv an=>QJ (ay.2 v an)
 have a5:=Ql r.eW
 have pB:(qS r.eW (r.bx.Reads,r.bx.cT)).length≤4372:=by
  unfold qS Dn at *;cases hd:r.eW
  ·simp
  ·rw [hd]at aJ;obtain⟨⟨c1,c2⟩,c3,c4⟩:=aJ;have d1:=qY (E:=fL) (k:=34) 64 c1 (by omega) λv an=>tK (c2 v an) (by omega)
   have d2:=qY (E:=fL) (k:=34) 64 c3 (by omega) λv an=>tK (c4 v an) (by omega)
   simp only [anR,anM];simp only at d1 d2
   omega
 unfold i';simp only [anM];omega
def alA{r:bP}{A:List bI}(hp:r4 (nW r A))(aI:A.length≤100)(wq:r.cQ.length≤10)(dL:r.Queue.length≤64):(gX (nW r A)).length≤800000:=by
 have c7:(l1 r.Pos).length≤10:=qG hp.pos
 have jN:=qY (E:=kB) (k:=118) 100 aI (by omega) λp h=>by
  obtain⟨c1,c2⟩:=hp.l6.1.2 p h;have d1:=tK c1 (by omega)
  have d2:=QJ c2;unfold kB;rw [anM];omega
 have PG:=qY (E:=fL) (k:=16394) 16 hp.src.1 (by omega) λs h=>tK (hp.src.2 s h) (by omega)
 have als:=qY (E:=kC) (k:=11012) 10 wq (by omega) λs h=>alx (hp.oL.1.2 s h)
 have ant:=qY (E:=qP) (k:=98) 16 hp.wl.1.2.1 (by omega) λs h=>aly (hp.wl.1.2.2 s h)
 have anu:=qY (E:=nf) (k:=44) 32 hp.aC.1 (by omega) λx h=>by
  obtain⟨c1,c2⟩:=hp.aC.2 x h;have d1:=tK c1 (by omega)
  have d2:=qG c2;unfold nf;rw [anM];omega
 have anv:=qY (E:=i') (k:=5000) 64 dL (by omega) λq h=>alz (hp.pM.2 q h).1
 have anw:=ng hp.Qi;have anx:=qG hp.wl.1.1;unfold gX nV;simp only [anM];simp only [nW]at *;omega
abbrev ht(r:bP):zA:=nW r (fY r.aA.Rows)
section
variable {n:Nat} (hn:3000000≤n) (aQ:n≤1000000000) {r:bP} (aN:zD r) (hi:tJ r)
include hn aQ aN hi
theorem Jn(hs:hN r=true):r4 (ht r)∧(gX (ht r)).length≤800000:=by
 have hsh:=aN.b3 hi hn;have Jo:=aN.zE;have hp:=alu hs hi (by omega) (λi ab=>by have:=(hsh.st.row i).IV;omega) (by have:=aN.kz;omega)
 exact⟨hp,alA hp (by have:=wo r.aA.Rows;omega) (by have:=aN.kz;omega) (by have:=aN.YC;omega)⟩
theorem alB(hs:hN r=true):(∀i,i<r.aA.Rows.length→Dv n r.Pos (r.aA.Rows.getD i default))∧r.aA.cD≤r.Pos∧r.Pos≤r.aA.cp:=by
 have hsh:=aN.b3 hi hn;unfold hN at hs;simp only [Bool.and_eq_true,decide_eq_true_eq]at hs;obtain⟨⟨⟨⟨⟨⟨⟨⟨Z,aa⟩,ai⟩,ay⟩,aJ⟩,bE⟩,cz⟩,dh⟩,eH⟩:=hs;have Jp:=YD (n:=n) ai (λi ab=>by have:=(hsh.st.row i).IV;exact⟨this,by omega⟩)
 rw [ay]at Jp;refine⟨Jp,?_⟩
 unfold mv at ai;simp only [Bool.and_eq_true,Bool.not_eq_true',Bool.or_eq_false_iff,decide_eq_false_iff_not]at ai;obtain⟨⟨⟨aT,a2⟩,a3⟩,_⟩:=ai;omega
theorem QK(hs:hN r=true):rx n r=some (gX (ht r)):=by
 have hsh:=aN.b3 hi hn;have Jo:=aN.zE;have nr:=aN.pl;obtain⟨hp,ab⟩:=Jn hn aQ aN hi hs;obtain⟨Jp,alC,alD⟩:=alB hn aQ aN hi hs;have nC:=hs;unfold hN Dq at nC;simp only [Bool.and_eq_true,decide_eq_true_eq,hW]at nC;obtain⟨⟨⟨⟨⟨⟨⟨⟨Z,aa⟩,ai⟩,ay⟩,aJ⟩,bE⟩,cz⟩,dh⟩,eH,gi⟩:=nC
 exact Yy hn aQ hp ab (nh λi _=>hsh.l6 i) (by omega) (akr (by omega) (by omega) Jp alC alD (by rw [P4 (by omega) aQ hsh.st,ai]))
  (by rw [IT (by omega) aQ hsh.wj hsh.oL,bE]) (nh (P:=λq:Request=>nG n q=some 0) λi ab=>by rw [IR (by omega) aQ (hsh.wk i),eH i ab])
def encA(r:bP):anT×Int:=bif !hN r then([],1)else bif decide (16384<(((gX (ht r)).length:Nat):Int)) then([],2) else(gX (ht r),0)
theorem alE:sM n r=some (encA r):=by
 have hsh:=aN.b3 hi hn;unfold sM encA;rw [Dt hn aQ hsh,ak];cases hs:hN r
 ·rfl
 ·simp only [anG,anF];rw [QK hn aQ aN hi hs,ak];cases decide (16384<(((gX (ht r)).length:Nat):Int))<;>rfl
end
def alF{r:bP}(h:(encA r).2=0):hN r=true∧(encA r).1=gX (ht r):=by
 unfold encA at h ⊢;cases hs:hN r
 ·rw [hs]at h;exact absurd h (by simp)
 ·rw [hs]at h;simp only [anG,anF]at h ⊢;cases ab:decide (16384<(((gX (ht r)).length:Nat):Int))
  ·exact⟨trivial,rfl⟩
  ·rw [ab]at h;exact absurd h (by simp)
def alG(A:List bI)(a:Int):(iQ A a).Rows.length=A.length:=by unfold iQ;simp
def Jq{A:List bI}{a:Int}{i:Nat}(hi:i<A.length):(iQ A a).Rows.getD i default=⟨(A.getD i default).Key,[⟨a,(A.getD i default).b0⟩]⟩:=by
 unfold iQ;simp only [List.getD_eq_getElem?_getD,List.getElem?_map,List.getElem?_eq_getElem hi,Option.map_some,Option.getD_some]
def alH{A:List bI}{a:Int}(h:nU A=true)(h0:0≤a)(Z:a≤1099511627776)(ab:A.length≤1000000000):mv (iQ A a)=true:=by
 unfold nU zn at h;simp only [Bool.and_eq_true,hW]at h;obtain⟨aa,ai⟩:=h;unfold mv;rw [Bool.and_eq_true,hW,alG];refine⟨?_,λi hi=>?_⟩
 ·show(!((decide (a<0)||decide (a<a))||decide (1099511627776<a)))=true
  rw [decide_eq_false (show¬ a<0 by omega),decide_eq_false (show¬ a<a by omega),decide_eq_false (show¬ 1099511627776<a by omega)];rfl
 ·obtain⟨⟨aT,a2⟩,a3⟩:=aa i hi;have a4:=ai i hi;rw [Bool.and_eq_true,Bool.and_eq_true];refine⟨⟨by rw [Jq hi];exact aT,?_⟩,?_⟩
  ·cases i with
   |zero=>simp
   |succ i=>
    rw [PZ i (by omega)]at a3 ⊢
    rw [Jq (show i<A.length by omega),Jq hi]
    exact a3
  ·rw [Jq hi];show tB ⟨(A.getD i default).Key,[⟨a,(A.getD i default).b0⟩]⟩ a a=true
   generalize A.getD i default=p at a2 a4
   unfold tB;rw [Bool.and_eq_true,hW];refine⟨?_,λk hk=>?_⟩
   ·show(!(false||decide (p.b0.Kind=0)))=true
    rw [Bool.false_or];exact a4
   ·obtain rfl:k=0:=by
     have:k<1:=hk
     omega
    have e:wa ⟨p.Key,[⟨a,p.b0⟩]⟩ a a 0=(((!decide (a<a) && !decide (a<a))&&lw p.b0)&&true):=by
     unfold wa;rw [show decide (0<((0:Nat):Int))=false from decide_eq_false (by omega),Bool.false_and];rfl
    rw [e,a2,decide_eq_false (anP a)];rfl
abbrev lz(r:bP):bP:=⟨r.Pos,iQ (fY r.aA.Rows) r.Pos,r.cc,r.cQ,r.Place,r.be,r.Queue,r.de⟩
def alI{l:List Row}{p:bI}(h:p∈fY l):p.b0.Kind≠0:=by
 obtain⟨r,_,e,k⟩:=Dw _ _ h;rw [e];exact k
def QL{r:bP}(hs:hN r=true)(hp:r4 (ht r))(ab:(fY r.aA.Rows).length≤1000000000):hN (lz r)=true:=by
 unfold hN at hs ⊢;simp only [Bool.and_eq_true,decide_eq_true_eq]at hs ⊢;obtain⟨⟨⟨⟨⟨⟨⟨⟨Z,aa⟩,ai⟩,ay⟩,aJ⟩,bE⟩,cz⟩,dh⟩,eH⟩:=hs;exact⟨⟨⟨⟨⟨⟨⟨⟨Z,aa⟩,alH hp.l6.2 Z aa ab⟩,rfl⟩,aJ⟩,bE⟩,cz⟩,dh⟩,eH⟩
def QM{n:Nat}(hn:2000≤n){r:bP}(h:wi n r)(hp:r4 (ht r))(ab:(fY r.aA.Rows).length<n):wi n (lz r):=
 ⟨ajV hn ab hp.l6.1.2 r.Pos,h.Dr,h.l6,h.wj,h.oL,h.pl,h.Ds,h.aC,h.kh,h.pM,h.wk⟩
def alJ{n:Nat}(hn:3000000≤n)(l:List bd)(ab:l.length≤1000)(h:∀p∈l,oK p)(hs:∀p∈l,hr p≠[]∧(hr p).length≤16384):yo n (l.map hr)=some (l,true):=by
 have key:∀(m i:Nat),l.length<i+m→i≤l.length→yn n (l.map hr) m (i:Int) (l.take i)=some (l,true):=by
  intro m;induction m with
  |zero=>intro i Z aa;omega
  |succ m aG=>
   intro i Z aa;have Zd:(l.map hr).length=l.length:=List.length_map ..;by_cases hi:i<l.length
   ·have hx:=IU (l:=l) hi;have g1:=h _ hx;obtain⟨g2,g3⟩:=hs _ hx
    have g4:(l.map hr).getD i default=hr (l.getD i default):=by
     simp only [List.getD_eq_getElem?_getD,List.getElem?_map,List.getElem?_eq_getElem hi,Option.map_some,Option.getD_some]
    have an:oy (l.getD i default)=0:=by
     by_cases e:oy (l.getD i default)=0
     ·exact e
     ·exact absurd (show hr (l.getD i default)=[]by unfold hr;rw [if_neg e]) g2
    have g5:hr (l.getD i default)=lu (l.getD i default):=by unfold hr;rw [if_pos an]
    have e1:Cd n (hr (l.getD i default))=some (l.getD i default,0,0):=by
     rw [g5];exact aif g1.i an hn g1.f g1.b (by rw [←g5];exact g3)
    have f6:room ((l.take i).length+1) 64=true:=lx (by rw [List.length_take];omega)
    simp only [yn,GV,anL,Zd,hi,anC,anE,b4 hi,aX,anK,g4,e1,ak,anN,f6,bD (show i≤4611686018427387904 by omega),anQ,anG,anH,anF,Qg g1 hn]
    have:=aG (i+1) (by omega) (by omega)
    rw [show l.take (i+1)=l.take i++[l.getD i default]by rw [List.take_add,fJ l i default hi,List.take_succ_cons,List.take_zero]]at this
    exact this
   ·obtain rfl:i=l.length:=by omega
    simp only [yn,GV,NC,Zd,anP,anD,anF,List.take_length]
 unfold yo;exact key n 0 (by omega) (by omega)
section
variable {n:Nat} (hn:3000000≤n) (aQ:n≤1000000000) {r:bP} (aN:zD r) (hi:tJ r)
include hn aQ aN hi
theorem alK(hs:hN r=true):yo n (r.cc.map hr)=some (r.cc,true):=by
 have hsh:=aN.b3 hi hn;have nr:=aN.pl;refine alJ hn _ (by omega) (nh λi _=>hsh.l6 i) (nh (P:=λp:bd=>hr p≠[]∧(hr p).length≤16384) λi ab=>?_)
 unfold hN zz at hs;simp only [Bool.and_eq_true,decide_eq_true_eq,hW]at hs;have:=(hs.1.1.1.1.2.1 i ab).1
 simp only [Bool.not_eq_true',Bool.or_eq_false_iff,decide_eq_false_iff_not]at this;exact⟨this.1,by omega⟩
theorem QN(hs:hN r=true):Ce n (gX (ht r))=some (lz r,0):=by
 have hsh:=aN.b3 hi hn;have Jo:=aN.zE;have vL:=wo r.aA.Rows;obtain⟨hp,ab⟩:=Jn hn aQ aN hi hs;have pd:=QL hs hp (by omega)
 have zH:=QM (n:=n) (by omega) hsh hp (by omega)
 have alL:yo n (ht r).2.2.1=some (r.cc,true):=alK hn aQ aN hi hs;have nC:=hs;unfold hN at nC;simp only [Bool.and_eq_true,decide_eq_true_eq]at nC;obtain⟨⟨⟨⟨⟨⟨⟨⟨Z,aa⟩,ai⟩,ay⟩,aJ⟩,bE⟩,cz⟩,dh⟩,eH⟩:=nC
 have hd:Jc (gX (ht r)) = .ok (ht r,[]):=by
  have:=ajD.rt (ht r) [] hp
  rwa [List.append_nil]at this
 have ah:=ajT hn aQ (s:=gX (ht r)) (by omega)
 rw [hd]at ah;simp only at ah
 have e1:bg (gX (ht r)) []=(((gX (ht r)).length:Nat):Int):=(ajX (List.nil_suffix)).2 rfl
 have alM:yq n (ht r).2.1 (ht r).1=some (iQ (fY r.aA.Rows) r.Pos,0):=by
  show yq n (fY r.aA.Rows) r.Pos=_
  rw [ai3 (l:=fY r.aA.Rows) (by omega) aQ (by omega) (X3 hp.l6.1.2)]
  unfold P5;rw [show nU (fY r.aA.Rows)=true from hp.l6.2,decide_eq_false (show¬ r.Pos<0 by omega),decide_eq_false (show¬ 1099511627776<r.Pos by omega)];rfl
 unfold Ce;rw [ah,ak];simp only [anC,anG,anF,eS,e1];rw [decide_eq_false (show¬ (ht r).1<0 from show¬ r.Pos<0 by omega),decide_eq_false (show¬ 1099511627776<(ht r).1 from show¬ 1099511627776<r.Pos by omega)]
 simp only [Bool.or_self,anF];rw [alL,ak];simp only [anG,anF];rw [alM,ak];simp only [anC,anG,anF];refine(congrArg (λx=>Option.bind x _) (Dt hn aQ zH)).trans ?_
 rw [pd];rfl
end
def wx(r:bP):bP×Int:=bif !hN r then(Yr,1) else(lz r,0)
section
variable {n:Nat} (hn:3000000≤n) (aQ:n≤1000000000) {r:bP} (aN:zD r) (hi:tJ r)
include hn aQ aN hi
theorem alN:vA n r=some (wx r):=by
 have hsh:=aN.b3 hi hn;unfold vA wx;rw [Dt hn aQ hsh,ak];cases hs:hN r
 ·rfl
 ·simp only [anG,anF];rw [QK hn aQ aN hi hs,ak,QN hn aQ aN hi hs];rfl
theorem QO(hs:hN r=true):rx n (lz r)=some (gX (ht r)):=by
 have hsh:=aN.b3 hi hn;have Jo:=aN.zE;have nr:=aN.pl;have vL:=wo r.aA.Rows;obtain⟨hp,ab⟩:=Jn hn aQ aN hi hs;have pd:=QL hs hp (by omega)
 have zH:=QM (n:=n) (by omega) hsh hp (by omega)
 have ai:mv (lz r).aA=true:=by
  unfold hN at pd;simp only [Bool.and_eq_true,decide_eq_true_eq]at pd;exact pd.1.1.1.1.1.1.2
 have nC:=hs;unfold hN Dq at nC;simp only [Bool.and_eq_true,decide_eq_true_eq,hW]at nC;obtain⟨⟨⟨⟨⟨⟨⟨⟨Z,aa⟩,_⟩,ay⟩,aJ⟩,bE⟩,cz⟩,dh⟩,eH,gi⟩:=nC
 exact Yy (r:=lz r) (A:=fY r.aA.Rows) hn aQ hp ab (nh λi _=>hsh.l6 i) (by show r.cc.length≤1000;omega)
  (aj4 (by omega) (by omega) (by omega) (λi ab=>alI (IU ab)) (by rw [show iQ (fY r.aA.Rows) r.Pos=(lz r).aA from rfl,P4 (by omega) aQ zH.st,ai]))
  (by show rv n r.cQ=some true;rw [IT (by omega) aQ hsh.wj hsh.oL,bE]) (nh (P:=λq:Request=>nG n q=some 0) λi ab=>by rw [IR (by omega) aQ (hsh.wk i),eH i ab])
theorem alO(hs:hN r=true):wi n (lz r)∧qj n (lz r)=some true∧vA n (lz r)=some (lz r,0):=by
 have hsh:=aN.b3 hi hn;have Jo:=aN.zE;have vL:=wo r.aA.Rows;obtain⟨hp,ab⟩:=Jn hn aQ aN hi hs;have pd:=QL hs hp (by omega)
 have zH:=QM (n:=n) (by omega) hsh hp (by omega)
 have e1:qj n (lz r)=some true:=by rw [Dt hn aQ zH,pd]
 refine⟨zH,e1,?_⟩
 unfold vA;rw [e1,ak];simp only [anG,anF];rw [QO hn aQ aN hi hs,ak,QN hn aQ aN hi hs];rfl
end
def alP{r:bP}(h:(encA r).2=0):(gX (ht r)).length≤16384:=by
 unfold encA at h;cases hs:hN r
 ·rw [hs]at h;exact absurd h (by simp)
 ·rw [hs]at h;simp only [anG,anF]at h;by_cases ab:16384<(((gX (ht r)).length:Nat):Int)
  ·rw [decide_eq_true ab]at h;exact absurd h (by simp)
  ·omega
def alQ{r:bP}(h:(encA r).2≠0):(encA r).1=[]∧((encA r).2=2∨(encA r).2=(wx r).2):=by
 unfold encA wx at *;cases hs:hN r
 ·exact⟨rfl,Or.inr rfl⟩
 ·rw [hs]at h;simp only [anG,anF]at h ⊢;by_cases ab:16384<(((gX (ht r)).length:Nat):Int)
  ·rw [decide_eq_true ab];exact⟨rfl,Or.inl rfl⟩
  ·rw [decide_eq_false ab]at h;exact absurd rfl h
def alR(r:bP)(hi:tJ r):On 10000000 r=some true:=by
 unfold On
 (try simp only [wh])
 rcases ako (n:=10000000) (by omega) r hi.Y9.2 with h|⟨aN,h⟩
 ·simp only [h,ak,anH,anG,anE,anF,Je]
 ·rw [h,ak,alN (by omega) (by omega) aN hi,ak,alE (by omega) (by omega) aN hi,ak]
  simp only [anG,anF];by_cases e:(encA r).2=0
  ·obtain⟨hs,aC⟩:=alF e;have ab:=alP e;obtain⟨f1,f2,f3⟩:=alO (n:=10000000) (by omega) (by omega) aN hi hs
   have alS:wx r=(lz r,0):=by unfold wx;rw [hs];rfl
   have K1:Cf 10000000 (gX (ht r))=some (lz r,0):=by
    unfold Cf;simp only [fq,show¬ 16384<(gX (ht r)).length by omega,anD,anF]
    rw [QN (by omega) (by omega) aN hi hs];rfl
   have bH:sM 10000000 (lz r)=some (gX (ht r),0):=by
    unfold sM;rw [f2,ak];simp only [anG,anF];rw [QO (by omega) (by omega) aN hi hs,ak]
    simp only [fq,show¬ 16384<(gX (ht r)).length by omega,anD,anF]
   have wq:yr 10000000 r (lz r)=some true:=by
    unfold yr
    (try simp only [wh])
    rw [Dt (by omega) (by omega) (aN.b3 hi (by omega)),hs,f2,QK (by omega) (by omega) aN hi hs,QO (by omega) (by omega) aN hi hs]
    simp only [ak,anE,anC]
   have al:=ajC (n:=10000000) (by omega) (by omega) f1
   simp only [e,anC,anG,anF,aC,alS];rw [K1,ak]
   (try simp only [wh])
   rw [f3,ak,bH,ak];simp only [anC,anE];rw [al,ak];simp only [anE,ak];rw [wq,ak];simp only [anE,Je,ak]
  ·obtain⟨Z,aa⟩:=alQ e;simp only [e,anD,anH,anE,Z,anC];rcases aa with aa|aa
   ·simp only [aa,anC,anE,Je,ak]
   ·simp only [aa,anC];cases decide ((wx r).2=2)<;>simp only [anE,anF,Je,ak]
end Go.Ab.Y

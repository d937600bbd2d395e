/- The plain law: what the functions compute answers as the statement says. -/
import Derived.Test.YtcjbfnojhpfchaaGreatDoorPlainB
set_option linter.all false
namespace Go.Ab.Y
open Go Go.Ab Go.Proofs
def Ym{α:Type}:∀(l:List α),l.length=4→∃a b c d,l=[a,b,c,d]
 |[a,b,c,d],_=>⟨a,b,c,d,rfl⟩
 |[],h=>by simp at h
 |[_],h=>by simp at h
 |[_,_],h=>by simp at h
 |[_,_,_],h=>by simp at h
 |_::_::_::_::_::_,h=>by simp at h
section
variable {H:Type} {enc:TypeId×Value→H} {W:World}
theorem O8:Tryz.prog.cellsOf 165=4:=by kernel_rfl
theorem nY:Tryz.prog.cellsOf 3=1:=by kernel_rfl
theorem o5:Tryz.prog.cellsOf 2=1:=by kernel_rfl
theorem nZ:Tryz.prog.cellsOf 9=1:=by kernel_rfl
theorem ai_:Tryz.prog.cellsOf 163=1:=by kernel_rfl
theorem Yn:∀l:List Expr,(∀i,i<l.length→lx (l.getD i default))→xd l
 |[],h=>trivial
 |x::l,h=>⟨h 0 (by simp),Yn l λi hi=>by have:=h (i+1) (by simpa using hi);simpa using this⟩
theorem Yo:∀(fuel:Nat) (cs:List Value) (x:DataW H×List MemPlace),DataW.trod enc Tryz.prog W 0 (λ_=>true) true fuel 165 cs=some x→∃e:Expr,lx e∧fK W cs (bT e).cells:=by
 intro fuel;induction fuel using Nat.strongRecOn with
 |_ fuel a7=>
  intro cs x h;obtain⟨xs,n,hn,_,af,gt,ba⟩:=DataW.trod_struct Tryz.underlying165 h;rw [O8]at af;obtain⟨c0,c1,c2,c3,rfl⟩:=Ym cs af;obtain⟨fj,fc,gu,k1,rfl⟩:=Ym xs gt;have h0:DataW.trod enc Tryz.prog W 0 (λ_=>true) true n 3 (List.take (Tryz.prog.cellsOf 3) [c0,c1,c2,c3])=some fj:=ba 0 _ rfl
  have Z:DataW.trod enc Tryz.prog W 0 (λ_=>true) true n 2 (List.take (Tryz.prog.cellsOf 2) [c1,c2,c3])=some fc:=ba 1 _ rfl
  have ae:DataW.trod enc Tryz.prog W 0 (λ_=>true) true n 9 (List.take (Tryz.prog.cellsOf 9) [c2,c3])=some gu:=ba 2 _ rfl
  have ar:DataW.trod enc Tryz.prog W 0 (λ_=>true) true n 163 (List.take (Tryz.prog.cellsOf 163) [c3])=some k1:=ba 3 _ rfl
  rw [nY]at h0;rw [o5]at Z;rw [nZ]at ae;rw [ai_]at ar;obtain⟨Op,_,dt⟩:=ia (k:=.i64) Tryz.underlying3 h0;obtain⟨N,bz,ah⟩:=ia (k:=.i64) Tryz.underlying2 Z;obtain⟨S,Bw,ao⟩:=nC Tryz.underlying9 ae;obtain⟨A,ec,eK,aE⟩:=kY (encA:=bT) (ok:=lx) Tryz.underlying163 O8 (by omega) ar (λm cs' fH hm hx=>a7 m (by omega) cs' fH hx)
  refine⟨⟨Op,N,S,A⟩,⟨bz.2,Bw,ec,Yn A eK⟩,?_⟩
  have:=((dt.app ah).app ao).app aE
  exact this.CJ (yH ⟨Op,N,S,A⟩)
end
def aja{α:Type}(l:List α)(h:l.length=13):∃a b c d e f g i j k m n o,l=[a,b,c,d,e,f,g,i,j,k,m,n,o]:=by
 match l,h with
 |[a,b,c,d,e,f,g,i,j,k,m,n,o],_=>exact⟨a,b,c,d,e,f,g,i,j,k,m,n,o,rfl⟩
def ajb{α:Type}(l:List α)(h:l.length=7):∃a b c d e f g,l=[a,b,c,d,e,f,g]:=by
 match l,h with
 |[a,b,c,d,e,f,g],_=>exact⟨a,b,c,d,e,f,g,rfl⟩
def Yp{α:Type}(l:List α)(h:l.length=3):∃a b c,l=[a,b,c]:=by
 match l,h with
 |[a,b,c],_=>exact⟨a,b,c,rfl⟩
def Yq{α:Type}(l:List α)(h:l.length=2):∃a b,l=[a,b]:=by
 match l,h with
 |[a,b],_=>exact⟨a,b,rfl⟩
section
variable {H:Type} {enc:TypeId×Value→H} {W:World}
theorem GM:Tryz.prog.cellsOf 167=13:=by kernel_rfl
theorem Yr:Tryz.prog.cellsOf 109=2:=by kernel_rfl
theorem Ys:Tryz.prog.cellsOf 52=3:=by kernel_rfl
theorem Yt:Tryz.prog.cellsOf 50=1:=by kernel_rfl
theorem ajc:Tryz.prog.cellsOf 49=1:=by kernel_rfl
theorem GN:∀l:List Stmt,(∀i,i<l.length→pT (l.getD i default))→pU l
 |[],h=>trivial
 |x::l,h=>⟨h 0 (by simp),GN l λi hi=>by have:=h (i+1) (by simpa using hi);simpa using this⟩
theorem ajd:∀(fuel:Nat) (cs:List Value) (x:DataW H×List MemPlace),DataW.trod enc Tryz.prog W 0 (λ_=>true) true fuel 167 cs=some x→∃s:Stmt,pT s∧fK W cs (bO s).cells:=by
 intro fuel;induction fuel using Nat.strongRecOn with
 |_ fuel a7=>
  intro cs x h;obtain⟨xs,n,hn,_,af,gt,ba⟩:=DataW.trod_struct Tryz.underlying167 h;rw [GM]at af;obtain⟨c0,c1,c2,c3,c4,c5,kn,jQ,n0,c9,mF,xu,c12,rfl⟩:=aja cs af;obtain⟨fj,fc,gu,k1,e9,kf,oD,rfl⟩:=ajb xs gt;have h0:DataW.trod enc Tryz.prog W 0 (λ_=>true) true n 3 (List.take (Tryz.prog.cellsOf 3) [c0,c1,c2,c3,c4,c5,kn,jQ,n0,c9,mF,xu,c12])=some fj:=ba 0 _ rfl
  have Z:DataW.trod enc Tryz.prog W 0 (λ_=>true) true n 9 (List.take (Tryz.prog.cellsOf 9) [c1,c2,c3,c4,c5,kn,jQ,n0,c9,mF,xu,c12])=some fc:=ba 1 _ rfl
  have ae:DataW.trod enc Tryz.prog W 0 (λ_=>true) true n 3 (List.take (Tryz.prog.cellsOf 3) [c2,c3,c4,c5,kn,jQ,n0,c9,mF,xu,c12])=some gu:=ba 2 _ rfl
  have ar:DataW.trod enc Tryz.prog W 0 (λ_=>true) true n 165 (List.take (Tryz.prog.cellsOf 165) [c3,c4,c5,kn,jQ,n0,c9,mF,xu,c12])=some k1:=ba 3 _ rfl
  have aK:DataW.trod enc Tryz.prog W 0 (λ_=>true) true n 165 (List.take (Tryz.prog.cellsOf 165) [jQ,n0,c9,mF,xu,c12])=some e9:=ba 4 _ rfl
  have bc:DataW.trod enc Tryz.prog W 0 (λ_=>true) true n 50 (List.take (Tryz.prog.cellsOf 50) [xu,c12])=some kf:=ba 5 _ rfl
  have b2:DataW.trod enc Tryz.prog W 0 (λ_=>true) true n 50 (List.take (Tryz.prog.cellsOf 50) [c12])=some oD:=ba 6 _ rfl
  rw [nY]at h0 ae;rw [nZ]at Z;rw [O8]at ar aK;rw [Yt]at bc b2;obtain⟨Op,_,dt⟩:=ia (k:=.i64) Tryz.underlying3 h0;obtain⟨Nm,bz,ah⟩:=nC Tryz.underlying9 Z;obtain⟨Yu,cM,ao⟩:=ia (k:=.i64) Tryz.underlying3 ae;obtain⟨A,ec,aE⟩:=Yo n _ _ ar;obtain⟨B,ci,bp⟩:=Yo n _ _ aK;obtain⟨al,alo,O9,bV⟩:=kY (encA:=bO) (ok:=pT) Tryz.underlying50 GM (by omega) bc (λm cs' fH hm hx=>a7 m (by omega) cs' fH hx)
  obtain⟨O',alp,O_,bL⟩:=kY (encA:=bO) (ok:=pT) Tryz.underlying50 GM (by omega) b2 (λm cs' fH hm hx=>a7 m (by omega) cs' fH hx)
  refine⟨⟨Op,Nm,Yu,A,B,al,O'⟩,⟨cM,bz,ec,ci,GN al O9,GN O' O_⟩,?_⟩
  have:=(((((dt.app ah).app ao).app (aE.CJ (IW A))).app (bp.CJ (IW B))).app bV).app bL
  exact this.CJ (R' ⟨Op,Nm,Yu,A,B,al,O'⟩)
theorem aje(fuel:Nat)(cs:List Value)(x:DataW H×List MemPlace)(h:DataW.trod enc Tryz.prog W 0 (λ_=>true) true fuel 109 cs=some x):∃p:Param,p.Name.length≤9223372036854775807∧fK W cs (dR p).cells:=by
 obtain⟨xs,n,hn,_,af,gt,ba⟩:=DataW.trod_struct Tryz.underlying109 h;rw [Yr]at af;obtain⟨c0,c1,rfl⟩:=Yq cs af;obtain⟨fj,fc,rfl⟩:=Yq xs gt;have h0:DataW.trod enc Tryz.prog W 0 (λ_=>true) true n 9 (List.take (Tryz.prog.cellsOf 9) [c0,c1])=some fj:=ba 0 _ rfl
 have Z:DataW.trod enc Tryz.prog W 0 (λ_=>true) true n 3 (List.take (Tryz.prog.cellsOf 3) [c1])=some fc:=ba 1 _ rfl
 rw [nZ]at h0;rw [nY]at Z;obtain⟨Nm,bz,dt⟩:=nC Tryz.underlying9 h0;obtain⟨ajf,_,ah⟩:=ia (k:=.i64) Tryz.underlying3 Z;exact⟨⟨Nm,ajf⟩,bz,dt.app ah⟩
theorem ajg(fuel:Nat)(cs:List Value)(x:DataW H×List MemPlace)(h:DataW.trod enc Tryz.prog W 0 (λ_=>true) true fuel 52 cs=some x):∃p:be,pV p∧fK W cs (dN p).cells:=by
 obtain⟨xs,n,hn,_,af,gt,ba⟩:=DataW.trod_struct Tryz.underlying52 h;rw [Ys]at af;obtain⟨c0,c1,c2,rfl⟩:=Yp cs af;obtain⟨fj,fc,gu,rfl⟩:=Yp xs gt;have h0:DataW.trod enc Tryz.prog W 0 (λ_=>true) true n 9 (List.take (Tryz.prog.cellsOf 9) [c0,c1,c2])=some fj:=ba 0 _ rfl
 have Z:DataW.trod enc Tryz.prog W 0 (λ_=>true) true n 49 (List.take (Tryz.prog.cellsOf 49) [c1,c2])=some fc:=ba 1 _ rfl
 have ae:DataW.trod enc Tryz.prog W 0 (λ_=>true) true n 50 (List.take (Tryz.prog.cellsOf 50) [c2])=some gu:=ba 2 _ rfl
 rw [nZ]at h0;rw [ajc]at Z;rw [Yt]at ae;obtain⟨Nm,bz,dt⟩:=nC Tryz.underlying9 h0;obtain⟨ajh,j',O9,ah⟩:=kY (encA:=dR) (ok:=λp:Param=>p.Name.length≤9223372036854775807) Tryz.underlying49 Yr (by omega) Z (λm cs' fH hm hx=>aje m cs' fH hx)
 obtain⟨al,ci,O_,ao⟩:=kY (encA:=bO) (ok:=pT) Tryz.underlying50 GM (by omega) ae (λm cs' fH hm hx=>ajd m cs' fH hx)
 exact⟨⟨Nm,ajh,al⟩,⟨bz,j',O9,GN al O_⟩,(dt.app ah).app ao⟩
end
def uC{α:Type}(l:List α)(h:l.length=2):∃a0 aY,l=[a0,aY]:=by
 match l,h with
 |[a0,aY],_=>exact⟨a0,aY,rfl⟩
def o6{α:Type}(l:List α)(h:l.length=3):∃a0 aY a2,l=[a0,aY,a2]:=by
 match l,h with
 |[a0,aY,a2],_=>exact⟨a0,aY,a2,rfl⟩
def aji{α:Type}(l:List α)(h:l.length=4):∃a0 aY a2 a3,l=[a0,aY,a2,a3]:=by
 match l,h with
 |[a0,aY,a2,a3],_=>exact⟨a0,aY,a2,a3,rfl⟩
def Pa{α:Type}(l:List α)(h:l.length=5):∃a0 aY a2 a3 a4,l=[a0,aY,a2,a3,a4]:=by
 match l,h with
 |[a0,aY,a2,a3,a4],_=>exact⟨a0,aY,a2,a3,a4,rfl⟩
def ajj{α:Type}(l:List α)(h:l.length=6):∃a0 aY a2 a3 a4 a5,l=[a0,aY,a2,a3,a4,a5]:=by
 match l,h with
 |[a0,aY,a2,a3,a4,a5],_=>exact⟨a0,aY,a2,a3,a4,a5,rfl⟩
def Yv{α:Type}(l:List α)(h:l.length=8):∃a0 aY a2 a3 a4 a5 oX uD,l=[a0,aY,a2,a3,a4,a5,oX,uD]:=by
 match l,h with
 |[a0,aY,a2,a3,a4,a5,oX,uD],_=>exact⟨a0,aY,a2,a3,a4,a5,oX,uD,rfl⟩
def ajk{α:Type}(l:List α)(h:l.length=11):∃a0 aY a2 a3 a4 a5 oX uD Pb a9 Pc,l=[a0,aY,a2,a3,a4,a5,oX,uD,Pb,a9,Pc]:=by
 match l,h with
 |[a0,aY,a2,a3,a4,a5,oX,uD,Pb,a9,Pc],_=>exact⟨a0,aY,a2,a3,a4,a5,oX,uD,Pb,a9,Pc,rfl⟩
section
variable {H:Type} {enc:TypeId×Value→H} {W:World}
theorem Yw:Tryz.prog.cellsOf 4=1:=by kernel_rfl
theorem ajl:Tryz.prog.cellsOf 22=1:=by kernel_rfl
theorem Yx:Tryz.prog.cellsOf 24=3:=by kernel_rfl
theorem ajm:Tryz.prog.cellsOf 25=1:=by kernel_rfl
theorem ajn:Tryz.prog.cellsOf 26=1:=by kernel_rfl
theorem ajo:Tryz.prog.cellsOf 27=1:=by kernel_rfl
theorem Yy:Tryz.prog.cellsOf 29=2:=by kernel_rfl
theorem ajp:Tryz.prog.cellsOf 30=1:=by kernel_rfl
theorem ajq:Tryz.prog.cellsOf 31=1:=by kernel_rfl
theorem ajr:Tryz.prog.cellsOf 32=1:=by kernel_rfl
theorem ajs:Tryz.prog.cellsOf 34=11:=by kernel_rfl
theorem Yz:Tryz.prog.cellsOf 54=1:=by kernel_rfl
theorem YA:Tryz.prog.cellsOf 55=1:=by kernel_rfl
theorem YB:Tryz.prog.cellsOf 57=3:=by kernel_rfl
theorem YC:Tryz.prog.cellsOf 59=8:=by kernel_rfl
theorem YD:Tryz.prog.cellsOf 61=5:=by kernel_rfl
theorem GO:Tryz.prog.cellsOf 63=3:=by kernel_rfl
theorem YE:Tryz.prog.cellsOf 65=4:=by kernel_rfl
theorem ajt:Tryz.prog.cellsOf 66=1:=by kernel_rfl
theorem YF:Tryz.prog.cellsOf 68=2:=by kernel_rfl
theorem aju:Tryz.prog.cellsOf 99=1:=by kernel_rfl
theorem YG:Tryz.prog.cellsOf 101=3:=by kernel_rfl
theorem YH:Tryz.prog.cellsOf 103=3:=by kernel_rfl
theorem YI:Tryz.prog.cellsOf 105=5:=by kernel_rfl
theorem YJ:Tryz.prog.cellsOf 107=2:=by kernel_rfl
structure uE(x:bw):Prop where
 alq:eX x.Kind
 YK:eX x.N
 alr:x.S.length≤9223372036854775807
theorem Pd(fuel:Nat)(cs:List Value)(x:DataW H×List MemPlace)(h:DataW.trod enc Tryz.prog W 0 (λ_=>true) true fuel 63 cs=some x):∃p:bw,uE p∧fK W cs (dy p).cells:=by
 obtain⟨xs,n,hn,_,af,gt,ba⟩:=DataW.trod_struct Tryz.underlying63 h;rw [GO]at af;obtain⟨c0,c1,c2,rfl⟩:=o6 cs af;obtain⟨fj,fc,gu,rfl⟩:=o6 xs gt;have h0:DataW.trod enc Tryz.prog W 0 (λ_=>true) true n 3 (List.take (Tryz.prog.cellsOf 3) [c0,c1,c2])=some fj:=ba 0 _ rfl
 rw [nY]at h0;obtain⟨v0,e0,dt⟩:=ia (k:=.i64) Tryz.underlying3 h0;have Z:DataW.trod enc Tryz.prog W 0 (λ_=>true) true n 2 (List.take (Tryz.prog.cellsOf 2) [c1,c2])=some fc:=ba 1 _ rfl
 rw [o5]at Z;obtain⟨v1,cN,ah⟩:=ia (k:=.i64) Tryz.underlying2 Z;have ae:DataW.trod enc Tryz.prog W 0 (λ_=>true) true n 9 (List.take (Tryz.prog.cellsOf 9) [c2])=some gu:=ba 2 _ rfl
 rw [nZ]at ae;obtain⟨v2,aj,ao⟩:=nC Tryz.underlying9 ae;exact⟨⟨v0,v1,v2⟩,⟨⟨e0.1,e0.2⟩,⟨cN.1,cN.2⟩,aj⟩,((dt.app ah).app ao)⟩
structure Pe(x:Version):Prop where
 als:eX x.fe
 ajv:uE x.b7
theorem ajw(fuel:Nat)(cs:List Value)(x:DataW H×List MemPlace)(h:DataW.trod enc Tryz.prog W 0 (λ_=>true) true fuel 65 cs=some x):∃p:Version,Pe p∧fK W cs (hC p).cells:=by
 obtain⟨xs,n,hn,_,af,gt,ba⟩:=DataW.trod_struct Tryz.underlying65 h;rw [YE]at af;obtain⟨c0,c1,c2,c3,rfl⟩:=aji cs af;obtain⟨fj,fc,rfl⟩:=uC xs gt;have h0:DataW.trod enc Tryz.prog W 0 (λ_=>true) true n 2 (List.take (Tryz.prog.cellsOf 2) [c0,c1,c2,c3])=some fj:=ba 0 _ rfl
 rw [o5]at h0;obtain⟨v0,e0,dt⟩:=ia (k:=.i64) Tryz.underlying2 h0;have Z:DataW.trod enc Tryz.prog W 0 (λ_=>true) true n 63 (List.take (Tryz.prog.cellsOf 63) [c1,c2,c3])=some fc:=ba 1 _ rfl
 rw [GO]at Z;obtain⟨v1,cN,ah⟩:=Pd n _ _ Z;exact⟨⟨v0,v1⟩,⟨⟨e0.1,e0.2⟩,cN⟩,(dt.app ah)⟩
structure Pf(x:Row):Prop where
 ajx:x.Key.length≤9223372036854775807
 ajy:x.bl.length≤9223372036854775807∧∀i,i<x.bl.length→Pe (x.bl.getD i default)
theorem ajz(fuel:Nat)(cs:List Value)(x:DataW H×List MemPlace)(h:DataW.trod enc Tryz.prog W 0 (λ_=>true) true fuel 68 cs=some x):∃p:Row,Pf p∧fK W cs (cQ p).cells:=by
 obtain⟨xs,n,hn,_,af,gt,ba⟩:=DataW.trod_struct Tryz.underlying68 h;rw [YF]at af;obtain⟨c0,c1,rfl⟩:=uC cs af;obtain⟨fj,fc,rfl⟩:=uC xs gt;have h0:DataW.trod enc Tryz.prog W 0 (λ_=>true) true n 9 (List.take (Tryz.prog.cellsOf 9) [c0,c1])=some fj:=ba 0 _ rfl
 rw [nZ]at h0;obtain⟨v0,e0,dt⟩:=nC Tryz.underlying9 h0;have Z:DataW.trod enc Tryz.prog W 0 (λ_=>true) true n 66 (List.take (Tryz.prog.cellsOf 66) [c1])=some fc:=ba 1 _ rfl
 rw [ajt]at Z;obtain⟨v1,cN,g1,ah⟩:=kY (encA:=hC) (ok:=Pe) Tryz.underlying66 YE (by omega) Z (λm cs' fH hm hx=>ajw m cs' fH hx)
 exact⟨⟨v0,v1⟩,⟨e0,⟨cN,g1⟩⟩,(dt.app ah)⟩
structure Pg(x:aG):Prop where
 alt:eX x.cq
 alu:eX x.b0
 ajA:x.Rows.length≤9223372036854775807∧∀i,i<x.Rows.length→Pf (x.Rows.getD i default)
theorem ajB(fuel:Nat)(cs:List Value)(x:DataW H×List MemPlace)(h:DataW.trod enc Tryz.prog W 0 (λ_=>true) true fuel 24 cs=some x):∃p:aG,Pg p∧fK W cs (acm p).cells:=by
 obtain⟨xs,n,hn,_,af,gt,ba⟩:=DataW.trod_struct Tryz.underlying24 h;rw [Yx]at af;obtain⟨c0,c1,c2,rfl⟩:=o6 cs af;obtain⟨fj,fc,gu,rfl⟩:=o6 xs gt;have h0:DataW.trod enc Tryz.prog W 0 (λ_=>true) true n 2 (List.take (Tryz.prog.cellsOf 2) [c0,c1,c2])=some fj:=ba 0 _ rfl
 rw [o5]at h0;obtain⟨v0,e0,dt⟩:=ia (k:=.i64) Tryz.underlying2 h0;have Z:DataW.trod enc Tryz.prog W 0 (λ_=>true) true n 2 (List.take (Tryz.prog.cellsOf 2) [c1,c2])=some fc:=ba 1 _ rfl
 rw [o5]at Z;obtain⟨v1,cN,ah⟩:=ia (k:=.i64) Tryz.underlying2 Z;have ae:DataW.trod enc Tryz.prog W 0 (λ_=>true) true n 22 (List.take (Tryz.prog.cellsOf 22) [c2])=some gu:=ba 2 _ rfl
 rw [ajl]at ae;obtain⟨v2,aj,g2,ao⟩:=kY (encA:=cQ) (ok:=Pf) Tryz.underlying22 YF (by omega) ae (λm cs' fH hm hx=>ajz m cs' fH hx)
 exact⟨⟨v0,v1,v2⟩,⟨⟨e0.1,e0.2⟩,⟨cN.1,cN.2⟩,⟨aj,g2⟩⟩,((dt.app ah).app ao)⟩
structure Ph(x:Outcome):Prop where
 alv:eX x.Status
 alw:eX x.Code
 ajC:x.Out.length≤9223372036854775807∧∀i,i<x.Out.length→uE (x.Out.getD i default)
theorem ajD(fuel:Nat)(cs:List Value)(x:DataW H×List MemPlace)(h:DataW.trod enc Tryz.prog W 0 (λ_=>true) true fuel 103 cs=some x):∃p:Outcome,Ph p∧fK W cs (aco p).cells:=by
 obtain⟨xs,n,hn,_,af,gt,ba⟩:=DataW.trod_struct Tryz.underlying103 h;rw [YH]at af;obtain⟨c0,c1,c2,rfl⟩:=o6 cs af;obtain⟨fj,fc,gu,rfl⟩:=o6 xs gt;have h0:DataW.trod enc Tryz.prog W 0 (λ_=>true) true n 3 (List.take (Tryz.prog.cellsOf 3) [c0,c1,c2])=some fj:=ba 0 _ rfl
 rw [nY]at h0;obtain⟨v0,e0,dt⟩:=ia (k:=.i64) Tryz.underlying3 h0;have Z:DataW.trod enc Tryz.prog W 0 (λ_=>true) true n 3 (List.take (Tryz.prog.cellsOf 3) [c1,c2])=some fc:=ba 1 _ rfl
 rw [nY]at Z;obtain⟨v1,cN,ah⟩:=ia (k:=.i64) Tryz.underlying3 Z;have ae:DataW.trod enc Tryz.prog W 0 (λ_=>true) true n 54 (List.take (Tryz.prog.cellsOf 54) [c2])=some gu:=ba 2 _ rfl
 rw [Yz]at ae;obtain⟨v2,aj,g2,ao⟩:=kY (encA:=dy) (ok:=uE) Tryz.underlying54 GO (by omega) ae (λm cs' fH hm hx=>Pd m cs' fH hx)
 exact⟨⟨v0,v1,v2⟩,⟨⟨e0.1,e0.2⟩,⟨cN.1,cN.2⟩,⟨aj,g2⟩⟩,((dt.app ah).app ao)⟩
structure Pi(x:es):Prop where
 YL:eX x.Client
 ajE:eX x.Seq
 ajF:Ph x.Outcome
theorem ajG(fuel:Nat)(cs:List Value)(x:DataW H×List MemPlace)(h:DataW.trod enc Tryz.prog W 0 (λ_=>true) true fuel 105 cs=some x):∃p:es,Pi p∧fK W cs (hD p).cells:=by
 obtain⟨xs,n,hn,_,af,gt,ba⟩:=DataW.trod_struct Tryz.underlying105 h;rw [YI]at af;obtain⟨c0,c1,c2,c3,c4,rfl⟩:=Pa cs af;obtain⟨fj,fc,gu,rfl⟩:=o6 xs gt;have h0:DataW.trod enc Tryz.prog W 0 (λ_=>true) true n 3 (List.take (Tryz.prog.cellsOf 3) [c0,c1,c2,c3,c4])=some fj:=ba 0 _ rfl
 rw [nY]at h0;obtain⟨v0,e0,dt⟩:=ia (k:=.i64) Tryz.underlying3 h0;have Z:DataW.trod enc Tryz.prog W 0 (λ_=>true) true n 2 (List.take (Tryz.prog.cellsOf 2) [c1,c2,c3,c4])=some fc:=ba 1 _ rfl
 rw [o5]at Z;obtain⟨v1,cN,ah⟩:=ia (k:=.i64) Tryz.underlying2 Z;have ae:DataW.trod enc Tryz.prog W 0 (λ_=>true) true n 103 (List.take (Tryz.prog.cellsOf 103) [c2,c3,c4])=some gu:=ba 2 _ rfl
 rw [YH]at ae;obtain⟨v2,aj,ao⟩:=ajD n _ _ ae;exact⟨⟨v0,v1,v2⟩,⟨⟨e0.1,e0.2⟩,⟨cN.1,cN.2⟩,aj⟩,((dt.app ah).app ao)⟩
structure GP(x:bI):Prop where
 YL:eX x.Client
 alx:eX x.Next
 ajH:x.bG.length≤9223372036854775807∧∀i,i<x.bG.length→Pi (x.bG.getD i default)
theorem ajI(fuel:Nat)(cs:List Value)(x:DataW H×List MemPlace)(h:DataW.trod enc Tryz.prog W 0 (λ_=>true) true fuel 101 cs=some x):∃p:bI,GP p∧fK W cs (c6 p).cells:=by
 obtain⟨xs,n,hn,_,af,gt,ba⟩:=DataW.trod_struct Tryz.underlying101 h;rw [YG]at af;obtain⟨c0,c1,c2,rfl⟩:=o6 cs af;obtain⟨fj,fc,gu,rfl⟩:=o6 xs gt;have h0:DataW.trod enc Tryz.prog W 0 (λ_=>true) true n 3 (List.take (Tryz.prog.cellsOf 3) [c0,c1,c2])=some fj:=ba 0 _ rfl
 rw [nY]at h0;obtain⟨v0,e0,dt⟩:=ia (k:=.i64) Tryz.underlying3 h0;have Z:DataW.trod enc Tryz.prog W 0 (λ_=>true) true n 2 (List.take (Tryz.prog.cellsOf 2) [c1,c2])=some fc:=ba 1 _ rfl
 rw [o5]at Z;obtain⟨v1,cN,ah⟩:=ia (k:=.i64) Tryz.underlying2 Z;have ae:DataW.trod enc Tryz.prog W 0 (λ_=>true) true n 99 (List.take (Tryz.prog.cellsOf 99) [c2])=some gu:=ba 2 _ rfl
 rw [aju]at ae;obtain⟨v2,aj,g2,ao⟩:=kY (encA:=hD) (ok:=Pi) Tryz.underlying99 YI (by omega) ae (λm cs' fH hm hx=>ajG m cs' fH hx)
 exact⟨⟨v0,v1,v2⟩,⟨⟨e0.1,e0.2⟩,⟨cN.1,cN.2⟩,⟨aj,g2⟩⟩,((dt.app ah).app ao)⟩
structure Pj(x:Part):Prop where
 ajJ:eX x.Id
 aly:x.dS.length≤9223372036854775807
 ajK:eX x.Node
 ajL:eX x.ff
 alz:x.gd.length≤9223372036854775807
theorem ajM(fuel:Nat)(cs:List Value)(x:DataW H×List MemPlace)(h:DataW.trod enc Tryz.prog W 0 (λ_=>true) true fuel 61 cs=some x):∃p:Part,Pj p∧fK W cs (cI p).cells:=by
 obtain⟨xs,n,hn,_,af,gt,ba⟩:=DataW.trod_struct Tryz.underlying61 h;rw [YD]at af;obtain⟨c0,c1,c2,c3,c4,rfl⟩:=Pa cs af;obtain⟨fj,fc,gu,k1,e9,rfl⟩:=Pa xs gt;have h0:DataW.trod enc Tryz.prog W 0 (λ_=>true) true n 3 (List.take (Tryz.prog.cellsOf 3) [c0,c1,c2,c3,c4])=some fj:=ba 0 _ rfl
 rw [nY]at h0;obtain⟨v0,e0,dt⟩:=ia (k:=.i64) Tryz.underlying3 h0;have Z:DataW.trod enc Tryz.prog W 0 (λ_=>true) true n 9 (List.take (Tryz.prog.cellsOf 9) [c1,c2,c3,c4])=some fc:=ba 1 _ rfl
 rw [nZ]at Z;obtain⟨v1,cN,ah⟩:=nC Tryz.underlying9 Z;have ae:DataW.trod enc Tryz.prog W 0 (λ_=>true) true n 3 (List.take (Tryz.prog.cellsOf 3) [c2,c3,c4])=some gu:=ba 2 _ rfl
 rw [nY]at ae;obtain⟨v2,aj,ao⟩:=ia (k:=.i64) Tryz.underlying3 ae;have ar:DataW.trod enc Tryz.prog W 0 (λ_=>true) true n 3 (List.take (Tryz.prog.cellsOf 3) [c3,c4])=some k1:=ba 3 _ rfl
 rw [nY]at ar;obtain⟨v3,ee,aE⟩:=ia (k:=.i64) Tryz.underlying3 ar;have aK:DataW.trod enc Tryz.prog W 0 (λ_=>true) true n 9 (List.take (Tryz.prog.cellsOf 9) [c4])=some e9:=ba 4 _ rfl
 rw [nZ]at aK;obtain⟨v4,dx,bp⟩:=nC Tryz.underlying9 aK;exact⟨⟨v0,v1,v2,v3,v4⟩,⟨⟨e0.1,e0.2⟩,cN,⟨aj.1,aj.2⟩,⟨ee.1,ee.2⟩,dx⟩,((((dt.app ah).app ao).app aE).app bp)⟩
structure Pk(x:cd):Prop where
 ajN:eX x.Version
 ajO:x.aD.length≤9223372036854775807∧∀i,i<x.aD.length→Pj (x.aD.getD i default)
theorem ajP(fuel:Nat)(cs:List Value)(x:DataW H×List MemPlace)(h:DataW.trod enc Tryz.prog W 0 (λ_=>true) true fuel 29 cs=some x):∃p:cd,Pk p∧fK W cs (acp p).cells:=by
 obtain⟨xs,n,hn,_,af,gt,ba⟩:=DataW.trod_struct Tryz.underlying29 h;rw [Yy]at af;obtain⟨c0,c1,rfl⟩:=uC cs af;obtain⟨fj,fc,rfl⟩:=uC xs gt;have h0:DataW.trod enc Tryz.prog W 0 (λ_=>true) true n 2 (List.take (Tryz.prog.cellsOf 2) [c0,c1])=some fj:=ba 0 _ rfl
 rw [o5]at h0;obtain⟨v0,e0,dt⟩:=ia (k:=.i64) Tryz.underlying2 h0;have Z:DataW.trod enc Tryz.prog W 0 (λ_=>true) true n 27 (List.take (Tryz.prog.cellsOf 27) [c1])=some fc:=ba 1 _ rfl
 rw [ajo]at Z;obtain⟨v1,cN,g1,ah⟩:=kY (encA:=cI) (ok:=Pj) Tryz.underlying27 YD (by omega) Z (λm cs' fH hm hx=>ajM m cs' fH hx)
 exact⟨⟨v0,v1⟩,⟨⟨e0.1,e0.2⟩,⟨cN,g1⟩⟩,(dt.app ah)⟩
structure GQ(x:bj):Prop where
 ajx:x.Key.length≤9223372036854775807
 ajQ:eX x.Count
theorem ajR(fuel:Nat)(cs:List Value)(x:DataW H×List MemPlace)(h:DataW.trod enc Tryz.prog W 0 (λ_=>true) true fuel 107 cs=some x):∃p:bj,GQ p∧fK W cs (dA p).cells:=by
 obtain⟨xs,n,hn,_,af,gt,ba⟩:=DataW.trod_struct Tryz.underlying107 h;rw [YJ]at af;obtain⟨c0,c1,rfl⟩:=uC cs af;obtain⟨fj,fc,rfl⟩:=uC xs gt;have h0:DataW.trod enc Tryz.prog W 0 (λ_=>true) true n 9 (List.take (Tryz.prog.cellsOf 9) [c0,c1])=some fj:=ba 0 _ rfl
 rw [nZ]at h0;obtain⟨v0,e0,dt⟩:=nC Tryz.underlying9 h0;have Z:DataW.trod enc Tryz.prog W 0 (λ_=>true) true n 2 (List.take (Tryz.prog.cellsOf 2) [c1])=some fc:=ba 1 _ rfl
 rw [o5]at Z;obtain⟨v1,cN,ah⟩:=ia (k:=.i64) Tryz.underlying2 Z;exact⟨⟨v0,v1⟩,⟨e0,⟨cN.1,cN.2⟩⟩,(dt.app ah)⟩
structure YM(x:eP):Prop where
 alA:True
 alB:x.Reads.length≤9223372036854775807∧∀i,i<x.Reads.length→(x.Reads.getD i default).length≤9223372036854775807
 alC:x.b_.length≤9223372036854775807∧∀i,i<x.b_.length→(x.b_.getD i default).length≤9223372036854775807
theorem ajS(fuel:Nat)(cs:List Value)(x:DataW H×List MemPlace)(h:DataW.trod enc Tryz.prog W 0 (λ_=>true) true fuel 57 cs=some x):∃p:eP,YM p∧fK W cs (acq p).cells:=by
 obtain⟨xs,n,hn,_,af,gt,ba⟩:=DataW.trod_struct Tryz.underlying57 h;rw [YB]at af;obtain⟨c0,c1,c2,rfl⟩:=o6 cs af;obtain⟨fj,fc,gu,rfl⟩:=o6 xs gt;have h0:DataW.trod enc Tryz.prog W 0 (λ_=>true) true n 4 (List.take (Tryz.prog.cellsOf 4) [c0,c1,c2])=some fj:=ba 0 _ rfl
 rw [Yw]at h0;obtain⟨v0,dt⟩:=RP Tryz.underlying4 h0;have Z:DataW.trod enc Tryz.prog W 0 (λ_=>true) true n 55 (List.take (Tryz.prog.cellsOf 55) [c1,c2])=some fc:=ba 1 _ rfl
 rw [YA]at Z;obtain⟨v1,cN,g1,ah⟩:=kY (encA:=bv) (ok:=λs:al5=>s.length≤9223372036854775807) Tryz.underlying55 nZ (by omega) Z (λm cs' fH hm hx=>nC Tryz.underlying9 hx)
 have ae:DataW.trod enc Tryz.prog W 0 (λ_=>true) true n 55 (List.take (Tryz.prog.cellsOf 55) [c2])=some gu:=ba 2 _ rfl
 rw [YA]at ae;obtain⟨v2,aj,g2,ao⟩:=kY (encA:=bv) (ok:=λs:al5=>s.length≤9223372036854775807) Tryz.underlying55 nZ (by omega) ae (λm cs' fH hm hx=>nC Tryz.underlying9 hx)
 exact⟨⟨v0,v1,v2⟩,⟨trivial,⟨cN,g1⟩,⟨aj,g2⟩⟩,((dt.app ah).app ao)⟩
structure GR(x:Request):Prop where
 YL:eX x.Client
 ajE:eX x.Seq
 alD:x.be.length≤9223372036854775807
 fArgs:x.au.length≤9223372036854775807∧∀i,i<x.au.length→uE (x.au.getD i default)
 alE:True
 alF:YM x.bi
theorem ajT(fuel:Nat)(cs:List Value)(x:DataW H×List MemPlace)(h:DataW.trod enc Tryz.prog W 0 (λ_=>true) true fuel 59 cs=some x):∃p:Request,GR p∧fK W cs (dT p).cells:=by
 obtain⟨xs,n,hn,_,af,gt,ba⟩:=DataW.trod_struct Tryz.underlying59 h;rw [YC]at af;obtain⟨c0,c1,c2,c3,c4,c5,kn,jQ,rfl⟩:=Yv cs af;obtain⟨fj,fc,gu,k1,e9,kf,rfl⟩:=ajj xs gt;have h0:DataW.trod enc Tryz.prog W 0 (λ_=>true) true n 3 (List.take (Tryz.prog.cellsOf 3) [c0,c1,c2,c3,c4,c5,kn,jQ])=some fj:=ba 0 _ rfl
 rw [nY]at h0;obtain⟨v0,e0,dt⟩:=ia (k:=.i64) Tryz.underlying3 h0;have Z:DataW.trod enc Tryz.prog W 0 (λ_=>true) true n 2 (List.take (Tryz.prog.cellsOf 2) [c1,c2,c3,c4,c5,kn,jQ])=some fc:=ba 1 _ rfl
 rw [o5]at Z;obtain⟨v1,cN,ah⟩:=ia (k:=.i64) Tryz.underlying2 Z;have ae:DataW.trod enc Tryz.prog W 0 (λ_=>true) true n 9 (List.take (Tryz.prog.cellsOf 9) [c2,c3,c4,c5,kn,jQ])=some gu:=ba 2 _ rfl
 rw [nZ]at ae;obtain⟨v2,aj,ao⟩:=nC Tryz.underlying9 ae;have ar:DataW.trod enc Tryz.prog W 0 (λ_=>true) true n 54 (List.take (Tryz.prog.cellsOf 54) [c3,c4,c5,kn,jQ])=some k1:=ba 3 _ rfl
 rw [Yz]at ar;obtain⟨v3,ee,g3,aE⟩:=kY (encA:=dy) (ok:=uE) Tryz.underlying54 GO (by omega) ar (λm cs' fH hm hx=>Pd m cs' fH hx)
 have aK:DataW.trod enc Tryz.prog W 0 (λ_=>true) true n 4 (List.take (Tryz.prog.cellsOf 4) [c4,c5,kn,jQ])=some e9:=ba 4 _ rfl
 rw [Yw]at aK;obtain⟨v4,bp⟩:=RP Tryz.underlying4 aK;have bc:DataW.trod enc Tryz.prog W 0 (λ_=>true) true n 57 (List.take (Tryz.prog.cellsOf 57) [c5,kn,jQ])=some kf:=ba 5 _ rfl
 rw [YB]at bc;obtain⟨v5,wi,bV⟩:=ajS n _ _ bc;exact⟨⟨v0,v1,v2,v3,v4,v5⟩,⟨⟨e0.1,e0.2⟩,⟨cN.1,cN.2⟩,aj,⟨ee,g3⟩,trivial,wi⟩,(((((dt.app ah).app ao).app aE).app bp).app bV)⟩
structure xv(x:cb):Prop where
 ajU:eX x.Pos
 ajV:Pg x.aG
 YN:x.cf.length≤9223372036854775807∧∀i,i<x.cf.length→pV (x.cf.getD i default)
 ajW:x.cR.length≤9223372036854775807∧∀i,i<x.cR.length→GP (x.cR.getD i default)
 YO:Pk x.Place
 ajX:x.bj.length≤9223372036854775807∧∀i,i<x.bj.length→GQ (x.bj.getD i default)
 ajY:x.Queue.length≤9223372036854775807∧∀i,i<x.Queue.length→GR (x.Queue.getD i default)
 ajZ:iS x.dj
theorem aj0(fuel:Nat)(cs:List Value)(x:DataW H×List MemPlace)(h:DataW.trod enc Tryz.prog W 0 (λ_=>true) true fuel 34 cs=some x):∃p:cb,xv p∧fK W cs (R_ p).cells:=by
 obtain⟨xs,n,hn,_,af,gt,ba⟩:=DataW.trod_struct Tryz.underlying34 h;rw [ajs]at af;obtain⟨c0,c1,c2,c3,c4,c5,kn,jQ,n0,c9,mF,rfl⟩:=ajk cs af;obtain⟨fj,fc,gu,k1,e9,kf,oD,zr,rfl⟩:=Yv xs gt;have h0:DataW.trod enc Tryz.prog W 0 (λ_=>true) true n 2 (List.take (Tryz.prog.cellsOf 2) [c0,c1,c2,c3,c4,c5,kn,jQ,n0,c9,mF])=some fj:=ba 0 _ rfl
 rw [o5]at h0;obtain⟨v0,e0,dt⟩:=ia (k:=.i64) Tryz.underlying2 h0;have Z:DataW.trod enc Tryz.prog W 0 (λ_=>true) true n 24 (List.take (Tryz.prog.cellsOf 24) [c1,c2,c3,c4,c5,kn,jQ,n0,c9,mF])=some fc:=ba 1 _ rfl
 rw [Yx]at Z;obtain⟨v1,cN,ah⟩:=ajB n _ _ Z;have ae:DataW.trod enc Tryz.prog W 0 (λ_=>true) true n 25 (List.take (Tryz.prog.cellsOf 25) [c4,c5,kn,jQ,n0,c9,mF])=some gu:=ba 2 _ rfl
 rw [ajm]at ae;obtain⟨v2,aj,g2,ao⟩:=kY (encA:=dN) (ok:=pV) Tryz.underlying25 Ys (by omega) ae (λm cs' fH hm hx=>ajg m cs' fH hx)
 have ar:DataW.trod enc Tryz.prog W 0 (λ_=>true) true n 26 (List.take (Tryz.prog.cellsOf 26) [c5,kn,jQ,n0,c9,mF])=some k1:=ba 3 _ rfl
 rw [ajn]at ar;obtain⟨v3,ee,g3,aE⟩:=kY (encA:=c6) (ok:=GP) Tryz.underlying26 YG (by omega) ar (λm cs' fH hm hx=>ajI m cs' fH hx)
 have aK:DataW.trod enc Tryz.prog W 0 (λ_=>true) true n 29 (List.take (Tryz.prog.cellsOf 29) [kn,jQ,n0,c9,mF])=some e9:=ba 4 _ rfl
 rw [Yy]at aK;obtain⟨v4,dx,bp⟩:=ajP n _ _ aK;have bc:DataW.trod enc Tryz.prog W 0 (λ_=>true) true n 30 (List.take (Tryz.prog.cellsOf 30) [n0,c9,mF])=some kf:=ba 5 _ rfl
 rw [ajp]at bc;obtain⟨v5,wi,g5,bV⟩:=kY (encA:=dA) (ok:=GQ) Tryz.underlying30 YJ (by omega) bc (λm cs' fH hm hx=>ajR m cs' fH hx)
 have b2:DataW.trod enc Tryz.prog W 0 (λ_=>true) true n 31 (List.take (Tryz.prog.cellsOf 31) [c9,mF])=some oD:=ba 6 _ rfl
 rw [ajq]at b2;obtain⟨v6,pF,g6,bL⟩:=kY (encA:=dT) (ok:=GR) Tryz.underlying31 YC (by omega) b2 (λm cs' fH hm hx=>ajT m cs' fH hx)
 have cU:DataW.trod enc Tryz.prog W 0 (λ_=>true) true n 32 (List.take (Tryz.prog.cellsOf 32) [mF])=some zr:=ba 7 _ rfl
 rw [ajr]at cU;obtain⟨bm,YP,cT⟩:=ia (k:=.u64) Tryz.underlying32 cU;exact⟨⟨v0,v1,v2,v3,v4,v5,v6,bm⟩,⟨⟨e0.1,e0.2⟩,cN,⟨aj,g2⟩,⟨ee,g3⟩,dx,⟨wi,g5⟩,⟨pF,g6⟩,⟨YP.1,Int.lt_of_le_of_lt YP.2 (by decide)⟩⟩,(((((((dt.app ah).app ao).app aE).app bp).app bV).app bL).app cT)⟩
end
def ni{α:Type}[Inhabited α]{P:α→Prop}{l:List α}(h:∀i,i<l.length→P (l.getD i default))(h0:P default)(i:Nat):P (l.getD i default):=by
 by_cases hi:i<l.length
 ·exact h i hi
 ·rw [List.getD_eq_getElem?_getD,List.getElem?_eq_none (by omega)];exact h0
def n1{α:Type}[Inhabited α]{P:α→Prop}{l:List α}(h:∀i,i<l.length→P (l.getD i default))(x:α)(hx:x∈l):P x:=by
 obtain⟨i,hi,e⟩:=O6 hx;rw [←e];exact h i hi
def GG.cg{r:cb}(h:GG r)(hi:xv r){n:Nat}(hn:3000000≤n):GD n r where
 st:=⟨by have:=h.GH;omega,λi=>ni (P:=Gx n) (λk hk=>by
  have Z:=h.rs k hk;unfold uB at Z;simp only [Bool.and_eq_true,decide_eq_true_eq,js]at Z;obtain⟨⟨ae,ar⟩,aK⟩:=Z;exact⟨by omega,by omega,λj=>ni (P:=λx:Version=>x.b7.S.length≤1000) (λm hm=>by have:=aK m hm;omega) (by show([]:al5).length≤1000;simp) j⟩) ((X_ (n:=n) (by omega)).st.row 0) i⟩
 GE:=by have:=h.pl;omega
 p3:=λi=>ni (P:=nW) (λk hk=>by
  obtain⟨Z,ae,ar,aK⟩:=h.cy k hk;have bc:=Gi (r.cf.getD k default).Body;exact⟨hi.YN.2 k hk,by omega,by omega,by omega⟩) X7 i
 xm:=by have:=h.kl;omega
 nX:=λi=>ni (P:=qP n) (λk hk=>by
  obtain⟨Z,ae⟩:=h.mX k hk
  exact⟨by omega,λj=>ni (P:=λx:es=>xk n x.Outcome) (λm hm=>by
   obtain⟨ar,aK⟩:=ae m hm;exact⟨by omega,λq=>ni (P:=λx:bw=>x.S.length≤1000) (λm hm=>by have:=aK m hm;omega) (by show([]:al5).length≤1000;simp) q⟩) ((OS (n:=n) (by omega) (l:=[]) (λx hx=>by cases hx) 0).out 0) j⟩) (OS (n:=n) (by omega) (l:=[]) (λx hx=>by cases hx) 0) i
 pl:=by have:=h.GI.pl;omega
 Bs:=λi=>ni (P:=p1) (λk hk=>by obtain⟨a,b⟩:=h.GI.cy k hk;exact⟨by omega,by omega⟩) ((X_ (n:=n) (by omega)).Bs 0) i
 bS:=by have:=h.GI.af;omega
 jV:=λi=>ni (P:=λx:bj=>x.Key.length≤1000) (λk hk=>by have:=h.GI.hs k hk;omega) (by show([]:al5).length≤1000;simp) i
 o3:=by have:=h.Yg;omega
 xn:=λi=>ni (P:=r4 n) (λk hk=>by
  obtain⟨Z,ae,ar,f1,f2,f3,f4⟩:=h.ai1 k hk
  exact⟨by omega,by omega,λj=>ni (P:=λx:bw=>x.S.length≤1000) (λm hm=>by have:=ar m hm;omega) (by show([]:al5).length≤1000;simp) j,by omega,by omega,
   λj=>ni (P:=λx:al5=>x.length≤1000) (λm hm=>by have:=f3 m hm;omega) (by show([]:al5).length≤1000;simp) j,
   λj=>ni (P:=λx:al5=>x.length≤1000) (λm hm=>by have:=f4 m hm;omega) (by show([]:al5).length≤1000;simp) j⟩) (X9 (by omega)) i
def Pl{k:al5}(h:kN k=true):k.length≤24:=by
 unfold kN at h;simp only [Bool.and_eq_true,decide_eq_true_eq]at h;exact h.1.2
def YQ{k:al5}(h:lZ k=true):k.length≤24:=by
 unfold lZ at h;simp only [Bool.and_eq_true,decide_eq_true_eq]at h;exact h.2
def YR{l:List bw}(h:nU l=true)(hi:∀i,i<l.length→uE (l.getD i default)):∀v∈l,r2 v:=by
 unfold nU at h;rw [js]at h;refine n1 λi af=>?_
 have Z:=h i af;rw [Bool.and_eq_true]at Z;exact⟨Z.1,(hi i af).YK⟩
def aj1{o:Outcome}(h:r6 o=true)(hi:Ph o):mD o:=by
 unfold r6 at h;by_cases hs:o.Status=1
 ·simp only [hs,alO,alQ,Bool.and_eq_true,decide_eq_true_eq]at h;obtain⟨⟨Z,ae⟩,ar⟩:=h;exact⟨by omega,by omega,ae,YR ar hi.ajC.2⟩
 ·simp only [hs,alP,alR,Bool.and_eq_true,decide_eq_true_eq]at h;obtain⟨⟨⟨Z,ae⟩,ar⟩,aK⟩:=h;have bc:o.Out=[]:=List.length_eq_zero_iff.1 aK;exact⟨by omega,by omega,by rw [bc];simp,by rw [bc];exact λv ay=>by cases ay⟩
def aj2{s:bI}(h:ux s=true)(hi:GP s):r9 s:=by
 unfold ux at h;simp only [Bool.and_eq_true,Bool.not_eq_true',decide_eq_true_eq,js]at h;obtain⟨⟨Z,ae⟩,ar⟩:=h;obtain⟨aY,a2,a3,a4⟩:=OO Z;have hk:=Bp ⟨a3,a4⟩
 have aK:∀i,i<s.bG.length→((s.bG.getD i default).Client=s.Client∧(s.bG.getD i default).Seq=s.Next-(s.bG.length:Int)+(i:Int))∧r6 (s.bG.getD i default).Outcome=true:=λi af=>by
  have:=ar i af
  unfold xl at this;simp only [Bool.and_eq_true,decide_eq_true_eq]at this;exact this
 refine⟨⟨aY,a2⟩,⟨a3,a4⟩,?_,by rw [List.length_map];omega,?_⟩
 ·refine List.ext_getElem (by simp [OR]) λi g1 g2=>?_
  have bc:=aK i g1;rw [List.getD_eq_getElem?_getD,List.getElem?_eq_getElem g1,Option.getD_some]at bc;simp only [OR,List.getElem_map,List.getElem_zipIdx,Nat.zero_add];rw [wr (x:=lB s.Next-(i:Int)) (by omega) (by omega),wr (x:=s.Next-(lB s.Next-(i:Int))) (by omega) (by omega)]
  generalize s.bG[i]=x at bc
  obtain⟨c,q,o⟩:=x;obtain⟨⟨e1,e2⟩,_⟩:=bc;simp only at e1 e2
  subst e1;rw [e2,ae,show s.Next-lB s.Next+(i:Int)=s.Next-(lB s.Next-(i:Int))by omega]
 ·intro o ax;obtain⟨x,hx,rfl⟩:=List.mem_map.1 ax;exact n1 (P:=λx:es=>mD x.Outcome) (λi af=>aj1 (aK i af).2 (hi.ajH.2 i af).ajF) x hx
def aj3{p:cd}(h:nV p=true)(hi:Pk p):p.aD.length≤16∧∀x∈p.aD,uz x:=by
 unfold nV at h;simp only [Bool.and_eq_true,Bool.not_eq_true',Bool.or_eq_false_iff,decide_eq_false_iff_not,Bool.not_eq_false',decide_eq_true_eq,js]at h;obtain⟨⟨⟨⟨⟨Z,ae⟩,ar⟩,aK⟩,bc⟩,b2⟩:=h;refine⟨by omega,n1 λi af=>?_⟩
 have cU:=b2 i af;have hx:=hi.ajO.2 i af;unfold r5 p0 at cU;simp only [Bool.and_eq_true]at cU;obtain⟨dQ,⟨_,f'⟩,_⟩:=cU;refine⟨hx.ajJ,?_,hx.ajK,hx.ajL,?_⟩
 ·cases i with
  |zero=>rw [bc];simp
  |succ i=>
   rw [show decide (0<((i+1:Nat):Int))=true from decide_eq_true (by omega),alS,Bool.false_or,Bool.and_eq_true]at dQ
   exact YQ dQ.1
 ·by_cases hd:(p.aD.getD i default).ff=0
  ·simp only [hd,alO,alQ,decide_eq_true_eq]at f';rw [f'];simp
  ·simp only [hd,alP,alR,Bool.and_eq_true]at f';exact YQ f'.1.1.2
def aj4{l:List bj}(h:pW l=true)(hi:∀i,i<l.length→GQ (l.getD i default)):l.length≤32∧∀x∈l,x.Key.length≤24∧eX x.Count:=by
 unfold pW at h;simp only [Bool.and_eq_true,decide_eq_true_eq,js]at h;obtain⟨Z,ae⟩:=h;exact⟨by omega,n1 (P:=λx:bj=>x.Key.length≤24∧eX x.Count) λi af=>⟨Pl (Z i af).1.1.1,(hi i af).ajQ⟩⟩
def YS{l:qQ}(h:o0 l=true):∀v∈l,v.length≤24:=by
 unfold o0 at h;rw [js]at h
 exact n1 (P:=λv:al5=>v.length≤24) λi af=>by
  have:=h i af
  rw [Bool.and_eq_true]at this;exact Pl this.1
def aj5{s:al5}(h:gp s=true):s.length≤16:=by obtain⟨_,_,_,_,_,_,h⟩:=N4 h;exact h
def aj6{
 r:Request} (h:pY r=0) (hi:GR r):o2 r∧GB r=true:=by
 have h0:=h;unfold pY at h;cases Z:((decide (r.Client<1)||decide (32<r.Client))||decide (r.Seq<1))||decide (1099511627776<r.Seq)
 ·cases ae:gp r.be
  ·rw [Z,ae]at h;simp at h
  ·cases ar:decide (6<r.au.length)
   ·cases aK:nU r.au
    ·rw [Z,ae,ar,aK]at h;simp at h
    ·cases bc:((!pX r.bi||r.bi.dI)||(!r.dO&&decide (0<r.bi.Reads.length+r.bi.b_.length)))
     ·simp only [Bool.or_eq_false_iff,decide_eq_false_iff_not]at Z ar bc;obtain⟨⟨⟨cS,hz⟩,A8⟩,Gd⟩:=Z;obtain⟨⟨c1,c2⟩,c3⟩:=bc;rw [Bool.not_eq_false']at c1;unfold pX at c1;rw [c2,alR]at c1;simp only [Bool.and_eq_true,decide_eq_true_eq]at c1;obtain⟨⟨d1,d2⟩,d3,d4⟩:=c1;refine⟨⟨⟨by omega,by omega⟩,⟨by omega,by omega⟩,aj5 ae,⟨by omega,YR aK hi.fArgs.2⟩,?_,c2⟩,?_⟩
      ·unfold GA;cases hd:r.dO
       ·rw [hd]at c3;simp only [alT,Bool.true_and,decide_eq_false_iff_not]at c3;rw [if_neg (by simp)]
        rw [List.length_eq_zero_iff.1 (show r.bi.Reads.length=0 by omega),List.length_eq_zero_iff.1 (show r.bi.b_.length=0 by omega)]
       ·rw [if_pos rfl];exact⟨⟨d2,YS d1⟩,d4,YS d3⟩
      ·unfold GB;rw [h0,decide_eq_true (show r.Client≤32 by omega),decide_eq_true (show r.Seq≤1099511627776 by omega)];rfl
     ·rw [Z,ae,ar,aK,bc]at h;simp at h
   ·rw [Z,ae,ar]at h;simp at h
 ·rw [Z]at h;simp at h
def aj7{s:aG}(hs:l1 s=true)(hi:Pg s)(hb:∀i,i<s.Rows.length→(s.Rows.getD i default).bl.length≤1000000000):∀p∈gr s.Rows,Gz p:=by
 intro p hp;obtain⟨r,ak,e,_⟩:=GJ _ _ hp;obtain⟨j,hj,rfl⟩:=O6 ak;obtain⟨a,b⟩:=Yl hs hb j hj;rw [e];refine⟨Pl a,b,?_⟩
 have Z:=(hi.ajA.2 j hj).ajy.2;exact ni (P:=λv:Version=>eX v.b7.N) (λk hk=>(Z k hk).ajv.YK) (by show eX (0:Int);exact⟨by omega,by omega⟩) _
def aj8{r:cb}(hs:lC r=true)(hi:xv r)(sT:r.aG.Rows.length≤1000000)(hb:∀i,i<r.aG.Rows.length→(r.aG.Rows.getD i default).bl.length≤1000000000)(Bw:r.cR.length≤32):xo (k3 r (gr r.aG.Rows)):=by
 unfold lC at hs;simp only [Bool.and_eq_true,decide_eq_true_eq]at hs;obtain⟨⟨⟨⟨⟨⟨⟨⟨Z,ae⟩,ar⟩,aK⟩,bc⟩,b2⟩,cU⟩,dQ⟩,f'⟩:=hs;have nq:=GL r.aG.Rows;refine⟨hi.ajU,⟨⟨by show(gr r.aG.Rows).length≤_;omega,aj7 ar hi.ajV hb⟩,ai8 ar sT hb⟩,?_,⟨⟨Bw,?_⟩,b2⟩,⟨⟨hi.YO.ajN,aj3 cU hi.YO⟩,cU⟩,aj4 dQ hi.ajX.2,?_,hi.ajZ⟩
 ·unfold r' at bc;simp only [Bool.and_eq_true,decide_eq_true_eq,js]at bc;obtain⟨kC,aj9⟩:=bc;refine⟨by show(r.cf.map jf).length≤16;rw [List.length_map];exact aj9,λs hs=>?_⟩
  obtain⟨p,hp,rfl⟩:=List.mem_map.1 (show s∈r.cf.map jf from hs)
  refine n1 (P:=λp:be=>(jf p).length≤16384) (λi af=>?_) p hp
  have:=(kC i af).1
  simp only [Bool.not_eq_true',Bool.or_eq_false_iff,decide_eq_false_iff_not]at this;omega
 ·have kC:=b2;unfold o1 at kC;simp only [Bool.and_eq_true,js]at kC;exact n1 (P:=r9) λi af=>aj2 (kC i af).1 (hi.ajW.2 i af)
 ·have kC:=f';unfold uA at kC;simp only [Bool.and_eq_true,decide_eq_true_eq,js]at kC;exact⟨kC.2,n1 (P:=λq:Request=>o2 q∧GB q=true) λi af=>aj6 (kC.1 i af) (hi.ajY.2 i af)⟩
def Pm{α:Type}{E:α→al5}{k:Nat}:∀{l:List α},(∀v∈l,(E v).length≤k)→(gi E l).length≤k*l.length
 |[],_=>by simp [gi]
 |v::l,h=>by
  have Z:=h v (by simp)
  have ae:=Pm (E:=E) (l:=l) λw hw=>h w (by simp [hw])
  rw [uu,alY,alU,Nat.mul_add,Nat.mul_one];omega
def p5{α:Type}{E:α→al5}{k:Nat}(m:Nat){l:List α}(af:l.length≤m)(hm:m<18446744073709551616)(hk:∀v∈l,(E v).length≤k):(cP E l).length≤10+k*m:=by
 have Z:=Pm hk;have ae:=iR (u:=l.length) (by omega)
 have ar:=Nat.mul_le_mul_left k af;unfold cP;rw [alY];omega
def Pn{v:bw}(h:r2 v):(bR v).length≤84:=by
 have Z:=nh h;have ae:=OJ h.2 (by omega)
 omega
def r_{s:al5}{k:Nat}(h:s.length≤k)(hk:k≤1000000):(gh s).length≤k+10:=by
 have:=xh (s:=s) (by omega)
 omega
def aj'{o:Outcome}(h:mD o):(mC o).length≤1374:=by
 obtain⟨Z,ae⟩:=OW h;have aY:=jv Z;have a2:=jv ae;have a3:=p5 (E:=bR) (k:=84) 16 h.2.2.1 (by omega) λv ay=>Pn (h.2.2.2 v ay)
 unfold mC;simp only [alY];omega
def aj_{s:bI}(h:r9 s):(iE s).length≤11012:=by
 obtain⟨Z,ae,ar,aK,bc⟩:=h;have aY:=jv (z:=s.Client) ⟨by omega,by omega⟩
 have a2:=jv (z:=s.Next) ⟨by omega,by omega⟩
 have a3:=Pm (E:=mC) (k:=1374) λo ax=>aj' (bc o ax)
 have a4:=Bp ae;unfold iE;simp only [alY];omega
def aka{x:Part}(h:uz x):(r8 x).length≤98:=by
 obtain⟨Z,ae,ar,aK,bc⟩:=h;have aY:=nf Z;have a2:=nf ar;have a3:=nf aK;have a4:=r_ ae (by omega)
 have a5:=r_ bc (by omega)
 unfold r8;simp only [alY];omega
def akb{r:Request}(h:o2 r):(gA r).length≤5000:=by
 obtain⟨Z,ae,ar,aK,bc,b2⟩:=h;have aY:=jv Z;have a2:=jv ae;have a3:=r_ ar (by omega)
 have a4:=p5 (E:=bR) (k:=84) 6 aK.1 (by omega) λv ay=>Pn (aK.2 v ay)
 have a5:=Bu r.dO
 have oX:(l2 r.dO (r.bi.Reads,r.bi.b_)).length≤4372:=by
  unfold l2 GA at *;cases hd:r.dO
  ·simp
  ·rw [hd]at bc;obtain⟨⟨c1,c2⟩,c3,c4⟩:=bc;have d1:=p5 (E:=gh) (k:=34) 64 c1 (by omega) λv ay=>r_ (c2 v ay) (by omega)
   have d2:=p5 (E:=gh) (k:=34) 64 c3 (by omega) λv ay=>r_ (c4 v ay) (by omega)
   simp only [al3,alY];simp only at d1 d2
   omega
 unfold gA;simp only [alY];omega
def akc{r:cb}{A:List bE}(hp:xo (k3 r A))(ec:A.length≤100)(Bw:r.cR.length≤10)(d_:r.Queue.length≤64):(ju (k3 r A)).length≤800000:=by
 have cS:(lX r.Pos).length≤10:=nf hp.pos
 have hz:=p5 (E:=jt) (k:=118) 100 ec (by omega) λp h=>by
  obtain⟨c1,c2⟩:=hp.p3.1.2 p h;have d1:=r_ c1 (by omega)
  have d2:=Pn c2;unfold jt;rw [alY];omega
 have A8:=p5 (E:=gh) (k:=16394) 16 hp.src.1 (by omega) λs h=>r_ (hp.src.2 s h) (by omega)
 have Gd:=p5 (E:=iE) (k:=11012) 10 Bw (by omega) λs h=>aj_ (hp.nX.1.2 s h)
 have alG:=p5 (E:=r8) (k:=98) 16 hp.qR.1.2.1 (by omega) λs h=>aka (hp.qR.1.2.2 s h)
 have alH:=p5 (E:=k2) (k:=44) 32 hp.bS.1 (by omega) λx h=>by
  obtain⟨c1,c2⟩:=hp.bS.2 x h;have d1:=r_ c1 (by omega)
  have d2:=nf c2;unfold k2;rw [alY];omega
 have alI:=p5 (E:=gA) (k:=5000) 64 d_ (by omega) λq h=>akb (hp.o3.2 q h).1
 have alJ:=jv hp.OU;have alK:=nf hp.qR.1.1;unfold ju jN;simp only [alY];simp only [k3]at *;omega
abbrev sa(r:cb):Bt:=k3 r (gr r.aG.Rows)
section
variable {n:Nat} (hn:3000000≤n) (bz:n≤1000000000) {r:cb} (ba:GG r) (hi:xv r)
include hn bz ba hi
theorem YT(hs:lC r=true):xo (sa r)∧(ju (sa r)).length≤800000:=by
 have hsh:=ba.cg hi hn;have YU:=ba.GH;have hp:=aj8 hs hi (by omega) (λi af=>by have:=(hsh.st.row i).Gy;omega) (by have:=ba.kl;omega)
 exact⟨hp,akc hp (by have:=GL r.aG.Rows;omega) (by have:=ba.kl;omega) (by have:=ba.Yg;omega)⟩
theorem YV(hs:lC r=true):(∀i,i<r.aG.Rows.length→xr n r.Pos (r.aG.Rows.getD i default))∧r.aG.cq≤r.Pos∧r.Pos≤r.aG.b0:=by
 have hsh:=ba.cg hi hn;unfold lC at hs;simp only [Bool.and_eq_true,decide_eq_true_eq]at hs;obtain⟨⟨⟨⟨⟨⟨⟨⟨Z,ae⟩,ar⟩,aK⟩,bc⟩,b2⟩,cU⟩,dQ⟩,f'⟩:=hs;have xw:=Yh (n:=n) ar (λi af=>by have:=(hsh.st.row i).Gy;exact⟨this,by omega⟩)
 rw [aK]at xw;refine⟨xw,?_⟩
 unfold l1 at ar;simp only [Bool.and_eq_true,Bool.not_eq_true',Bool.or_eq_false_iff,decide_eq_false_iff_not]at ar;obtain⟨⟨⟨aY,a2⟩,a3⟩,_⟩:=ar;omega
theorem akd(hs:lC r=true):tp n r=some (ju (sa r)):=by
 have hsh:=ba.cg hi hn;have YU:=ba.GH;have nq:=ba.pl;obtain⟨hp,af⟩:=YT hn bz ba hi hs;obtain⟨xw,Po,Pp⟩:=YV hn bz ba hi hs;have pu:=hs;unfold lC uA at pu;simp only [Bool.and_eq_true,decide_eq_true_eq,js]at pu;obtain⟨⟨⟨⟨⟨⟨⟨⟨Z,ae⟩,ar⟩,aK⟩,bc⟩,b2⟩,cU⟩,dQ⟩,f',kC⟩:=pu
 exact aiT hn bz hp af (n1 λi _=>hsh.p3 i) (by omega) (ai6 (by omega) (by omega) xw Po Pp (by rw [X0 (by omega) bz hsh.st,ar]))
  (by rw [XT (by omega) bz hsh.xm hsh.nX,b2]) (n1 (P:=λq:Request=>oy n q=some 0) λi af=>by rw [XM (by omega) bz (hsh.xn i),f' i af])
theorem ake(hs:lC r=true):Ag n r=some (ju (sa r)):=by
 have hsh:=ba.cg hi hn;have YU:=ba.GH;have nq:=ba.pl;obtain⟨hp,af⟩:=YT hn bz ba hi hs;obtain⟨xw,Po,Pp⟩:=YV hn bz ba hi hs;have pu:=hs;unfold lC uA at pu;simp only [Bool.and_eq_true,decide_eq_true_eq,js]at pu;obtain⟨⟨⟨⟨⟨⟨⟨⟨Z,ae⟩,ar⟩,aK⟩,bc⟩,b2⟩,cU⟩,dQ⟩,f',kC⟩:=pu
 exact aiR hn bz hp af (n1 λi _=>hsh.p3 i) (by omega) (ai7 (by omega) (by omega) xw Po Pp (by rw [X1 (by omega) bz hsh.st,ar]))
  (by rw [XU (by omega) bz hsh.xm hsh.nX,b2]) (n1 (P:=λq:Request=>pK n q=some 0) λi af=>by rw [XN (by omega) bz (hsh.xn i),f' i af])
def encA(r:cb):al5×Int:=bif !lC r then([],1)else bif decide (16384<(((ju (sa r)).length:Nat):Int)) then([],2) else(ju (sa r),0)
theorem akf:zo n r=some (encA r):=by
 have hsh:=ba.cg hi hn;unfold zo encA;rw [aio hn bz hsh,aC];cases hs:lC r
 ·rfl
 ·simp only [alS,alR];rw [akd hn bz ba hi hs,aC];cases decide (16384<(((ju (sa r)).length:Nat):Int))<;>rfl
theorem akg:Fl n r=some (encA r):=by
 have hsh:=ba.cg hi hn;unfold Fl encA;rw [aiq hn bz hsh,aC];cases hs:lC r
 ·rfl
 ·simp only [alS,alR];rw [ake hn bz ba hi hs,aC];cases decide (16384<(((ju (sa r)).length:Nat):Int))<;>rfl
end
def akh(r:cb)(hi:xv r):Np 10000000 r=some true:=by
 unfold Np
 (try rw [OT])
 rcases ai2 (n:=10000000) (by omega) r hi.YN.2 with h|⟨ba,h⟩
 ·rw [h,aC];simp only [alT,alQ];rw [Ya];rfl
 ·rw [h,aC];simp only [alS,alR];rw [akf (by omega) (by omega) ba hi,akg (by omega) (by omega) ba hi]
  simp only [aC,alO,alQ,Ya]
end Go.Ab.Y

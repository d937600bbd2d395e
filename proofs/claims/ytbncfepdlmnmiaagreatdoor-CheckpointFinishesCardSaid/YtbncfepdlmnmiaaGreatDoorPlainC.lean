/- The plain law: what the functions compute answers as the statement says. -/
import Derived.Test.YtbncfepdlmnmiaaGreatDoorPlainB
set_option linter.all false
namespace Go.Ab.Y
open Go Go.Ab Go.Proofs
def Ro{α:Type}[Inhabited α]{l:List α}{x:α}(h:x∈l):∃i,i<l.length∧l.getD i default=x:=by
 obtain⟨i,hi,e⟩:=List.mem_iff_getElem.1 h;exact⟨i,hi,by rw [List.getD_eq_getElem?_getD,List.getElem?_eq_getElem hi];exact e⟩
def If{α:Type}[Inhabited α](l:List α)(f:α→ap0)(i:Nat)(hi:i<l.length):(l.map f).getD i []=f (l.getD i default):=by
 simp only [List.getD_eq_getElem?_getD,List.getElem?_map,List.getElem?_eq_getElem hi,Option.map_some,Option.getD_some]
def Ig:∀l:List Row,(gG l).length≤l.length
 |[]=>Nat.le_refl _
 |r::l=>by
  have:=Ig l
  unfold gG;split
  ·simp only [apP];omega
  ·simp only [apP];omega
def amW{s:ar}(hs:mo s=true)(ag:s.Rows.length≤1000000)(hb:∀i,i<s.Rows.length→(s.Rows.getD i default).br.length≤1000000000):oo (gG s.Rows)=true:=by
 have hlen:=Ig s.Rows
 have amX:yz (s.Rows.map (·.Key)):=by
  refine abc _ λi hi=>?_
  rw [List.length_map]at hi;have h0:=hs;unfold mo at h0;rw [Bool.and_eq_true,kl]at h0;have Z:=h0.2 (i+1) hi;simp only [Bool.and_eq_true]at Z;have af:=Z.1.2;rw [aaH i (by omega),show decide (0<((i+1:Nat):Int))=true from decide_eq_true (by omega),apN,Bool.false_or]at af
  rw [If s.Rows (·.Key) i (by omega),If s.Rows (·.Key) (i+1) hi]
  exact af
 have amY:=abe _ amX
 have Rp:∀i,i<(gG s.Rows).length→iQ ((gG s.Rows).getD i default).Key=true∧js ((gG s.Rows).getD i default).bo=true∧((gG s.Rows).getD i default).bo.Kind≠0:=λi hi=>by
  have hm:(gG s.Rows).getD i default∈gG s.Rows:=by
   rw [List.getD_eq_getElem?_getD,List.getElem?_eq_getElem hi];exact List.getElem_mem hi
  obtain⟨r,ak,e,hk⟩:=Ie _ _ hm;obtain⟨j,hj,rfl⟩:=Ro ak;obtain⟨a,b⟩:=abf hs hb j hj;rw [e];exact⟨a,b,hk⟩
 unfold oo yp;rw [Bool.and_eq_true,kl,kl];refine⟨λi hi=>?_,λi hi=>by rw [decide_eq_false (Rp i hi).2.2];rfl⟩
 rw [(Rp i hi).1,(Rp i hi).2.1];cases i with
 |zero=>rfl
 |succ i=>
  have:=abd _ i amY (by rw [List.length_map];exact hi)
  rw [If (gG s.Rows) (λx=>x.Key) i (by omega),If (gG s.Rows) (λx=>x.Key) (i+1) hi]at this
  rw [aaH i (by omega),this]
  simp
def abg{α:Type}:∀(l:List α),l.length=4→∃a b c d,l=[a,b,c,d]
 |[a,b,c,d],_=>⟨a,b,c,d,rfl⟩
 |[],h=>by simp at h
 |[_],h=>by simp at h
 |[_,_],h=>by simp at h
 |[_,_,_],h=>by simp at h
 |_::_::_::_::_::_,h=>by simp at h
section
variable {H:Type} {enc:TypeId×Value→H} {W:World}
theorem Rq:Tryz.prog.cellsOf 198=4:=by kernel_rfl
theorem ov:Tryz.prog.cellsOf 3=1:=by kernel_rfl
theorem ow:Tryz.prog.cellsOf 2=1:=by kernel_rfl
theorem mq:Tryz.prog.cellsOf 9=1:=by kernel_rfl
theorem amZ:Tryz.prog.cellsOf 196=1:=by kernel_rfl
theorem abh:∀l:List Expr,(∀i,i<l.length→lQ (l.getD i default))→yh l
 |[],h=>trivial
 |x::l,h=>⟨h 0 (by simp),abh l λi hi=>by have:=h (i+1) (by simpa using hi);simpa using this⟩
theorem abi:∀(fuel:Nat) (cs:List Value) (x:DataW H×List MemPlace),DataW.trod enc Tryz.prog W 0 (λ_=>true) true fuel 198 cs=some x→∃e:Expr,lQ e∧fO W cs (b3 e).cells:=by
 intro fuel;induction fuel using Nat.strongRecOn with
 |_ fuel bc=>
  intro cs x h;obtain⟨xs,n,hn,_,ag,gf,a'⟩:=DataW.trod_struct Tryz.underlying198 h;rw [Rq]at ag;obtain⟨c0,c1,c2,c3,rfl⟩:=abg cs ag;obtain⟨fq,fh,gw,kL,rfl⟩:=abg xs gf;have h0:DataW.trod enc Tryz.prog W 0 (λ_=>true) true n 3 (List.take (Tryz.prog.cellsOf 3) [c0,c1,c2,c3])=some fq:=a' 0 _ rfl
  have Z:DataW.trod enc Tryz.prog W 0 (λ_=>true) true n 2 (List.take (Tryz.prog.cellsOf 2) [c1,c2,c3])=some fh:=a' 1 _ rfl
  have af:DataW.trod enc Tryz.prog W 0 (λ_=>true) true n 9 (List.take (Tryz.prog.cellsOf 9) [c2,c3])=some gw:=a' 2 _ rfl
  have au:DataW.trod enc Tryz.prog W 0 (λ_=>true) true n 196 (List.take (Tryz.prog.cellsOf 196) [c3])=some kL:=a' 3 _ rfl
  rw [ov]at h0;rw [ow]at Z;rw [mq]at af;rw [amZ]at au;obtain⟨Op,_,dy⟩:=h5 (k:=.i64) Tryz.underlying3 h0;obtain⟨N,bB,ah⟩:=h5 (k:=.i64) Tryz.underlying2 Z;obtain⟨S,CB,ao⟩:=l' Tryz.underlying9 af;obtain⟨A,d9,e0,aB⟩:=kA (encA:=b3) (ok:=lQ) Tryz.underlying196 Rq (by omega) au (λm cs' fH hm hx=>bc m (by omega) cs' fH hx)
  refine⟨⟨Op,N,S,A⟩,⟨bB.2,CB,d9,abh A e0⟩,?_⟩
  have:=((dy.app ah).app ao).app aB
  exact this.DY (zI ⟨Op,N,S,A⟩)
end
def am0{α:Type}(l:List α)(h:l.length=13):∃a b c d e f g i j k m n o,l=[a,b,c,d,e,f,g,i,j,k,m,n,o]:=by
 match l,h with
 |[a,b,c,d,e,f,g,i,j,k,m,n,o],_=>exact⟨a,b,c,d,e,f,g,i,j,k,m,n,o,rfl⟩
def am1{α:Type}(l:List α)(h:l.length=7):∃a b c d e f g,l=[a,b,c,d,e,f,g]:=by
 match l,h with
 |[a,b,c,d,e,f,g],_=>exact⟨a,b,c,d,e,f,g,rfl⟩
def abj{α:Type}(l:List α)(h:l.length=3):∃a b c,l=[a,b,c]:=by
 match l,h with
 |[a,b,c],_=>exact⟨a,b,c,rfl⟩
def abk{α:Type}(l:List α)(h:l.length=2):∃a b,l=[a,b]:=by
 match l,h with
 |[a,b],_=>exact⟨a,b,rfl⟩
section
variable {H:Type} {enc:TypeId×Value→H} {W:World}
theorem Ih:Tryz.prog.cellsOf 200=13:=by kernel_rfl
theorem abl:Tryz.prog.cellsOf 143=2:=by kernel_rfl
theorem abm:Tryz.prog.cellsOf 73=3:=by kernel_rfl
theorem abn:Tryz.prog.cellsOf 71=1:=by kernel_rfl
theorem am2:Tryz.prog.cellsOf 70=1:=by kernel_rfl
theorem Ii:∀l:List Stmt,(∀i,i<l.length→qo (l.getD i default))→qp l
 |[],h=>trivial
 |x::l,h=>⟨h 0 (by simp),Ii l λi hi=>by have:=h (i+1) (by simpa using hi);simpa using this⟩
theorem am3:∀(fuel:Nat) (cs:List Value) (x:DataW H×List MemPlace),DataW.trod enc Tryz.prog W 0 (λ_=>true) true fuel 200 cs=some x→∃s:Stmt,qo s∧fO W cs (bY s).cells:=by
 intro fuel;induction fuel using Nat.strongRecOn with
 |_ fuel bc=>
  intro cs x h;obtain⟨xs,n,hn,_,ag,gf,a'⟩:=DataW.trod_struct Tryz.underlying200 h;rw [Ih]at ag;obtain⟨c0,c1,c2,c3,c4,c5,ju,jc,mr,c9,lu,rF,c12,rfl⟩:=am0 cs ag;obtain⟨fq,fh,gw,kL,fk,jH,o4,rfl⟩:=am1 xs gf;have h0:DataW.trod enc Tryz.prog W 0 (λ_=>true) true n 3 (List.take (Tryz.prog.cellsOf 3) [c0,c1,c2,c3,c4,c5,ju,jc,mr,c9,lu,rF,c12])=some fq:=a' 0 _ rfl
  have Z:DataW.trod enc Tryz.prog W 0 (λ_=>true) true n 9 (List.take (Tryz.prog.cellsOf 9) [c1,c2,c3,c4,c5,ju,jc,mr,c9,lu,rF,c12])=some fh:=a' 1 _ rfl
  have af:DataW.trod enc Tryz.prog W 0 (λ_=>true) true n 3 (List.take (Tryz.prog.cellsOf 3) [c2,c3,c4,c5,ju,jc,mr,c9,lu,rF,c12])=some gw:=a' 2 _ rfl
  have au:DataW.trod enc Tryz.prog W 0 (λ_=>true) true n 198 (List.take (Tryz.prog.cellsOf 198) [c3,c4,c5,ju,jc,mr,c9,lu,rF,c12])=some kL:=a' 3 _ rfl
  have aQ:DataW.trod enc Tryz.prog W 0 (λ_=>true) true n 198 (List.take (Tryz.prog.cellsOf 198) [jc,mr,c9,lu,rF,c12])=some fk:=a' 4 _ rfl
  have bj:DataW.trod enc Tryz.prog W 0 (λ_=>true) true n 71 (List.take (Tryz.prog.cellsOf 71) [rF,c12])=some jH:=a' 5 _ rfl
  have cb:DataW.trod enc Tryz.prog W 0 (λ_=>true) true n 71 (List.take (Tryz.prog.cellsOf 71) [c12])=some o4:=a' 6 _ rfl
  rw [ov]at h0 af;rw [mq]at Z;rw [Rq]at au aQ;rw [abn]at bj cb;obtain⟨Op,_,dy⟩:=h5 (k:=.i64) Tryz.underlying3 h0;obtain⟨Nm,bB,ah⟩:=l' Tryz.underlying9 Z;obtain⟨abo,c7,ao⟩:=h5 (k:=.i64) Tryz.underlying3 af;obtain⟨A,d9,aB⟩:=abi n _ _ au;obtain⟨B,cB,aR⟩:=abi n _ _ aQ;obtain⟨aj,apl,Rr,b5⟩:=kA (encA:=bY) (ok:=qo) Tryz.underlying71 Ih (by omega) bj (λm cs' fH hm hx=>bc m (by omega) cs' fH hx)
  obtain⟨Rs,apm,Rt,bh⟩:=kA (encA:=bY) (ok:=qo) Tryz.underlying71 Ih (by omega) cb (λm cs' fH hm hx=>bc m (by omega) cs' fH hx)
  refine⟨⟨Op,Nm,abo,A,B,aj,Rs⟩,⟨c7,bB,d9,cB,Ii aj Rr,Ii Rs Rt⟩,?_⟩
  have:=(((((dy.app ah).app ao).app (aB.DY (KI A))).app (aR.DY (KI B))).app b5).app bh
  exact this.DY (UO ⟨Op,Nm,abo,A,B,aj,Rs⟩)
theorem am4(fuel:Nat)(cs:List Value)(x:DataW H×List MemPlace)(h:DataW.trod enc Tryz.prog W 0 (λ_=>true) true fuel 143 cs=some x):∃p:Param,p.Name.length≤9223372036854775807∧fO W cs (ec p).cells:=by
 obtain⟨xs,n,hn,_,ag,gf,a'⟩:=DataW.trod_struct Tryz.underlying143 h;rw [abl]at ag;obtain⟨c0,c1,rfl⟩:=abk cs ag;obtain⟨fq,fh,rfl⟩:=abk xs gf;have h0:DataW.trod enc Tryz.prog W 0 (λ_=>true) true n 9 (List.take (Tryz.prog.cellsOf 9) [c0,c1])=some fq:=a' 0 _ rfl
 have Z:DataW.trod enc Tryz.prog W 0 (λ_=>true) true n 3 (List.take (Tryz.prog.cellsOf 3) [c1])=some fh:=a' 1 _ rfl
 rw [mq]at h0;rw [ov]at Z;obtain⟨Nm,bB,dy⟩:=l' Tryz.underlying9 h0;obtain⟨am5,_,ah⟩:=h5 (k:=.i64) Tryz.underlying3 Z;exact⟨⟨Nm,am5⟩,bB,dy.app ah⟩
theorem am6(fuel:Nat)(cs:List Value)(x:DataW H×List MemPlace)(h:DataW.trod enc Tryz.prog W 0 (λ_=>true) true fuel 73 cs=some x):∃p:bi,pp p∧fO W cs (cU p).cells:=by
 obtain⟨xs,n,hn,_,ag,gf,a'⟩:=DataW.trod_struct Tryz.underlying73 h;rw [abm]at ag;obtain⟨c0,c1,c2,rfl⟩:=abj cs ag;obtain⟨fq,fh,gw,rfl⟩:=abj xs gf;have h0:DataW.trod enc Tryz.prog W 0 (λ_=>true) true n 9 (List.take (Tryz.prog.cellsOf 9) [c0,c1,c2])=some fq:=a' 0 _ rfl
 have Z:DataW.trod enc Tryz.prog W 0 (λ_=>true) true n 70 (List.take (Tryz.prog.cellsOf 70) [c1,c2])=some fh:=a' 1 _ rfl
 have af:DataW.trod enc Tryz.prog W 0 (λ_=>true) true n 71 (List.take (Tryz.prog.cellsOf 71) [c2])=some gw:=a' 2 _ rfl
 rw [mq]at h0;rw [am2]at Z;rw [abn]at af;obtain⟨Nm,bB,dy⟩:=l' Tryz.underlying9 h0;obtain⟨am7,kx,Rr,ah⟩:=kA (encA:=ec) (ok:=λp:Param=>p.Name.length≤9223372036854775807) Tryz.underlying70 abl (by omega) Z (λm cs' fH hm hx=>am4 m cs' fH hx)
 obtain⟨aj,cB,Rt,ao⟩:=kA (encA:=bY) (ok:=qo) Tryz.underlying71 Ih (by omega) af (λm cs' fH hm hx=>am3 m cs' fH hx)
 exact⟨⟨Nm,am7,aj⟩,⟨bB,kx,Rr,Ii aj Rt⟩,(dy.app ah).app ao⟩
end
def sX{α:Type}(l:List α)(h:l.length=2):∃a0 a7,l=[a0,a7]:=by
 match l,h with
 |[a0,a7],_=>exact⟨a0,a7,rfl⟩
def px{α:Type}(l:List α)(h:l.length=3):∃a0 a7 a2,l=[a0,a7,a2]:=by
 match l,h with
 |[a0,a7,a2],_=>exact⟨a0,a7,a2,rfl⟩
def abp{α:Type}(l:List α)(h:l.length=4):∃a0 a7 a2 a3,l=[a0,a7,a2,a3]:=by
 match l,h with
 |[a0,a7,a2,a3],_=>exact⟨a0,a7,a2,a3,rfl⟩
def Ru{α:Type}(l:List α)(h:l.length=5):∃a0 a7 a2 a3 a4,l=[a0,a7,a2,a3,a4]:=by
 match l,h with
 |[a0,a7,a2,a3,a4],_=>exact⟨a0,a7,a2,a3,a4,rfl⟩
def abq{α:Type}(l:List α)(h:l.length=6):∃a0 a7 a2 a3 a4 a5,l=[a0,a7,a2,a3,a4,a5]:=by
 match l,h with
 |[a0,a7,a2,a3,a4,a5],_=>exact⟨a0,a7,a2,a3,a4,a5,rfl⟩
def abr{α:Type}(l:List α)(h:l.length=8):∃a0 a7 a2 a3 a4 a5 mj py,l=[a0,a7,a2,a3,a4,a5,mj,py]:=by
 match l,h with
 |[a0,a7,a2,a3,a4,a5,mj,py],_=>exact⟨a0,a7,a2,a3,a4,a5,mj,py,rfl⟩
def am8{α:Type}(l:List α)(h:l.length=11):∃a0 a7 a2 a3 a4 a5 mj py vw a9 vx,l=[a0,a7,a2,a3,a4,a5,mj,py,vw,a9,vx]:=by
 match l,h with
 |[a0,a7,a2,a3,a4,a5,mj,py,vw,a9,vx],_=>exact⟨a0,a7,a2,a3,a4,a5,mj,py,vw,a9,vx,rfl⟩
def am9{α:Type}(l:List α)(h:l.length=16):∃a0 a7 a2 a3 a4 a5 mj py vw a9 vx Rv a12 Rw Rx Ry,l=[a0,a7,a2,a3,a4,a5,mj,py,vw,a9,vx,Rv,a12,Rw,Rx,Ry]:=by
 match l,h with
 |[a0,a7,a2,a3,a4,a5,mj,py,vw,a9,vx,Rv,a12,Rw,Rx,Ry],_=>exact⟨a0,a7,a2,a3,a4,a5,mj,py,vw,a9,vx,Rv,a12,Rw,Rx,Ry,rfl⟩
section
variable {H:Type} {enc:TypeId×Value→H} {W:World}
theorem Rz:Tryz.prog.cellsOf 4=1:=by kernel_rfl
theorem am':Tryz.prog.cellsOf 22=1:=by kernel_rfl
theorem abs:Tryz.prog.cellsOf 24=3:=by kernel_rfl
theorem am_:Tryz.prog.cellsOf 25=1:=by kernel_rfl
theorem ana:Tryz.prog.cellsOf 26=1:=by kernel_rfl
theorem anb:Tryz.prog.cellsOf 27=1:=by kernel_rfl
theorem abt:Tryz.prog.cellsOf 29=2:=by kernel_rfl
theorem anc:Tryz.prog.cellsOf 30=1:=by kernel_rfl
theorem ane:Tryz.prog.cellsOf 31=1:=by kernel_rfl
theorem anf:Tryz.prog.cellsOf 32=1:=by kernel_rfl
theorem abu:Tryz.prog.cellsOf 34=11:=by kernel_rfl
theorem ang:Tryz.prog.cellsOf 37=1:=by kernel_rfl
theorem RA:Tryz.prog.cellsOf 38=1:=by kernel_rfl
theorem anh:Tryz.prog.cellsOf 40=16:=by kernel_rfl
theorem ani:Tryz.prog.cellsOf 74=1:=by kernel_rfl
theorem abv:Tryz.prog.cellsOf 76=3:=by kernel_rfl
theorem abw:Tryz.prog.cellsOf 78=1:=by kernel_rfl
theorem abx:Tryz.prog.cellsOf 80=3:=by kernel_rfl
theorem aby:Tryz.prog.cellsOf 82=8:=by kernel_rfl
theorem CC:Tryz.prog.cellsOf 85=3:=by kernel_rfl
theorem abz:Tryz.prog.cellsOf 87=4:=by kernel_rfl
theorem anj:Tryz.prog.cellsOf 90=1:=by kernel_rfl
theorem abA:Tryz.prog.cellsOf 92=2:=by kernel_rfl
theorem abB:Tryz.prog.cellsOf 138=4:=by kernel_rfl
theorem abC:Tryz.prog.cellsOf 148=5:=by kernel_rfl
theorem abD:Tryz.prog.cellsOf 179=2:=by kernel_rfl
theorem abE:Tryz.prog.cellsOf 230=3:=by kernel_rfl
theorem abF:Tryz.prog.cellsOf 232=5:=by kernel_rfl
structure sY(x:bG):Prop where
 apn:e5 x.Kind
 abG:e5 x.N
 CD:x.S.length≤9223372036854775807
theorem Ij(fuel:Nat)(cs:List Value)(x:DataW H×List MemPlace)(h:DataW.trod enc Tryz.prog W 0 (λ_=>true) true fuel 85 cs=some x):∃p:bG,sY p∧fO W cs (dN p).cells:=by
 obtain⟨xs,n,hn,_,ag,gf,a'⟩:=DataW.trod_struct Tryz.underlying85 h;rw [CC]at ag;obtain⟨c0,c1,c2,rfl⟩:=px cs ag;obtain⟨fq,fh,gw,rfl⟩:=px xs gf;have h0:DataW.trod enc Tryz.prog W 0 (λ_=>true) true n 3 (List.take (Tryz.prog.cellsOf 3) [c0,c1,c2])=some fq:=a' 0 _ rfl
 rw [ov]at h0;obtain⟨v0,eT,dy⟩:=h5 (k:=.i64) Tryz.underlying3 h0;have Z:DataW.trod enc Tryz.prog W 0 (λ_=>true) true n 2 (List.take (Tryz.prog.cellsOf 2) [c1,c2])=some fh:=a' 1 _ rfl
 rw [ow]at Z;obtain⟨v1,cS,ah⟩:=h5 (k:=.i64) Tryz.underlying2 Z;have af:DataW.trod enc Tryz.prog W 0 (λ_=>true) true n 9 (List.take (Tryz.prog.cellsOf 9) [c2])=some gw:=a' 2 _ rfl
 rw [mq]at af;obtain⟨v2,al,ao⟩:=l' Tryz.underlying9 af;exact⟨⟨v0,v1,v2⟩,⟨⟨eT.1,eT.2⟩,⟨cS.1,cS.2⟩,al⟩,((dy.app ah).app ao)⟩
structure RB(x:Version):Prop where
 abH:e5 x.cd
 vy:sY x.bo
theorem ank(fuel:Nat)(cs:List Value)(x:DataW H×List MemPlace)(h:DataW.trod enc Tryz.prog W 0 (λ_=>true) true fuel 138 cs=some x):∃p:Version,RB p∧fO W cs (gb p).cells:=by
 obtain⟨xs,n,hn,_,ag,gf,a'⟩:=DataW.trod_struct Tryz.underlying138 h;rw [abB]at ag;obtain⟨c0,c1,c2,c3,rfl⟩:=abp cs ag;obtain⟨fq,fh,rfl⟩:=sX xs gf;have h0:DataW.trod enc Tryz.prog W 0 (λ_=>true) true n 2 (List.take (Tryz.prog.cellsOf 2) [c0,c1,c2,c3])=some fq:=a' 0 _ rfl
 rw [ow]at h0;obtain⟨v0,eT,dy⟩:=h5 (k:=.i64) Tryz.underlying2 h0;have Z:DataW.trod enc Tryz.prog W 0 (λ_=>true) true n 85 (List.take (Tryz.prog.cellsOf 85) [c1,c2,c3])=some fh:=a' 1 _ rfl
 rw [CC]at Z;obtain⟨v1,cS,ah⟩:=Ij n _ _ Z;exact⟨⟨v0,v1⟩,⟨⟨eT.1,eT.2⟩,cS⟩,(dy.app ah)⟩
structure RC(x:Row):Prop where
 sZ:x.Key.length≤9223372036854775807
 CE:x.br.length≤9223372036854775807∧∀i,i<x.br.length→RB (x.br.getD i default)
theorem anl(fuel:Nat)(cs:List Value)(x:DataW H×List MemPlace)(h:DataW.trod enc Tryz.prog W 0 (λ_=>true) true fuel 92 cs=some x):∃p:Row,RC p∧fO W cs (bJ p).cells:=by
 obtain⟨xs,n,hn,_,ag,gf,a'⟩:=DataW.trod_struct Tryz.underlying92 h;rw [abA]at ag;obtain⟨c0,c1,rfl⟩:=sX cs ag;obtain⟨fq,fh,rfl⟩:=sX xs gf;have h0:DataW.trod enc Tryz.prog W 0 (λ_=>true) true n 9 (List.take (Tryz.prog.cellsOf 9) [c0,c1])=some fq:=a' 0 _ rfl
 rw [mq]at h0;obtain⟨v0,eT,dy⟩:=l' Tryz.underlying9 h0;have Z:DataW.trod enc Tryz.prog W 0 (λ_=>true) true n 90 (List.take (Tryz.prog.cellsOf 90) [c1])=some fh:=a' 1 _ rfl
 rw [anj]at Z;obtain⟨v1,cS,g1,ah⟩:=kA (encA:=gb) (ok:=RB) Tryz.underlying90 abB (by omega) Z (λm cs' fH hm hx=>ank m cs' fH hx)
 exact⟨⟨v0,v1⟩,⟨eT,⟨cS,g1⟩⟩,(dy.app ah)⟩
structure CF(x:ar):Prop where
 apo:e5 x.bw
 apq:e5 x.bq
 RD:x.Rows.length≤9223372036854775807∧∀i,i<x.Rows.length→RC (x.Rows.getD i default)
theorem anm(fuel:Nat)(cs:List Value)(x:DataW H×List MemPlace)(h:DataW.trod enc Tryz.prog W 0 (λ_=>true) true fuel 24 cs=some x):∃p:ar,CF p∧fO W cs (afF p).cells:=by
 obtain⟨xs,n,hn,_,ag,gf,a'⟩:=DataW.trod_struct Tryz.underlying24 h;rw [abs]at ag;obtain⟨c0,c1,c2,rfl⟩:=px cs ag;obtain⟨fq,fh,gw,rfl⟩:=px xs gf;have h0:DataW.trod enc Tryz.prog W 0 (λ_=>true) true n 2 (List.take (Tryz.prog.cellsOf 2) [c0,c1,c2])=some fq:=a' 0 _ rfl
 rw [ow]at h0;obtain⟨v0,eT,dy⟩:=h5 (k:=.i64) Tryz.underlying2 h0;have Z:DataW.trod enc Tryz.prog W 0 (λ_=>true) true n 2 (List.take (Tryz.prog.cellsOf 2) [c1,c2])=some fh:=a' 1 _ rfl
 rw [ow]at Z;obtain⟨v1,cS,ah⟩:=h5 (k:=.i64) Tryz.underlying2 Z;have af:DataW.trod enc Tryz.prog W 0 (λ_=>true) true n 22 (List.take (Tryz.prog.cellsOf 22) [c2])=some gw:=a' 2 _ rfl
 rw [am']at af;obtain⟨v2,al,g2,ao⟩:=kA (encA:=bJ) (ok:=RC) Tryz.underlying22 abA (by omega) af (λm cs' fH hm hx=>anl m cs' fH hx)
 exact⟨⟨v0,v1,v2⟩,⟨⟨eT.1,eT.2⟩,⟨cS.1,cS.2⟩,⟨al,g2⟩⟩,((dy.app ah).app ao)⟩
structure RE(x:Outcome):Prop where
 apr:e5 x.Status
 aps:e5 x.Code
 abI:x.Out.length≤9223372036854775807∧∀i,i<x.Out.length→sY (x.Out.getD i default)
theorem ann(fuel:Nat)(cs:List Value)(x:DataW H×List MemPlace)(h:DataW.trod enc Tryz.prog W 0 (λ_=>true) true fuel 230 cs=some x):∃p:Outcome,RE p∧fO W cs (afH p).cells:=by
 obtain⟨xs,n,hn,_,ag,gf,a'⟩:=DataW.trod_struct Tryz.underlying230 h;rw [abE]at ag;obtain⟨c0,c1,c2,rfl⟩:=px cs ag;obtain⟨fq,fh,gw,rfl⟩:=px xs gf;have h0:DataW.trod enc Tryz.prog W 0 (λ_=>true) true n 3 (List.take (Tryz.prog.cellsOf 3) [c0,c1,c2])=some fq:=a' 0 _ rfl
 rw [ov]at h0;obtain⟨v0,eT,dy⟩:=h5 (k:=.i64) Tryz.underlying3 h0;have Z:DataW.trod enc Tryz.prog W 0 (λ_=>true) true n 3 (List.take (Tryz.prog.cellsOf 3) [c1,c2])=some fh:=a' 1 _ rfl
 rw [ov]at Z;obtain⟨v1,cS,ah⟩:=h5 (k:=.i64) Tryz.underlying3 Z;have af:DataW.trod enc Tryz.prog W 0 (λ_=>true) true n 78 (List.take (Tryz.prog.cellsOf 78) [c2])=some gw:=a' 2 _ rfl
 rw [abw]at af;obtain⟨v2,al,g2,ao⟩:=kA (encA:=dN) (ok:=sY) Tryz.underlying78 CC (by omega) af (λm cs' fH hm hx=>Ij m cs' fH hx)
 exact⟨⟨v0,v1,v2⟩,⟨⟨eT.1,eT.2⟩,⟨cS.1,cS.2⟩,⟨al,g2⟩⟩,((dy.app ah).app ao)⟩
structure RF(x:eI):Prop where
 abJ:e5 x.Client
 ano:e5 x.Seq
 abK:RE x.Outcome
theorem anp(fuel:Nat)(cs:List Value)(x:DataW H×List MemPlace)(h:DataW.trod enc Tryz.prog W 0 (λ_=>true) true fuel 232 cs=some x):∃p:eI,RF p∧fO W cs (hU p).cells:=by
 obtain⟨xs,n,hn,_,ag,gf,a'⟩:=DataW.trod_struct Tryz.underlying232 h;rw [abF]at ag;obtain⟨c0,c1,c2,c3,c4,rfl⟩:=Ru cs ag;obtain⟨fq,fh,gw,rfl⟩:=px xs gf;have h0:DataW.trod enc Tryz.prog W 0 (λ_=>true) true n 3 (List.take (Tryz.prog.cellsOf 3) [c0,c1,c2,c3,c4])=some fq:=a' 0 _ rfl
 rw [ov]at h0;obtain⟨v0,eT,dy⟩:=h5 (k:=.i64) Tryz.underlying3 h0;have Z:DataW.trod enc Tryz.prog W 0 (λ_=>true) true n 2 (List.take (Tryz.prog.cellsOf 2) [c1,c2,c3,c4])=some fh:=a' 1 _ rfl
 rw [ow]at Z;obtain⟨v1,cS,ah⟩:=h5 (k:=.i64) Tryz.underlying2 Z;have af:DataW.trod enc Tryz.prog W 0 (λ_=>true) true n 230 (List.take (Tryz.prog.cellsOf 230) [c2,c3,c4])=some gw:=a' 2 _ rfl
 rw [abE]at af;obtain⟨v2,al,ao⟩:=ann n _ _ af;exact⟨⟨v0,v1,v2⟩,⟨⟨eT.1,eT.2⟩,⟨cS.1,cS.2⟩,al⟩,((dy.app ah).app ao)⟩
structure Ik(x:bV):Prop where
 abJ:e5 x.Client
 RG:e5 x.Next
 RH:x.b'.length≤9223372036854775807∧∀i,i<x.b'.length→RF (x.b'.getD i default)
theorem anq(fuel:Nat)(cs:List Value)(x:DataW H×List MemPlace)(h:DataW.trod enc Tryz.prog W 0 (λ_=>true) true fuel 76 cs=some x):∃p:bV,Ik p∧fO W cs (cD p).cells:=by
 obtain⟨xs,n,hn,_,ag,gf,a'⟩:=DataW.trod_struct Tryz.underlying76 h;rw [abv]at ag;obtain⟨c0,c1,c2,rfl⟩:=px cs ag;obtain⟨fq,fh,gw,rfl⟩:=px xs gf;have h0:DataW.trod enc Tryz.prog W 0 (λ_=>true) true n 3 (List.take (Tryz.prog.cellsOf 3) [c0,c1,c2])=some fq:=a' 0 _ rfl
 rw [ov]at h0;obtain⟨v0,eT,dy⟩:=h5 (k:=.i64) Tryz.underlying3 h0;have Z:DataW.trod enc Tryz.prog W 0 (λ_=>true) true n 2 (List.take (Tryz.prog.cellsOf 2) [c1,c2])=some fh:=a' 1 _ rfl
 rw [ow]at Z;obtain⟨v1,cS,ah⟩:=h5 (k:=.i64) Tryz.underlying2 Z;have af:DataW.trod enc Tryz.prog W 0 (λ_=>true) true n 74 (List.take (Tryz.prog.cellsOf 74) [c2])=some gw:=a' 2 _ rfl
 rw [ani]at af;obtain⟨v2,al,g2,ao⟩:=kA (encA:=hU) (ok:=RF) Tryz.underlying74 abF (by omega) af (λm cs' fH hm hx=>anp m cs' fH hx)
 exact⟨⟨v0,v1,v2⟩,⟨⟨eT.1,eT.2⟩,⟨cS.1,cS.2⟩,⟨al,g2⟩⟩,((dy.app ah).app ao)⟩
structure RI(x:Part):Prop where
 anr:e5 x.Id
 ans:x.dO.length≤9223372036854775807
 ant:e5 x.Node
 anu:e5 x.fy
 abL:x.dE.length≤9223372036854775807
theorem anv(fuel:Nat)(cs:List Value)(x:DataW H×List MemPlace)(h:DataW.trod enc Tryz.prog W 0 (λ_=>true) true fuel 148 cs=some x):∃p:Part,RI p∧fO W cs (ce p).cells:=by
 obtain⟨xs,n,hn,_,ag,gf,a'⟩:=DataW.trod_struct Tryz.underlying148 h;rw [abC]at ag;obtain⟨c0,c1,c2,c3,c4,rfl⟩:=Ru cs ag;obtain⟨fq,fh,gw,kL,fk,rfl⟩:=Ru xs gf;have h0:DataW.trod enc Tryz.prog W 0 (λ_=>true) true n 3 (List.take (Tryz.prog.cellsOf 3) [c0,c1,c2,c3,c4])=some fq:=a' 0 _ rfl
 rw [ov]at h0;obtain⟨v0,eT,dy⟩:=h5 (k:=.i64) Tryz.underlying3 h0;have Z:DataW.trod enc Tryz.prog W 0 (λ_=>true) true n 9 (List.take (Tryz.prog.cellsOf 9) [c1,c2,c3,c4])=some fh:=a' 1 _ rfl
 rw [mq]at Z;obtain⟨v1,cS,ah⟩:=l' Tryz.underlying9 Z;have af:DataW.trod enc Tryz.prog W 0 (λ_=>true) true n 3 (List.take (Tryz.prog.cellsOf 3) [c2,c3,c4])=some gw:=a' 2 _ rfl
 rw [ov]at af;obtain⟨v2,al,ao⟩:=h5 (k:=.i64) Tryz.underlying3 af;have au:DataW.trod enc Tryz.prog W 0 (λ_=>true) true n 3 (List.take (Tryz.prog.cellsOf 3) [c3,c4])=some kL:=a' 3 _ rfl
 rw [ov]at au;obtain⟨v3,eP,aB⟩:=h5 (k:=.i64) Tryz.underlying3 au;have aQ:DataW.trod enc Tryz.prog W 0 (λ_=>true) true n 9 (List.take (Tryz.prog.cellsOf 9) [c4])=some fk:=a' 4 _ rfl
 rw [mq]at aQ;obtain⟨v4,dD,aR⟩:=l' Tryz.underlying9 aQ;exact⟨⟨v0,v1,v2,v3,v4⟩,⟨⟨eT.1,eT.2⟩,cS,⟨al.1,al.2⟩,⟨eP.1,eP.2⟩,dD⟩,((((dy.app ah).app ao).app aB).app aR)⟩
structure RJ(x:b1):Prop where
 anw:e5 x.Version
 abM:x.aF.length≤9223372036854775807∧∀i,i<x.aF.length→RI (x.aF.getD i default)
theorem anx(fuel:Nat)(cs:List Value)(x:DataW H×List MemPlace)(h:DataW.trod enc Tryz.prog W 0 (λ_=>true) true fuel 29 cs=some x):∃p:b1,RJ p∧fO W cs (afI p).cells:=by
 obtain⟨xs,n,hn,_,ag,gf,a'⟩:=DataW.trod_struct Tryz.underlying29 h;rw [abt]at ag;obtain⟨c0,c1,rfl⟩:=sX cs ag;obtain⟨fq,fh,rfl⟩:=sX xs gf;have h0:DataW.trod enc Tryz.prog W 0 (λ_=>true) true n 2 (List.take (Tryz.prog.cellsOf 2) [c0,c1])=some fq:=a' 0 _ rfl
 rw [ow]at h0;obtain⟨v0,eT,dy⟩:=h5 (k:=.i64) Tryz.underlying2 h0;have Z:DataW.trod enc Tryz.prog W 0 (λ_=>true) true n 27 (List.take (Tryz.prog.cellsOf 27) [c1])=some fh:=a' 1 _ rfl
 rw [anb]at Z;obtain⟨v1,cS,g1,ah⟩:=kA (encA:=ce) (ok:=RI) Tryz.underlying27 abC (by omega) Z (λm cs' fH hm hx=>anv m cs' fH hx)
 exact⟨⟨v0,v1⟩,⟨⟨eT.1,eT.2⟩,⟨cS,g1⟩⟩,(dy.app ah)⟩
structure Il(x:bd):Prop where
 sZ:x.Key.length≤9223372036854775807
 anz:e5 x.Count
theorem anA(fuel:Nat)(cs:List Value)(x:DataW H×List MemPlace)(h:DataW.trod enc Tryz.prog W 0 (λ_=>true) true fuel 179 cs=some x):∃p:bd,Il p∧fO W cs (cX p).cells:=by
 obtain⟨xs,n,hn,_,ag,gf,a'⟩:=DataW.trod_struct Tryz.underlying179 h;rw [abD]at ag;obtain⟨c0,c1,rfl⟩:=sX cs ag;obtain⟨fq,fh,rfl⟩:=sX xs gf;have h0:DataW.trod enc Tryz.prog W 0 (λ_=>true) true n 9 (List.take (Tryz.prog.cellsOf 9) [c0,c1])=some fq:=a' 0 _ rfl
 rw [mq]at h0;obtain⟨v0,eT,dy⟩:=l' Tryz.underlying9 h0;have Z:DataW.trod enc Tryz.prog W 0 (λ_=>true) true n 2 (List.take (Tryz.prog.cellsOf 2) [c1])=some fh:=a' 1 _ rfl
 rw [ow]at Z;obtain⟨v1,cS,ah⟩:=h5 (k:=.i64) Tryz.underlying2 Z;exact⟨⟨v0,v1⟩,⟨eT,⟨cS.1,cS.2⟩⟩,(dy.app ah)⟩
structure abN(x:e9):Prop where
 apt:True
 apu:x.Reads.length≤9223372036854775807∧∀i,i<x.Reads.length→(x.Reads.getD i default).length≤9223372036854775807
 apv:x.co.length≤9223372036854775807∧∀i,i<x.co.length→(x.co.getD i default).length≤9223372036854775807
theorem anB(fuel:Nat)(cs:List Value)(x:DataW H×List MemPlace)(h:DataW.trod enc Tryz.prog W 0 (λ_=>true) true fuel 80 cs=some x):∃p:e9,abN p∧fO W cs (afJ p).cells:=by
 obtain⟨xs,n,hn,_,ag,gf,a'⟩:=DataW.trod_struct Tryz.underlying80 h;rw [abx]at ag;obtain⟨c0,c1,c2,rfl⟩:=px cs ag;obtain⟨fq,fh,gw,rfl⟩:=px xs gf;have h0:DataW.trod enc Tryz.prog W 0 (λ_=>true) true n 4 (List.take (Tryz.prog.cellsOf 4) [c0,c1,c2])=some fq:=a' 0 _ rfl
 rw [Rz]at h0;obtain⟨v0,dy⟩:=Ky Tryz.underlying4 h0;have Z:DataW.trod enc Tryz.prog W 0 (λ_=>true) true n 38 (List.take (Tryz.prog.cellsOf 38) [c1,c2])=some fh:=a' 1 _ rfl
 rw [RA]at Z;obtain⟨v1,cS,g1,ah⟩:=kA (encA:=be) (ok:=λs:ap0=>s.length≤9223372036854775807) Tryz.underlying38 mq (by omega) Z (λm cs' fH hm hx=>l' Tryz.underlying9 hx)
 have af:DataW.trod enc Tryz.prog W 0 (λ_=>true) true n 38 (List.take (Tryz.prog.cellsOf 38) [c2])=some gw:=a' 2 _ rfl
 rw [RA]at af;obtain⟨v2,al,g2,ao⟩:=kA (encA:=be) (ok:=λs:ap0=>s.length≤9223372036854775807) Tryz.underlying38 mq (by omega) af (λm cs' fH hm hx=>l' Tryz.underlying9 hx)
 exact⟨⟨v0,v1,v2⟩,⟨trivial,⟨cS,g1⟩,⟨al,g2⟩⟩,((dy.app ah).app ao)⟩
structure Im(x:Request):Prop where
 abJ:e5 x.Client
 ano:e5 x.Seq
 apw:x.bi.length≤9223372036854775807
 fArgs:x.aw.length≤9223372036854775807∧∀i,i<x.aw.length→sY (x.aw.getD i default)
 apx:True
 apy:abN x.bp
theorem anC(fuel:Nat)(cs:List Value)(x:DataW H×List MemPlace)(h:DataW.trod enc Tryz.prog W 0 (λ_=>true) true fuel 82 cs=some x):∃p:Request,Im p∧fO W cs (cY p).cells:=by
 obtain⟨xs,n,hn,_,ag,gf,a'⟩:=DataW.trod_struct Tryz.underlying82 h;rw [aby]at ag;obtain⟨c0,c1,c2,c3,c4,c5,ju,jc,rfl⟩:=abr cs ag;obtain⟨fq,fh,gw,kL,fk,jH,rfl⟩:=abq xs gf;have h0:DataW.trod enc Tryz.prog W 0 (λ_=>true) true n 3 (List.take (Tryz.prog.cellsOf 3) [c0,c1,c2,c3,c4,c5,ju,jc])=some fq:=a' 0 _ rfl
 rw [ov]at h0;obtain⟨v0,eT,dy⟩:=h5 (k:=.i64) Tryz.underlying3 h0;have Z:DataW.trod enc Tryz.prog W 0 (λ_=>true) true n 2 (List.take (Tryz.prog.cellsOf 2) [c1,c2,c3,c4,c5,ju,jc])=some fh:=a' 1 _ rfl
 rw [ow]at Z;obtain⟨v1,cS,ah⟩:=h5 (k:=.i64) Tryz.underlying2 Z;have af:DataW.trod enc Tryz.prog W 0 (λ_=>true) true n 9 (List.take (Tryz.prog.cellsOf 9) [c2,c3,c4,c5,ju,jc])=some gw:=a' 2 _ rfl
 rw [mq]at af;obtain⟨v2,al,ao⟩:=l' Tryz.underlying9 af;have au:DataW.trod enc Tryz.prog W 0 (λ_=>true) true n 78 (List.take (Tryz.prog.cellsOf 78) [c3,c4,c5,ju,jc])=some kL:=a' 3 _ rfl
 rw [abw]at au;obtain⟨v3,eP,g3,aB⟩:=kA (encA:=dN) (ok:=sY) Tryz.underlying78 CC (by omega) au (λm cs' fH hm hx=>Ij m cs' fH hx)
 have aQ:DataW.trod enc Tryz.prog W 0 (λ_=>true) true n 4 (List.take (Tryz.prog.cellsOf 4) [c4,c5,ju,jc])=some fk:=a' 4 _ rfl
 rw [Rz]at aQ;obtain⟨v4,aR⟩:=Ky Tryz.underlying4 aQ;have bj:DataW.trod enc Tryz.prog W 0 (λ_=>true) true n 80 (List.take (Tryz.prog.cellsOf 80) [c5,ju,jc])=some jH:=a' 5 _ rfl
 rw [abx]at bj;obtain⟨v5,o8,b5⟩:=anB n _ _ bj;exact⟨⟨v0,v1,v2,v3,v4,v5⟩,⟨⟨eT.1,eT.2⟩,⟨cS.1,cS.2⟩,al,⟨eP,g3⟩,trivial,o8⟩,(((((dy.app ah).app ao).app aB).app aR).app b5)⟩
structure s0(x:bH):Prop where
 abO:e5 x.Pos
 abP:CF x.ar
 RK:x.bI.length≤9223372036854775807∧∀i,i<x.bI.length→pp (x.bI.getD i default)
 RL:x.bO.length≤9223372036854775807∧∀i,i<x.bO.length→Ik (x.bO.getD i default)
 In:RJ x.Place
 RM:x.bd.length≤9223372036854775807∧∀i,i<x.bd.length→Il (x.bd.getD i default)
 abQ:x.Queue.length≤9223372036854775807∧∀i,i<x.Queue.length→Im (x.Queue.getD i default)
 abR:ja x.b2
theorem anD(fuel:Nat)(cs:List Value)(x:DataW H×List MemPlace)(h:DataW.trod enc Tryz.prog W 0 (λ_=>true) true fuel 34 cs=some x):∃p:bH,s0 p∧fO W cs (afK p).cells:=by
 obtain⟨xs,n,hn,_,ag,gf,a'⟩:=DataW.trod_struct Tryz.underlying34 h;rw [abu]at ag;obtain⟨c0,c1,c2,c3,c4,c5,ju,jc,mr,c9,lu,rfl⟩:=am8 cs ag;obtain⟨fq,fh,gw,kL,fk,jH,o4,Ay,rfl⟩:=abr xs gf;have h0:DataW.trod enc Tryz.prog W 0 (λ_=>true) true n 2 (List.take (Tryz.prog.cellsOf 2) [c0,c1,c2,c3,c4,c5,ju,jc,mr,c9,lu])=some fq:=a' 0 _ rfl
 rw [ow]at h0;obtain⟨v0,eT,dy⟩:=h5 (k:=.i64) Tryz.underlying2 h0;have Z:DataW.trod enc Tryz.prog W 0 (λ_=>true) true n 24 (List.take (Tryz.prog.cellsOf 24) [c1,c2,c3,c4,c5,ju,jc,mr,c9,lu])=some fh:=a' 1 _ rfl
 rw [abs]at Z;obtain⟨v1,cS,ah⟩:=anm n _ _ Z;have af:DataW.trod enc Tryz.prog W 0 (λ_=>true) true n 25 (List.take (Tryz.prog.cellsOf 25) [c4,c5,ju,jc,mr,c9,lu])=some gw:=a' 2 _ rfl
 rw [am_]at af;obtain⟨v2,al,g2,ao⟩:=kA (encA:=cU) (ok:=pp) Tryz.underlying25 abm (by omega) af (λm cs' fH hm hx=>am6 m cs' fH hx)
 have au:DataW.trod enc Tryz.prog W 0 (λ_=>true) true n 26 (List.take (Tryz.prog.cellsOf 26) [c5,ju,jc,mr,c9,lu])=some kL:=a' 3 _ rfl
 rw [ana]at au;obtain⟨v3,eP,g3,aB⟩:=kA (encA:=cD) (ok:=Ik) Tryz.underlying26 abv (by omega) au (λm cs' fH hm hx=>anq m cs' fH hx)
 have aQ:DataW.trod enc Tryz.prog W 0 (λ_=>true) true n 29 (List.take (Tryz.prog.cellsOf 29) [ju,jc,mr,c9,lu])=some fk:=a' 4 _ rfl
 rw [abt]at aQ;obtain⟨v4,dD,aR⟩:=anx n _ _ aQ;have bj:DataW.trod enc Tryz.prog W 0 (λ_=>true) true n 30 (List.take (Tryz.prog.cellsOf 30) [mr,c9,lu])=some jH:=a' 5 _ rfl
 rw [anc]at bj;obtain⟨v5,o8,g5,b5⟩:=kA (encA:=cX) (ok:=Il) Tryz.underlying30 abD (by omega) bj (λm cs' fH hm hx=>anA m cs' fH hx)
 have cb:DataW.trod enc Tryz.prog W 0 (λ_=>true) true n 31 (List.take (Tryz.prog.cellsOf 31) [c9,lu])=some o4:=a' 6 _ rfl
 rw [ane]at cb;obtain⟨v6,qb,g6,bh⟩:=kA (encA:=cY) (ok:=Im) Tryz.underlying31 aby (by omega) cb (λm cs' fH hm hx=>anC m cs' fH hx)
 have de:DataW.trod enc Tryz.prog W 0 (λ_=>true) true n 32 (List.take (Tryz.prog.cellsOf 32) [lu])=some Ay:=a' 7 _ rfl
 rw [anf]at de;obtain⟨bA,q_,cA⟩:=h5 (k:=.u64) Tryz.underlying32 de;exact⟨⟨v0,v1,v2,v3,v4,v5,v6,bA⟩,⟨⟨eT.1,eT.2⟩,cS,⟨al,g2⟩,⟨eP,g3⟩,dD,⟨o8,g5⟩,⟨qb,g6⟩,⟨q_.1,Int.lt_of_le_of_lt q_.2 (by decide)⟩⟩,(((((((dy.app ah).app ao).app aB).app aR).app b5).app bh).app cA)⟩
structure Io(x:aY):Prop where
 sZ:x.Key.length≤9223372036854775807
 vy:sY x.bo
theorem anE(fuel:Nat)(cs:List Value)(x:DataW H×List MemPlace)(h:DataW.trod enc Tryz.prog W 0 (λ_=>true) true fuel 87 cs=some x):∃p:aY,Io p∧fO W cs (ca p).cells:=by
 obtain⟨xs,n,hn,_,ag,gf,a'⟩:=DataW.trod_struct Tryz.underlying87 h;rw [abz]at ag;obtain⟨c0,c1,c2,c3,rfl⟩:=abp cs ag;obtain⟨fq,fh,rfl⟩:=sX xs gf;have h0:DataW.trod enc Tryz.prog W 0 (λ_=>true) true n 9 (List.take (Tryz.prog.cellsOf 9) [c0,c1,c2,c3])=some fq:=a' 0 _ rfl
 rw [mq]at h0;obtain⟨v0,eT,dy⟩:=l' Tryz.underlying9 h0;have Z:DataW.trod enc Tryz.prog W 0 (λ_=>true) true n 85 (List.take (Tryz.prog.cellsOf 85) [c1,c2,c3])=some fh:=a' 1 _ rfl
 rw [CC]at Z;obtain⟨v1,cS,ah⟩:=Ij n _ _ Z;exact⟨⟨v0,v1⟩,⟨eT,cS⟩,(dy.app ah)⟩
structure CG(x:dY):Prop where
 abH:e5 x.cd
 RN:s0 x.Rest
 RG:x.Next.length≤9223372036854775807
 abL:True
 Ip:x.eg.length≤9223372036854775807∧∀i,i<x.eg.length→Io (x.eg.getD i default)
 apz:x.cq.length≤9223372036854775807∧∀i,i<x.cq.length→(x.cq.getD i default).length≤9223372036854775807
theorem anF(fuel:Nat)(cs:List Value)(x:DataW H×List MemPlace)(h:DataW.trod enc Tryz.prog W 0 (λ_=>true) true fuel 40 cs=some x):∃p:dY,CG p∧fO W cs (UP p).cells:=by
 obtain⟨xs,n,hn,_,ag,gf,a'⟩:=DataW.trod_struct Tryz.underlying40 h;rw [anh]at ag;obtain⟨c0,c1,c2,c3,c4,c5,ju,jc,mr,c9,lu,rF,c12,Iq,CH,yA,rfl⟩:=am9 cs ag;obtain⟨fq,fh,gw,kL,fk,jH,rfl⟩:=abq xs gf;have h0:DataW.trod enc Tryz.prog W 0 (λ_=>true) true n 2 (List.take (Tryz.prog.cellsOf 2) [c0,c1,c2,c3,c4,c5,ju,jc,mr,c9,lu,rF,c12,Iq,CH,yA])=some fq:=a' 0 _ rfl
 rw [ow]at h0;obtain⟨v0,eT,dy⟩:=h5 (k:=.i64) Tryz.underlying2 h0;have Z:DataW.trod enc Tryz.prog W 0 (λ_=>true) true n 34 (List.take (Tryz.prog.cellsOf 34) [c1,c2,c3,c4,c5,ju,jc,mr,c9,lu,rF,c12,Iq,CH,yA])=some fh:=a' 1 _ rfl
 rw [abu]at Z;obtain⟨v1,cS,ah⟩:=anD n _ _ Z;have af:DataW.trod enc Tryz.prog W 0 (λ_=>true) true n 9 (List.take (Tryz.prog.cellsOf 9) [c12,Iq,CH,yA])=some gw:=a' 2 _ rfl
 rw [mq]at af;obtain⟨v2,al,ao⟩:=l' Tryz.underlying9 af;have au:DataW.trod enc Tryz.prog W 0 (λ_=>true) true n 4 (List.take (Tryz.prog.cellsOf 4) [Iq,CH,yA])=some kL:=a' 3 _ rfl
 rw [Rz]at au;obtain⟨v3,aB⟩:=Ky Tryz.underlying4 au;have aQ:DataW.trod enc Tryz.prog W 0 (λ_=>true) true n 37 (List.take (Tryz.prog.cellsOf 37) [CH,yA])=some fk:=a' 4 _ rfl
 rw [ang]at aQ;obtain⟨v4,dD,g4,aR⟩:=kA (encA:=ca) (ok:=Io) Tryz.underlying37 abz (by omega) aQ (λm cs' fH hm hx=>anE m cs' fH hx)
 have bj:DataW.trod enc Tryz.prog W 0 (λ_=>true) true n 38 (List.take (Tryz.prog.cellsOf 38) [yA])=some jH:=a' 5 _ rfl
 rw [RA]at bj;obtain⟨v5,o8,g5,b5⟩:=kA (encA:=be) (ok:=λs:ap0=>s.length≤9223372036854775807) Tryz.underlying38 mq (by omega) bj (λm cs' fH hm hx=>l' Tryz.underlying9 hx)
 exact⟨⟨v0,v1,v2,v3,v4,v5⟩,⟨⟨eT.1,eT.2⟩,cS,al,trivial,⟨dD,g4⟩,⟨o8,g5⟩⟩,(((((dy.app ah).app ao).app aB).app aR).app b5)⟩
end
def lv{α:Type}[Inhabited α]{P:α→Prop}{l:List α}(h:∀i,i<l.length→P (l.getD i default))(h0:P default)(i:Nat):P (l.getD i default):=by
 by_cases hi:i<l.length
 ·exact h i hi
 ·rw [List.getD_eq_getElem?_getD,List.getElem?_eq_none (by omega)];exact h0
def ox{α:Type}[Inhabited α]{P:α→Prop}{l:List α}(h:∀i,i<l.length→P (l.getD i default))(x:α)(hx:x∈l):P x:=by
 obtain⟨i,hi,e⟩:=Ro hx;rw [←e];exact h i hi
def RO{k:ap0}(h:iQ k=true):k.length≤24:=by
 unfold iQ at h;simp only [Bool.and_eq_true,decide_eq_true_eq]at h;exact h.1.2
def abS{k:ap0}(h:mn k=true):k.length≤24:=by
 unfold mn at h;simp only [Bool.and_eq_true,decide_eq_true_eq]at h;exact h.2
def abT{l:List bG}(h:oq l=true)(hi:∀i,i<l.length→sY (l.getD i default)):∀v∈l,sN v:=by
 unfold oq at h;rw [kl]at h;refine ox λi ag=>?_
 have Z:=h i ag;rw [Bool.and_eq_true]at Z;exact⟨Z.1,(hi i ag).abG⟩
def anG{o:Outcome}(h:sR o=true)(hi:RE o):m4 o:=by
 unfold sR at h;by_cases hs:o.Status=1
 ·simp only [hs,apJ,apL,Bool.and_eq_true,decide_eq_true_eq]at h;obtain⟨⟨Z,af⟩,au⟩:=h;exact⟨by omega,by omega,af,abT au hi.abI.2⟩
 ·simp only [hs,apK,apM,Bool.and_eq_true,decide_eq_true_eq]at h;obtain⟨⟨⟨Z,af⟩,au⟩,aQ⟩:=h;have bj:o.Out=[]:=List.length_eq_zero_iff.1 aQ;exact⟨by omega,by omega,by rw [bj];simp,by rw [bj];exact λv ay=>by cases ay⟩
def anH{s:bV}(h:vn s=true)(hi:Ik s):sU s:=by
 unfold vn at h;simp only [Bool.and_eq_true,Bool.not_eq_true',decide_eq_true_eq,kl]at h;obtain⟨⟨Z,af⟩,au⟩:=h;obtain⟨a7,a2,a3,a4⟩:=Q_ Z;have hk:=Cu ⟨a3,a4⟩
 have aQ:∀i,i<s.b'.length→((s.b'.getD i default).Client=s.Client∧(s.b'.getD i default).Seq=s.Next-(s.b'.length:Int)+(i:Int))∧sR (s.b'.getD i default).Outcome=true:=λi ag=>by
  have:=au i ag
  unfold yr at this;simp only [Bool.and_eq_true,decide_eq_true_eq]at this;exact this
 refine⟨⟨a7,a2⟩,⟨a3,a4⟩,?_,by rw [List.length_map];omega,?_⟩
 ·refine List.ext_getElem (by simp [Rc]) λi g1 g2=>?_
  have bj:=aQ i g1;rw [List.getD_eq_getElem?_getD,List.getElem?_eq_getElem g1,Option.getD_some]at bj;simp only [Rc,List.getElem_map,List.getElem_zipIdx,Nat.zero_add];rw [wr (x:=lV s.Next-(i:Int)) (by omega) (by omega),wr (x:=s.Next-(lV s.Next-(i:Int))) (by omega) (by omega)]
  generalize s.b'[i]=x at bj
  obtain⟨c,q,o⟩:=x;obtain⟨⟨e1,e2⟩,_⟩:=bj;simp only at e1 e2
  subst e1;rw [e2,af,show s.Next-lV s.Next+(i:Int)=s.Next-(lV s.Next-(i:Int))by omega]
 ·intro o aA;obtain⟨x,hx,rfl⟩:=List.mem_map.1 aA;exact ox (P:=λx:eI=>m4 x.Outcome) (λi ag=>anG (aQ i ag).2 (hi.RH.2 i ag).abK) x hx
def anI{p:b1}(h:ot p=true)(hi:RJ p):p.aF.length≤16∧∀x∈p.aF,vq x:=by
 unfold ot at h;simp only [Bool.and_eq_true,Bool.not_eq_true',Bool.or_eq_false_iff,decide_eq_false_iff_not,Bool.not_eq_false',decide_eq_true_eq,kl]at h;obtain⟨⟨⟨⟨⟨Z,af⟩,au⟩,aQ⟩,bj⟩,cb⟩:=h;refine⟨by omega,ox λi ag=>?_⟩
 have de:=cb i ag;have hx:=hi.abM.2 i ag;unfold sQ qy at de;simp only [Bool.and_eq_true]at de;obtain⟨dR,⟨_,gS⟩,_⟩:=de;refine⟨hx.anr,?_,hx.ant,hx.anu,?_⟩
 ·cases i with
  |zero=>rw [bj];simp
  |succ i=>
   rw [show decide (0<((i+1:Nat):Int))=true from decide_eq_true (by omega),apN,Bool.false_or,Bool.and_eq_true]at dR
   exact abS dR.1
 ·by_cases hd:(p.aF.getD i default).fy=0
  ·simp only [hd,apJ,apL,decide_eq_true_eq]at gS;rw [gS];simp
  ·simp only [hd,apK,apM,Bool.and_eq_true]at gS;exact abS gS.1.1.2
def anJ{l:List bd}(h:qu l=true)(hi:∀i,i<l.length→Il (l.getD i default)):l.length≤32∧∀x∈l,x.Key.length≤24∧e5 x.Count:=by
 unfold qu at h;simp only [Bool.and_eq_true,decide_eq_true_eq,kl]at h;obtain⟨Z,af⟩:=h;exact⟨by omega,ox (P:=λx:bd=>x.Key.length≤24∧e5 x.Count) λi ag=>⟨RO (Z i ag).1.1.1,(hi i ag).anz⟩⟩
def abU{l:rB}(h:ps l=true):∀v∈l,v.length≤24:=by
 unfold ps at h;rw [kl]at h
 exact ox (P:=λv:ap0=>v.length≤24) λi ag=>by
  have:=h i ag
  rw [Bool.and_eq_true]at this;exact RO this.1
def anK{s:ap0}(h:gF s=true):s.length≤16:=by obtain⟨_,_,_,_,_,_,h⟩:=Qx h;exact h
def anL{
 r:Request} (h:qw r=0) (hi:Im r):pu r∧H8 r=true:=by
 have h0:=h;unfold qw at h;cases Z:((decide (r.Client<1)||decide (32<r.Client))||decide (r.Seq<1))||decide (1099511627776<r.Seq)
 ·cases af:gF r.bi
  ·rw [Z,af]at h;simp at h
  ·cases au:decide (6<r.aw.length)
   ·cases aQ:oq r.aw
    ·rw [Z,af,au,aQ]at h;simp at h
    ·cases bj:((!qv r.bp||r.bp.dV)||(!r.dX&&decide (0<r.bp.Reads.length+r.bp.co.length)))
     ·simp only [Bool.or_eq_false_iff,decide_eq_false_iff_not]at Z au bj;obtain⟨⟨⟨b4,hR⟩,Cb⟩,HI⟩:=Z;obtain⟨⟨c1,c2⟩,c3⟩:=bj;rw [Bool.not_eq_false']at c1;unfold qv at c1;rw [c2,apM]at c1;simp only [Bool.and_eq_true,decide_eq_true_eq]at c1;obtain⟨⟨d1,d2⟩,d3,d4⟩:=c1;refine⟨⟨⟨by omega,by omega⟩,⟨by omega,by omega⟩,anK af,⟨by omega,abT aQ hi.fArgs.2⟩,?_,c2⟩,?_⟩
      ·unfold H7;cases hd:r.dX
       ·rw [hd]at c3;simp only [apO,Bool.true_and,decide_eq_false_iff_not]at c3;rw [if_neg (by simp)]
        rw [List.length_eq_zero_iff.1 (show r.bp.Reads.length=0 by omega),List.length_eq_zero_iff.1 (show r.bp.co.length=0 by omega)]
       ·rw [if_pos rfl];exact⟨⟨d2,abU d1⟩,d4,abU d3⟩
      ·unfold H8;rw [h0,decide_eq_true (show r.Client≤32 by omega),decide_eq_true (show r.Seq≤1099511627776 by omega)];rfl
     ·rw [Z,af,au,aQ,bj]at h;simp at h
   ·rw [Z,af,au]at h;simp at h
 ·rw [Z]at h;simp at h
def anM{s:ar}(hs:mo s=true)(hi:CF s)(hb:∀i,i<s.Rows.length→(s.Rows.getD i default).br.length≤1000000000):∀p∈gG s.Rows,H6 p:=by
 intro p hp;obtain⟨r,ak,e,_⟩:=Ie _ _ hp;obtain⟨j,hj,rfl⟩:=Ro ak;obtain⟨a,b⟩:=abf hs hb j hj;rw [e];refine⟨RO a,b,?_⟩
 have Z:=(hi.RD.2 j hj).CE.2;exact lv (P:=λv:Version=>e5 v.bo.N) (λk hk=>(Z k hk).vy.abG) (by show e5 (0:Int);exact⟨by omega,by omega⟩) _
def anN{r:bH}(hs:k9 r=true)(hi:s0 r)(r0:r.ar.Rows.length≤1000000)(hb:∀i,i<r.ar.Rows.length→(r.ar.Rows.getD i default).br.length≤1000000000)(CB:r.bO.length≤32):yv (ls r (gG r.ar.Rows)):=by
 unfold k9 at hs;simp only [Bool.and_eq_true,decide_eq_true_eq]at hs;obtain⟨⟨⟨⟨⟨⟨⟨⟨Z,af⟩,au⟩,aQ⟩,bj⟩,cb⟩,de⟩,dR⟩,gS⟩:=hs;have jj:=Ig r.ar.Rows;refine⟨hi.abO,⟨⟨by show(gG r.ar.Rows).length≤_;omega,anM au hi.abP hb⟩,amW au r0 hb⟩,?_,⟨⟨CB,?_⟩,cb⟩,⟨⟨hi.In.anw,anI de hi.In⟩,de⟩,anJ dR hi.RM.2,?_,hi.abR⟩
 ·unfold sV at bj;simp only [Bool.and_eq_true,decide_eq_true_eq,kl]at bj;obtain⟨mE,anO⟩:=bj;refine⟨by show(r.bI.map jt).length≤16;rw [List.length_map];exact anO,λs hs=>?_⟩
  obtain⟨p,hp,rfl⟩:=List.mem_map.1 (show s∈r.bI.map jt from hs)
  refine ox (P:=λp:bi=>(jt p).length≤16384) (λi ag=>?_) p hp
  have:=(mE i ag).1
  simp only [Bool.not_eq_true',Bool.or_eq_false_iff,decide_eq_false_iff_not]at this;omega
 ·have mE:=cb;unfold pt at mE;simp only [Bool.and_eq_true,kl]at mE;exact ox (P:=sU) λi ag=>anH (mE i ag).1 (hi.RL.2 i ag)
 ·have mE:=gS;unfold vt at mE;simp only [Bool.and_eq_true,decide_eq_true_eq,kl]at mE;exact⟨mE.2,ox (P:=λq:Request=>pu q∧H8 q=true) λi ag=>anL (mE.1 i ag) (hi.abQ.2 i ag)⟩
def RP{α:Type}{E:α→ap0}{k:Nat}:∀{l:List α},(∀v∈l,(E v).length≤k)→(fX E l).length≤k*l.length
 |[],_=>by simp [fX]
 |v::l,h=>by
  have Z:=h v (by simp)
  have af:=RP (E:=E) (l:=l) λw hw=>h w (by simp [hw])
  rw [vk,apT,apP,Nat.mul_add,Nat.mul_one];omega
def qB{α:Type}{E:α→ap0}{k:Nat}(m:Nat){l:List α}(ag:l.length≤m)(hm:m<18446744073709551616)(hk:∀v∈l,(E v).length≤k):(dc E l).length≤10+k*m:=by
 have Z:=RP hk;have af:=iA (u:=l.length) (by omega)
 have au:=Nat.mul_le_mul_left k ag;unfold dc;rw [apT];omega
def RQ{v:bG}(h:sN v):(bW v).length≤84:=by
 have Z:=nF h;have af:=Q6 h.2 (by omega)
 omega
def s2{s:ap0}{k:Nat}(h:s.length≤k)(hk:k≤1000000):(fE s).length≤k+10:=by
 have:=qs (s:=s) (by omega)
 omega
def anP{o:Outcome}(h:m4 o):(m3 o).length≤1374:=by
 obtain⟨Z,af⟩:=Rf h;have a7:=jN Z;have a2:=jN af;have a3:=qB (E:=bW) (k:=84) 16 h.2.2.1 (by omega) λv ay=>RQ (h.2.2.2 v ay)
 unfold m3;simp only [apT];omega
def anQ{s:bV}(h:sU s):(iS s).length≤11012:=by
 obtain⟨Z,af,au,aQ,bj⟩:=h;have a7:=jN (z:=s.Client) ⟨by omega,by omega⟩
 have a2:=jN (z:=s.Next) ⟨by omega,by omega⟩
 have a3:=RP (E:=m3) (k:=1374) λo aA=>anP (bj o aA)
 have a4:=Cu af;unfold iS;simp only [apT];omega
def anR{x:Part}(h:vq x):(sT x).length≤98:=by
 obtain⟨Z,af,au,aQ,bj⟩:=h;have a7:=nD Z;have a2:=nD au;have a3:=nD aQ;have a4:=s2 af (by omega)
 have a5:=s2 bj (by omega)
 unfold sT;simp only [apT];omega
def anS{r:Request}(h:pu r):(gN r).length≤5000:=by
 obtain⟨Z,af,au,aQ,bj,cb⟩:=h;have a7:=jN Z;have a2:=jN af;have a3:=s2 au (by omega)
 have a4:=qB (E:=bW) (k:=84) 6 aQ.1 (by omega) λv ay=>RQ (aQ.2 v ay)
 have a5:=Cz r.dX
 have mj:(mp r.dX (r.bp.Reads,r.bp.co)).length≤4372:=by
  unfold mp H7 at *;cases hd:r.dX
  ·simp
  ·rw [hd]at bj;obtain⟨⟨c1,c2⟩,c3,c4⟩:=bj;have d1:=qB (E:=fE) (k:=34) 64 c1 (by omega) λv ay=>s2 (c2 v ay) (by omega)
   have d2:=qB (E:=fE) (k:=34) 64 c3 (by omega) λv ay=>s2 (c4 v ay) (by omega)
   simp only [apY,apT];simp only at d1 d2
   omega
 unfold gN;simp only [apT];omega
def anT{r:bH}{A:List aY}(hp:yv (ls r A))(d9:A.length≤100)(CB:r.bO.length≤10)(ea:r.Queue.length≤64):(jb (ls r A)).length≤800000:=by
 have b4:(ml r.Pos).length≤10:=nD hp.pos
 have hR:=qB (E:=jM) (k:=118) 100 d9 (by omega) λp h=>by
  obtain⟨c1,c2⟩:=hp.pw.1.2 p h;have d1:=s2 c1 (by omega)
  have d2:=RQ c2;unfold jM;rw [apT];omega
 have Cb:=qB (E:=fE) (k:=16394) 16 hp.src.1 (by omega) λs h=>s2 (hp.src.2 s h) (by omega)
 have HI:=qB (E:=iS) (k:=11012) 10 CB (by omega) λs h=>anQ (hp.nG.1.2 s h)
 have apA:=qB (E:=sT) (k:=98) 16 hp.rC.1.2.1 (by omega) λs h=>anR (hp.rC.1.2.2 s h)
 have apB:=qB (E:=lr) (k:=44) 32 hp.bU.1 (by omega) λx h=>by
  obtain⟨c1,c2⟩:=hp.bU.2 x h;have d1:=s2 c1 (by omega)
  have d2:=nD c2;unfold lr;rw [apT];omega
 have apC:=qB (E:=gN) (k:=5000) 64 ea (by omega) λq h=>anS (hp.nH.2 q h).1
 have apD:=jN hp.Re;have apE:=nD hp.rC.1.1;unfold jb km;simp only [apT];simp only [ls]at *;omega
structure Ir(n:Nat)(r:bH):Prop where
 cu:Cw n r
 ry:r.ar.Rows.length≤100
 vs:∀i,i<r.ar.Rows.length→(r.ar.Rows.getD i default).br.length≤1000
 pl:r.bI.length≤1000
 jL:r.bO.length≤10
abbrev qC(r:bH):Cy:=ls r (gG r.ar.Rows)
section
variable {n:Nat} (hn:3000000≤n) (bB:n≤9223372036854775808) {r:bH} (a':Ir n r) (hi:s0 r)
include hn bB a' hi
theorem abV(hs:k9 r=true):yv (qC r)∧(jb (qC r)).length≤800000:=by
 have hsh:=a'.cu;have abW:=a'.ry;have hp:=anN hs hi (by omega) (λi ag=>by have:=a'.vs i ag;omega) (by have:=a'.jL;omega)
 exact⟨hp,anT hp (by have:=Ig r.ar.Rows;omega) (by have:=a'.jL;omega) hp.nH.1⟩
theorem abX(hs:k9 r=true):(∀i,i<r.ar.Rows.length→yy n r.Pos (r.ar.Rows.getD i default))∧r.ar.bw≤r.Pos∧r.Pos≤r.ar.bq:=by
 have hsh:=a'.cu;unfold k9 at hs;simp only [Bool.and_eq_true,decide_eq_true_eq]at hs;obtain⟨⟨⟨⟨⟨⟨⟨⟨Z,af⟩,au⟩,aQ⟩,bj⟩,cb⟩,de⟩,dR⟩,gS⟩:=hs;have yB:=abb (n:=n) au (λi ag=>by have:=(hsh.st.row i).Rb;have af:=a'.vs i ag;exact⟨this,by omega⟩)
 rw [aQ]at yB;refine⟨yB,?_⟩
 unfold mo at au;simp only [Bool.and_eq_true,Bool.not_eq_true',Bool.or_eq_false_iff,decide_eq_false_iff_not]at au;obtain⟨⟨⟨a7,a2⟩,a3⟩,_⟩:=au;omega
theorem anU(hs:k9 r=true):w4 n r=some (jb (qC r)):=by
 have hsh:=a'.cu;have abW:=a'.ry;have jj:=a'.pl;obtain⟨hp,ag⟩:=abV hn bB a' hi hs;obtain⟨yB,RR,RS⟩:=abX hn bB a' hi hs;have p1:=hs;unfold k9 vt at p1;simp only [Bool.and_eq_true,decide_eq_true_eq,kl]at p1;obtain⟨⟨⟨⟨⟨⟨⟨⟨Z,af⟩,au⟩,aQ⟩,bj⟩,cb⟩,de⟩,dR⟩,gS,mE⟩:=p1
 exact amN hn bB hp ag (ox λi _=>hsh.pw i) (by omega) (amU (by omega) (by omega) yB RR RS (by rw [aaZ (by omega) bB hsh.st,au]))
  (by rw [aaS (by omega) bB hsh.vu hsh.nG,cb]) (ox (P:=λq:Request=>o0 n q=some 0) λi ag=>by rw [aaM (by omega) bB (hsh.vv i),gS i ag])
theorem anV(hs:k9 r=true):Bt n r=some (jb (qC r)):=by
 have hsh:=a'.cu;have abW:=a'.ry;have jj:=a'.pl;obtain⟨hp,ag⟩:=abV hn bB a' hi hs;obtain⟨yB,RR,RS⟩:=abX hn bB a' hi hs;have p1:=hs;unfold k9 vt at p1;simp only [Bool.and_eq_true,decide_eq_true_eq,kl]at p1;obtain⟨⟨⟨⟨⟨⟨⟨⟨Z,af⟩,au⟩,aQ⟩,bj⟩,cb⟩,de⟩,dR⟩,gS,mE⟩:=p1
 exact amL hn bB hp ag (ox λi _=>hsh.pw i) (by omega) (amV (by omega) (by omega) yB RR RS (by rw [aa0 (by omega) bB hsh.st,au]))
  (by rw [aaT (by omega) bB hsh.vu hsh.nG,cb]) (ox (P:=λq:Request=>qh n q=some 0) λi ag=>by rw [aaN (by omega) bB (hsh.vv i),gS i ag])
def encA(r:bH):ap0×Int:=bif !k9 r then([],1)else bif decide (16384<(((jb (qC r)).length:Nat):Int)) then([],2) else(jb (qC r),0)
theorem anW:AT n r=some (encA r):=by
 have hsh:=a'.cu;unfold AT encA;rw [ami hn bB hsh,aD];cases hs:k9 r
 ·rfl
 ·simp only [apN,apM];rw [anU hn bB a' hi hs,aD];cases decide (16384<(((jb (qC r)).length:Nat):Int))<;>rfl
theorem anX:Bu n r=some (encA r):=by
 have hsh:=a'.cu;unfold Bu encA;rw [amk hn bB hsh,aD];cases hs:k9 r
 ·rfl
 ·simp only [apN,apM];rw [anV hn bB a' hi hs,aD];cases decide (16384<(((jb (qC r)).length:Nat):Int))<;>rfl
end
def yC(A:List aY)(a:Int):(rA A a).Rows.length=A.length:=by unfold rA;simp
def RT{A:List aY}{a:Int}{i:Nat}(hi:i<A.length):(rA A a).Rows.getD i default=⟨(A.getD i default).Key,[⟨a,(A.getD i default).bo⟩]⟩:=by
 unfold rA;simp only [List.getD_eq_getElem?_getD,List.getElem?_map,List.getElem?_eq_getElem hi,Option.map_some,Option.getD_some]
section
variable {n:Nat} (hn:3000000≤n) (bB:n≤9223372036854775808) {r:bH} (a':Ir n r) (hi:s0 r)
include hn bB a' hi
end
section
variable {n:Nat} (hn:3000000≤n) (bB:n≤9223372036854775808) {r:bH} (a':Ir n r) (hi:s0 r)
include hn bB a' hi
end
section
variable {n:Nat} {a:Int} {r:Row} (ag:r.br.length<n) (bB:n≤9223372036854775808)
include ag bB
end
section
variable {n:Nat} {s:ar} (hn:2000≤n) (bB:n≤9223372036854775808) (h:vp n s) (ag:s.Rows.length≤1000)
include hn bB h ag
end
structure Is(s:ar):Prop where
 ry:s.Rows.length≤60
 vs:∀i,i<s.Rows.length→(s.Rows.getD i default).br.length≤40
def anY{n:Nat}(hn:2000≤n)(s:ar):AN n s=some false∨(Is s∧AN n s=some true):=by
 unfold AN;simp only [fm];by_cases Z:s.Rows.length≤60
 ·simp only [show¬ 60<s.Rows.length by omega,apK,apM]
  rcases sW (L:=xg n s) (len:=s.Rows.length) (m:=n) (Q:=λi=>(s.Rows.getD i default).br.length≤40) (fin:=some true) (by omega)
   (λm i hi=>by
    simp only [xg,FG,hi,cr hi,apR,apS,fm,apJ,apL,bg,dw (show i≤9223372036854775806 by omega)]
    by_cases h:(s.Rows.getD i default).br.length≤40
    ·right;simp only [show¬ 40<(s.Rows.getD i default).br.length by omega,apK,apM,h,true_and]
    ·left;simp only [show 40<(s.Rows.getD i default).br.length by omega,apJ,apL])
   (λm=>by simp only [xg,FG,Nu,apS,Nat.lt_irrefl,apK,apM])with h|⟨h,g⟩
  ·exact Or.inl h
  ·exact Or.inr ⟨⟨Z,h⟩,g⟩
 ·left;simp only [show 60<s.Rows.length by omega,apJ,apL]
structure It(r:bH):Prop where
 st:Is r.ar
 pl:r.bI.length≤16
 cJ:∀i,i<r.bI.length→HO (r.bI.getD i default) 600
 jL:r.bO.length≤10
 n4:∀i,i<r.bO.length→(r.bO.getD i default).b'.length≤20
 ag:r.bd.length≤40
 anZ:r.Queue.length≤70
 an0:∀i,i<r.Queue.length→Rm (r.Queue.getD i default)
 sK:r.Place.aF.length≤40
def It.cu{r:bH}(h:It r)(hi:s0 r){n:Nat}(hn:n=9223372036854775808):Cw n r where
 st:=⟨by have:=h.st.ry;omega,λi=>lv (P:=yt n) (λk hk=>by
  have Z:=hi.abP.RD.2 k hk;have af:=Z.sZ;have au:=Z.CE.1;exact⟨by omega,by omega,λj=>lv (P:=λx:Version=>x.bo.S.length<n) (λm hm=>by have:=(Z.CE.2 m hm).vy.CD;omega) (by show 0<n;omega) j⟩) ((Ia (n:=n) (by omega)).st.row 0) i⟩
 Cx:=by have:=h.pl;omega
 pw:=λi=>lv (P:=ou) (λk hk=>by
  obtain⟨Z,af,au,aQ⟩:=h.cJ k hk;have bj:=HN (r.bI.getD k default).Body;exact⟨hi.RK.2 k hk,by omega,by omega,by omega⟩) aa6 i
 vu:=by have:=h.jL;omega
 nG:=λi=>lv (P:=rz n) (λk hk=>by
  have Z:=hi.RL.2 k hk;have af:=Z.RH.1
  exact⟨by omega,λj=>lv (P:=λx:eI=>yq n x.Outcome) (λm hm=>by
   have au:=(Z.RH.2 m hm).abK.abI;have aQ:=au.1;exact⟨by omega,λq=>lv (P:=λx:bG=>x.S.length<n) (λm hm=>by have:=(au.2 m hm).CD;omega) (by show 0<n;omega) q⟩) ((Rd (n:=n) (by omega) (l:=[]) (λx hx=>by cases hx) 0).out 0) j⟩) (Rd (n:=n) (by omega) (l:=[]) (λx hx=>by cases hx) 0) i
 pl:=by have:=h.sK;omega
 yu:=λi=>lv (P:=qz n) (λk hk=>by
  have Z:=hi.In.abM.2 k hk;have af:=Z.ans;have au:=Z.abL;exact⟨by omega,by omega⟩) ((Ia (n:=n) (by omega)).yu 0) i
 bU:=by have:=h.ag;omega
 jQ:=λi=>lv (P:=λx:bd=>x.Key.length<n) (λk hk=>by have:=(hi.RM.2 k hk).sZ;omega) (by show 0<n;omega) i
 nH:=by have:=h.anZ;omega
 vv:=λi=>lv (P:=sP n) (λk hk=>by
  obtain⟨Z,af,au,f1,f2,f3,f4⟩:=h.an0 k hk
  exact⟨by omega,by omega,λj=>lv (P:=λx:bG=>x.S.length<n) (λm hm=>by have:=au m hm;omega) (by show 0<n;omega) j,by omega,by omega,by omega,by omega,
   λj=>lv (P:=λx:ap0=>x.length<n) (λm hm=>by have:=f3 m hm;omega) (by show 0<n;omega) j,
   λj=>lv (P:=λx:ap0=>x.length<n) (λm hm=>by have:=f4 m hm;omega) (by show 0<n;omega) j⟩) (aa8 (by omega)) i
def an1{n:Nat}(hn:2000≤n)(r:bH)(hp:∀i,i<r.bI.length→pp (r.bI.getD i default)):AS n r=some false∨(It r∧AS n r=some true):=by
 unfold AS;simp only [fm,eb];rcases anY hn r.ar with h0|⟨h0,g0⟩
 ·left;simp only [h0,aD,apO,Bool.true_or,apL]
 ·simp only [g0,aD,apN,Bool.false_or];by_cases Z:r.bI.length≤16
  ·by_cases af:r.bO.length≤10
   ·by_cases au:r.bd.length≤40
    ·by_cases aQ:r.Queue.length≤70
     ·by_cases bj:r.Place.aF.length≤40
      ·simp only [show¬ 16<r.bI.length by omega,show¬ 10<r.bO.length by omega,show¬ 40<r.bd.length by omega,show¬ 70<r.Queue.length by omega,show¬ 40<r.Place.aF.length by omega,apK,Bool.or_self,Bool.or_false,apM]
       rcases sW (L:=xl n r) (len:=r.bI.length) (m:=n) (Q:=λi=>HO (r.bI.getD i default) 600) (fin:=uI n r n 0) (by omega)
        (λm i hi=>by
         obtain⟨b,e1,e2⟩:=ak1 (n:=n) (r.bI.getD i default) 600 (by omega) (by omega) (hp i hi)
         simp only [xl,FP,hi,cr hi,apR,apS,apJ,apL,bg,dw (show i≤9223372036854775806 by omega)]
         rw [show AQ n (r.bI.getD i default) 600=some b from e1,aD]
         cases b
         ·left;rfl
         ·right;exact⟨e2 rfl,rfl⟩)
        (λm=>by simp only [xl,FP,NF,apS,Nat.lt_irrefl,apK,apM])with cb|⟨cb,g6⟩
       ·exact Or.inl cb
       ·rw [g6]
        rcases sW (L:=uI n r) (len:=r.bO.length) (m:=n) (Q:=λi=>(r.bO.getD i default).b'.length≤20) (fin:=uH n r n 0) (by omega)
         (λm i hi=>by
          simp only [uI,FO,hi,cr hi,apR,apS,fm,apJ,apL,bg,dw (show i≤9223372036854775806 by omega)]
          by_cases h:(r.bO.getD i default).b'.length≤20
          ·right;simp only [show¬ 20<(r.bO.getD i default).b'.length by omega,apK,apM,h,true_and]
          ·left;simp only [show 20<(r.bO.getD i default).b'.length by omega,apJ,apL])
         (λm=>by simp only [uI,FO,NE,apS,Nat.lt_irrefl,apK,apM])with de|⟨de,g7⟩
        ·exact Or.inl de
        ·rw [g7]
         rcases sW (L:=uH n r) (len:=r.Queue.length) (m:=n) (Q:=λi=>Rm (r.Queue.getD i default)) (fin:=some true) (by omega)
          (λm i hi=>by
           simp only [uH,FN,hi,cr hi,apR,apS,apJ,apL,bg,dw (show i≤9223372036854775806 by omega)]
           rcases amQ hn (r.Queue.getD i default)with h|⟨h,g⟩
           ·left;rw [h];rfl
           ·right;rw [g];exact⟨h,rfl⟩)
          (λm=>by simp only [uH,FN,ND,apS,Nat.lt_irrefl,apK,apM])with dR|⟨dR,g8⟩
         ·exact Or.inl dR
         ·exact Or.inr ⟨⟨h0,Z,cb,af,de,au,aQ,dR,bj⟩,g8⟩
      ·left;simp only [show 40<r.Place.aF.length by omega,apJ,apX,apL]
     ·left;simp only [show 70<r.Queue.length by omega,apJ,apX,Bool.true_or,apL]
    ·left;simp only [show 40<r.bd.length by omega,apJ,apX,Bool.true_or,apL]
   ·left;simp only [show 10<r.bO.length by omega,apJ,apX,Bool.true_or,apL]
  ·left;simp only [show 16<r.bI.length by omega,apJ,apX,Bool.true_or,apL]
def abY:GO 9223372036854775808=some true:=by kernel_rfl
def an2(x:dY):(⟨x.cd,x.Rest,x.Next,x.dE,x.eg,x.cq⟩:dY)=x:=rfl
structure abZ(n:Nat)(c:dY):Prop where
 fc:c.Next.length<n
 apF:c.Next.length≤9223372036854775807
 pl:c.eg.length≤100000
 sK:c.cq.length≤100000
section
variable {n:Nat} {s:ar} (hn:2000≤n) (bB:n≤9223372036854775808) (h:vp n s) (ag:s.Rows.length≤1000) {c:dY} (hc:abZ n c)
include hn bB h ag hc
end
structure Iu(c:dY):Prop where
 rest:It c.Rest
 pl:c.eg.length≤60
 sK:c.cq.length≤40
 ts:∀i,i<c.cq.length→(c.cq.getD i default).length≤5000
def an3{n:Nat}(hn:2000≤n)(c:dY)(hp:∀i,i<c.Rest.bI.length→pp (c.Rest.bI.getD i default)):Bl n c=some false∨(Iu c∧Bl n c=some true):=by
 unfold Bl;simp only [fm,eb];rcases an1 hn c.Rest hp with h0|⟨h0,g0⟩
 ·left;simp only [h0,aD,apO,Bool.true_or,apL]
 ·simp only [g0,aD,apN,Bool.false_or];by_cases Z:c.eg.length≤60
  ·by_cases af:c.cq.length≤40
   ·simp only [show¬ 60<c.eg.length by omega,show¬ 40<c.cq.length by omega,apK,Bool.or_self,apM]
    rcases sW (L:=xN n c) (len:=c.cq.length) (m:=n) (Q:=λi=>(c.cq.getD i default).length≤5000) (fin:=some true) (by omega)
     (λm i hi=>by
      simp only [xN,GP,hi,cr hi,apR,apS,fm,apJ,apL,bg,dw (show i≤9223372036854775806 by omega)]
      by_cases h:(c.cq.getD i default).length≤5000
      ·right;simp only [show¬ 5000<(c.cq.getD i default).length by omega,apK,apM,h,true_and]
      ·left;simp only [show 5000<(c.cq.getD i default).length by omega,apJ,apL])
     (λm=>by simp only [xN,GP,Pr,apS,Nat.lt_irrefl,apK,apM])with h|⟨h,g⟩
    ·exact Or.inl h
    ·exact Or.inr ⟨⟨h0,Z,af,h⟩,g⟩
   ·left;simp only [show 40<c.cq.length by omega,apJ,apX,apL]
  ·left;simp only [show 60<c.eg.length by omega,apJ,apX,Bool.true_or,apL]
def Iu.cu{c:dY}(h:Iu c)(hi:CG c){n:Nat}(hn:n=9223372036854775808):abZ n c:=
 ⟨by have:=hi.RG;omega,hi.RG,by have:=h.pl;omega,by have:=h.sK;omega⟩
def Is.cu{s:ar}(h:Is s)(hi:CF s){n:Nat}(hn:n=9223372036854775808):vp n s:=
 ⟨by
  have:=h.ry;omega,λi=>lv (P:=yt n) (λk hk=>by
  have Z:=hi.RD.2 k hk;have af:=Z.sZ;have au:=Z.CE.1;exact⟨by omega,by omega,λj=>lv (P:=λx:Version=>x.bo.S.length<n) (λm hm=>by have:=(Z.CE.2 m hm).vy.CD;omega) (by show 0<n;omega) j⟩) ((Ia (n:=n) (by omega)).st.row 0) i⟩
section
variable {W:List aY} {a:Int}
end
abbrev lW(c:dY):bH:=⟨c.Rest.Pos,(mZ c.eg c.cd).1,c.Rest.bI,c.Rest.bO,c.Rest.Place,c.Rest.bd,c.Rest.Queue,c.Rest.b2⟩
def oy(c:dY)(acc:ap0)(l:List ap0):ap0×Int×Int:=
 bif (l.all (λx=>decide (x.length≤4096))&&decide ((acc++fX fE l).length≤16384))&&decide (((c.cq.length:Nat):Int)≤1099511627776-c.cd) then(acc++fX fE l,c.cd+((c.cq.length:Nat):Int),0) else([],0,2)
def Iv(c:dY):ap0×Int×Int:=
 bif !c.dE then([],0,16)else bif !decide ((mZ c.eg c.cd).2=0) then([],0,(mZ c.eg c.cd).2) else
 bif !decide ((encA (lW c)).2=0) then([],0,(encA (lW c)).2)else oy c (fE (encA (lW c)).1++eV c.cq.length) c.cq
def ab0{c:dY}{acc x:ap0}{l:List ap0}(h:x.length≤4096):oy c acc (x::l)=oy c (acc++fE x) l:=by
 unfold oy;rw [List.all_cons,decide_eq_true h,Bool.true_and,show fX fE (x::l)=fE x++fX fE l from rfl,←List.append_assoc]
def ab1{c:dY}{acc x:ap0}{l:List ap0}(h:¬ x.length≤4096):oy c acc (x::l)=([],0,2):=by
 unfold oy;rw [List.all_cons,decide_eq_false h];rfl
def an4{c:dY}{acc:ap0}{l:List ap0}(h:16384<acc.length):oy c acc l=([],0,2):=by
 unfold oy;rw [decide_eq_false (show¬ (acc++fX fE l).length≤16384 by rw [apT];omega),Bool.and_false,Bool.false_and];rfl
def ab2{c:dY}{acc:ap0}:oy c acc []=bif decide (16384<acc.length)||decide (1099511627776-c.cd<((c.cq.length:Nat):Int)) then([],0,2) else(acc,c.cd+((c.cq.length:Nat):Int),0):=by
 unfold oy;rw [show fX fE []=[]from rfl,List.append_nil,List.all_nil,Bool.true_and]
 by_cases Z:acc.length≤16384
 ·rw [decide_eq_true Z,decide_eq_false (show¬ 16384<acc.length by omega)]
  by_cases af:((c.cq.length:Nat):Int)≤1099511627776-c.cd
  ·rw [decide_eq_true af,decide_eq_false (show¬ 1099511627776-c.cd<((c.cq.length:Nat):Int)by omega)];rfl
  ·rw [decide_eq_false af,decide_eq_true (show 1099511627776-c.cd<((c.cq.length:Nat):Int)by omega)];rfl
 ·rw [decide_eq_false Z,decide_eq_true (show 16384<acc.length by omega)];rfl
def RU{l:List aY}{a:Int}(h:(mZ l a).2=0):oo l=true∧0≤a∧a≤1099511627776∧mZ l a=(rA l a,0):=by
 unfold mZ at h ⊢;cases Z:(!oo l||decide (a<0))||decide (1099511627776<a)
 ·simp only [Bool.or_eq_false_iff,Bool.not_eq_false',decide_eq_false_iff_not]at Z;exact⟨Z.1.1,by omega,by omega,rfl⟩
 ·rw [Z]at h;cases h
section
variable {n:Nat} (hn:3000000≤n) (bB:n≤9223372036854775808) {c:dY} (d9:0≤c.cd∧c.cd≤1099511627776) (aS:c.cq.length≤40) (bU:∀i,i<c.cq.length→(c.cq.getD i default).length≤5000)
include hn bB d9 aS bU
theorem ab3:ap2 (1099511627776-c.cd)=1099511627776-c.cd∧ap2 (c.cd+((c.cq.length:Nat):Int))=c.cd+((c.cq.length:Nat):Int):=by
 obtain⟨Z,af⟩:=d9;constructor
 ·rw [wr]<;>omega
 ·rw [wr]<;>omega
theorem an5:∀m i acc,c.cq.length<m+i→i≤c.cq.length→acc.length≤1000000→AV n c m (gt acc) (i:Int)=some (oy c acc (c.cq.drop i)):=by
 obtain⟨RV,D5⟩:=ab3 hn bB d9 aS bU;intro m;induction m with
 |zero=>intro i acc Z af;omega
 |succ m bc=>
  intro i acc Z af au;simp only [AV,NH,apS];by_cases hi:i<c.cq.length
  ·have hx:=bU i hi;simp only [hi,cr hi,apR,apJ,apL,bg,fm];rw [gE c.cq i default hi];by_cases ag:(c.cq.getD i default).length≤4096
   ·simp only [show¬ 4096<(c.cq.getD i default).length by omega,apK,apO,apL,AU,aD,yl,fm,apM]
    by_cases ha:16384<acc.length
    ·rw [decide_eq_true ha,an4 ha];rfl
    ·rw [decide_eq_false ha,ab0 ag];simp only [apM];have qX:=qs (s:=c.cq.getD i default) (by omega)
     rw [qq (by omega) (by omega),aD,ko (by omega),aD]
     simp only [dw (show i≤9223372036854775806 by omega)]
     exact bc (i+1) _ (by omega) (by omega) (by rw [apT];omega)
   ·simp only [show 4096<(c.cq.getD i default).length by omega,apJ,apN,apM,aD,apL]
    rw [ab1 ag]
  ·obtain rfl:i=c.cq.length:=by omega
   simp only [Nat.lt_irrefl,apK,apM,NG,AU,aD,yl,fm,List.drop_length,ab2,eb,RV,D5];cases decide (16384<acc.length)||decide (1099511627776-c.cd<((c.cq.length:Nat):Int))
   ·simp only [apM];rw [Ib (by omega),aD]
   ·rfl
theorem an6:∀m i acc,c.cq.length<m+i→i≤c.cq.length→acc.length≤100000+i*5100→Bv n c m (i:Int) acc=some (oy c acc (c.cq.drop i)):=by
 obtain⟨RV,D5⟩:=ab3 hn bB d9 aS bU;intro m;induction m with
 |zero=>intro i acc Z af;omega
 |succ m bc=>
  intro i acc Z af au;simp only [Bv,PD,apS];by_cases hi:i<c.cq.length
  ·have hx:=bU i hi;simp only [hi,cr hi,apR,apJ,apL,bg,fm];rw [gE c.cq i default hi];by_cases ag:(c.cq.getD i default).length≤4096
   ·simp only [show¬ 4096<(c.cq.getD i default).length by omega,apK,apM]
    have qX:=qs (s:=c.cq.getD i default) (by omega)
    rw [ab0 ag,qr (by omega) (by omega),aD,dB (by omega),bg]
    simp only [dw (show i≤9223372036854775806 by omega)]
    exact bc (i+1) _ (by omega) (by omega) (by rw [apT];omega)
   ·simp only [show 4096<(c.cq.getD i default).length by omega,apJ,apL]
    rw [ab1 ag]
  ·obtain rfl:i=c.cq.length:=by omega
   simp only [Nat.lt_irrefl,apK,apM,PC,fm,List.drop_length,ab2,eb,RV,D5];rw [Bool.or_comm];cases decide (16384<acc.length)||decide (1099511627776-c.cd<((c.cq.length:Nat):Int))<;>rfl
end
def an7{n:Nat}{l:List aY}{a:Int}(hn:2000≤n)(ag:l.length<n)(hk:∀i,i<l.length→(l.getD i default).Key.length<n∧(l.getD i default).bo.S.length<n):vp n (rA l a):=
 ⟨by
  rw [yC];exact ag,λi=>lv (P:=yt n) (λk lE=>by
  rw [yC]at lE;rw [RT lE];obtain⟨Z,af⟩:=hk k lE;refine⟨Z,by show 1<n;omega,λj=>?_⟩
  cases j with
  |zero=>exact af
  |succ j=>show 0<n;omega) ((Ia (n:=n) hn).st.row 0) i⟩
def an8{l:List aY}{a:Int}(ha:e5 a)(ag:l.length≤9223372036854775807)(h:∀i,i<l.length→Io (l.getD i default)):CF (rA l a):=
 ⟨ha,ha,by rw [yC];exact ag,λi hi=>by
  rw [yC]at hi;rw [RT hi];refine⟨(h i hi).sZ,by show 1≤_;omega,λj hj=>?_⟩
  obtain rfl:j=0:=by have:j<1:=hj;omega
  exact⟨ha,(h i hi).vy⟩⟩
section
variable {n:Nat} (hn:n=9223372036854775808) {c:dY} (a':Iu c) (hi:CG c)
include hn a' hi
theorem ab4(h0:(mZ c.eg c.cd).2=0):Ir n (lW c)∧s0 (lW c):=by
 obtain⟨_,_,_,e⟩:=RU h0;have ak:=a'.rest.cu hi.RN hn;have hp:=a'.pl;have pz:=hi.RN;have es:lW c=(⟨c.Rest.Pos,rA c.eg c.cd,c.Rest.bI,c.Rest.bO,c.Rest.Place,c.Rest.bd,c.Rest.Queue,c.Rest.b2⟩:bH):=by show(⟨_,(mZ c.eg c.cd).1,_,_,_,_,_,_⟩:bH)=_;rw [e]
 rw [es]
 refine⟨⟨⟨an7 (by omega) (by omega) λi h=>?_,ak.Cx,ak.pw,ak.vu,ak.nG,ak.pl,ak.yu,ak.bU,ak.jQ,ak.nH,ak.vv⟩,by rw [yC];omega,λi h=>?_,by have:=a'.rest.pl;show c.Rest.bI.length≤_;omega,a'.rest.jL⟩,
  ⟨pz.abO,an8 hi.abH hi.Ip.1 hi.Ip.2,pz.RK,pz.RL,pz.In,pz.RM,pz.abQ,pz.abR⟩⟩
 ·have:=hi.Ip.2 i h
  have Z:=this.sZ;have af:=this.vy.CD;omega
 ·rw [yC]at h;rw [RT h];show 1≤_;omega
theorem ab5(i:Nat):vl n (c.eg.getD i default):=lv (P:=vl n) (λk hk=>by
 have:=hi.Ip.2 k hk
 have Z:=this.sZ;have af:=this.vy.CD;exact⟨by omega,by omega⟩) ⟨by show 0<n;omega,by show 0<n;omega⟩ i
theorem ab6:IntKind.u64.wrap ((c.cq.length:Nat):Int)=((c.cq.length:Nat):Int):=by
 have:=a'.sK
 exact sL (by omega)
theorem an9:xm n c=some (Iv c):=by
 have hp:=a'.pl;have qX:=a'.sK;unfold xm Iv
 (try simp only [vr])
 cases c.dE
 ·rfl
 ·simp only [apN,apM];rw [ama (by omega) (by omega) (by omega) (by omega) (ab5 hn a' hi) c.cd,aD]
  cases h0:decide ((mZ c.eg c.cd).2=0)
  ·rfl
  ·simp only [apN,apM];obtain⟨hm,pz⟩:=ab4 hn a' hi (of_decide_eq_true h0);obtain⟨_,a7,a2,_⟩:=RU (of_decide_eq_true h0);rw [show AT n _=_ from anW (by omega) (by omega) hm pz,aD]
   cases Z:decide ((encA (lW c)).2=0)
   ·rfl
   ·simp only [apN,apM]
    have hlen:(encA (lW c)).1.length≤16384:=by
     have Z:=of_decide_eq_true Z;unfold encA at Z ⊢;cases hs:k9 (lW c)
     ·rw [hs]at Z;cases Z
     ·rw [hs]at Z;cases af:decide (16384<(((jb (qC (lW c))).length:Nat):Int))
      ·have:=of_decide_eq_false af
       simp only [apN,apM];omega
      ·rw [af]at Z;cases Z
    have e1:=qs (s:=(encA (lW c)).1) (by omega)
    have e2:=iA (u:=c.cq.length) (by omega)
    rw [qq (by omega) (by omega),aD,ab6 hn a' hi,rv (by omega) (by omega),aD,dB (by omega),bg,
     show([]:List Int)=gt []from rfl,ko (by rw [apT];simp;omega),aD,List.nil_append]
    exact an5 (by omega) (by omega) ⟨a7,a2⟩ qX a'.ts n 0 _ (by omega) (by omega) (by rw [apT];omega)
theorem an':G5 n c=some (Iv c):=by
 have hp:=a'.pl;have qX:=a'.sK;unfold G5 Iv
 (try simp only [vr])
 cases c.dE
 ·rfl
 ·simp only [apN,apM];rw [amb (by omega) (by omega) (by omega) (by omega) (ab5 hn a' hi) c.cd,aD]
  cases h0:decide ((mZ c.eg c.cd).2=0)
  ·rfl
  ·simp only [apN,apM];obtain⟨hm,pz⟩:=ab4 hn a' hi (of_decide_eq_true h0);obtain⟨_,a7,a2,_⟩:=RU (of_decide_eq_true h0);rw [show Bu n _=_ from anX (by omega) (by omega) hm pz,aD]
   cases Z:decide ((encA (lW c)).2=0)
   ·rfl
   ·simp only [apN,apM]
    have hlen:(encA (lW c)).1.length≤16384:=by
     have Z:=of_decide_eq_true Z;unfold encA at Z ⊢;cases hs:k9 (lW c)
     ·rw [hs]at Z;cases Z
     ·rw [hs]at Z;cases af:decide (16384<(((jb (qC (lW c))).length:Nat):Int))
      ·have:=of_decide_eq_false af
       simp only [apN,apM];omega
      ·rw [af]at Z;cases Z
    have e1:=qs (s:=(encA (lW c)).1) (by omega)
    have e2:=iA (u:=c.cq.length) (by omega)
    rw [qr (by omega) (by omega),aD,ab6 hn a' hi,rx (by omega) (by omega),aD,dB (by omega),bg]
    exact an6 (by omega) (by omega) ⟨a7,a2⟩ qX a'.ts n 0 _ (by omega) (by omega) (by rw [apT];omega)
end
def an_(c:dY)(hi:CG c):PE 9223372036854775808 c=some true:=by
 unfold PE
 (try simp only [an2])
 rcases an3 (n:=9223372036854775808) (by omega) c hi.RN.RK.2 with h|⟨a',h⟩
 ·simp only [h,aD,apO,apL,abY]
 ·rw [h,aD];simp only [apN,apM];rw [an9 rfl a' hi,aD,an' rfl a' hi,aD];simp only [apJ,apL,abY,aD]
end Go.Ab.Y

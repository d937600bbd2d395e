/- What each function computes, over plain data, with fuel. Printed by a program. -/
import Derived.Test.YtcjbfnojhpfchaaGreatDoorHand
set_option linter.all false
namespace Go.Ab.Y
open Go Go.Ab Go.Proofs
variable (n:Nat)
def EX(n:Nat)(c:Int):ae_:=some (cond (cond (cond (cond (cond (cond (decide (97≤c)) (decide (c≤122)) false) true (cond (decide (48≤c)) (decide (c≤57)) false)) true (decide (c=47))) true (decide (c=46))) true (decide (c=95))) true (decide (c=45)))
def EY(n:Nat):ae_:=some true
def zP(s:ae7)(aq:Int→ae_)(v5:Int):ae_:=cond (decide (v5<((s.length:Nat):Int))) ( aI (a_ v5 s.length)<|(EX n (((s.getD (v5).toNat 0).toNat:Nat):Int)).bind λcE=>cond (!cE) ( some false) ( aq (ae9 (v5+1)))) ( EY n)
def tz(n:Nat)(s:ae7):Nat→Int→ae_
 | 0=>λ_=>none
 |m+1=>zP n s (tz n s m)
def zQ(s:ae7):ae_:=cond (decide (24<((s.length:Nat):Int))) ( some false) ( tz n s n 0)
def rF(k:ae7):ae_:=Option.bind (cond (!(decide (k=([]:ae7)))) (zQ n k) (some default)) λah=>some (cond (!(decide (k=([]:ae7)))) ah false)
def EZ(n:Nat)(l:List ae7):ae_:=some (decide (((l.length:Nat):Int)≤64))
def zR(l:List ae7)(aq:Int→ae_)(v5:Int):ae_:=cond (decide (v5<((l.length:Nat):Int))) ( aI (a_ v5 l.length)<|(rF n (ae' l v5)).bind λcE=>aI ((!cE)||(!(decide (0<v5))||a_ (ae9 (v5-1)) l.length))<|cond (cond (!cE) true (cond (decide (0<v5)) ((Op.bytesLess (ae' l v5) (ae' l (ae9 (v5-1))))||(decide ((ae' l v5)=(ae' l (ae9 (v5-1)))))) false)) ( some false) ( aq (ae9 (v5+1)))) ( EZ n l)
def tA(n:Nat)(l:List ae7):Nat→Int→ae_
 | 0=>λ_=>none
 |m+1=>zR n l (tA n l m)
def wv(l:List ae7):ae_:=tA n l n 0
def ww(f:eK):ae_:=cond f.ee ( some (cond (decide (((f.Reads.length:Nat):Int)=0)) (decide (((f.cz.length:Nat):Int)=0)) false)) ( (wv n f.Reads).bind λak=>Option.bind (cond ak (wv n f.cz) (some default)) λaE=>some (cond ak aE false))
def E0(n:Nat):ae_:=some false
def gD(v1:Bool):ae_:=cond v1 ( some true) ( E0 n)
def wx(s:ae7):ae_:=cond (decide (s=([112,114,111,99]:ae7))) ( gD n (decide (s=([112,114,111,99]:ae7)))) ( cond (decide (s=([108,101,116]:ae7))) ( gD n (decide (s=([108,101,116]:ae7)))) ( cond (decide (s=([112,117,116]:ae7))) ( gD n (decide (s=([112,117,116]:ae7)))) ( cond (decide (s=([100,101,108,101,116,101]:ae7))) ( gD n (decide (s=([100,101,108,101,116,101]:ae7)))) ( cond (decide (s=([105,102]:ae7))) ( gD n (decide (s=([105,102]:ae7)))) ( cond (decide (s=([101,108,115,101]:ae7))) ( gD n (decide (s=([101,108,115,101]:ae7)))) ( cond (decide (s=([102,111,114]:ae7))) ( gD n (decide (s=([102,111,114]:ae7)))) ( cond (decide (s=([116,111]:ae7))) ( gD n (decide (s=([116,111]:ae7)))) ( cond (decide (s=([109,97,120]:ae7))) ( gD n (decide (s=([109,97,120]:ae7)))) ( cond (decide (s=([101,109,105,116]:ae7))) ( gD n (decide (s=([101,109,105,116]:ae7)))) ( cond (decide (s=([97,98,111,114,116]:ae7))) ( gD n (decide (s=([97,98,111,114,116]:ae7)))) ( cond (decide (s=([110,111,116]:ae7))) ( gD n (decide (s=([110,111,116]:ae7)))) ( cond (decide (s=([97,110,100]:ae7))) ( gD n (decide (s=([97,110,100]:ae7)))) ( cond (decide (s=([111,114]:ae7))) ( gD n (decide (s=([111,114]:ae7)))) ( cond (decide (s=([105,110,116]:ae7))) ( gD n (decide (s=([105,110,116]:ae7)))) ( cond (decide (s=([115,116,114]:ae7))) ( gD n (decide (s=([115,116,114]:ae7)))) ( cond (decide (s=([98,111,111,108]:ae7))) ( gD n (decide (s=([98,111,111,108]:ae7)))) ( cond (decide (s=([116,101,120,116]:ae7))) ( gD n (decide (s=([116,101,120,116]:ae7)))) ( cond (decide (s=([108,101,110]:ae7))) ( gD n (decide (s=([108,101,110]:ae7)))) ( cond (decide (s=([103,101,116,105,110,116]:ae7))) ( gD n (decide (s=([103,101,116,105,110,116]:ae7)))) ( cond (decide (s=([103,101,116,115,116,114]:ae7))) ( gD n (decide (s=([103,101,116,115,116,114]:ae7)))) ( cond (decide (s=([104,97,115]:ae7))) ( gD n (decide (s=([104,97,115]:ae7)))) ( cond (decide (s=([110,111,119]:ae7))) ( gD n (decide (s=([110,111,119]:ae7)))) ( cond (decide (s=([114,97,110,100,111,109]:ae7))) ( gD n (decide (s=([114,97,110,100,111,109]:ae7)))) ( gD n (decide (s=([110,111,100,101]:ae7)))))))))))))))))))))))))))
def wy(n:Nat)(c:Int):ae_:=some (cond (decide (97≤c)) (decide (c≤122)) false)
def o1(s:ae7):ae_:=aI (!(cond (!(decide (s=([]:ae7)))) (decide (((s.length:Nat):Int)≤16)) false)||a_ 0 s.length)<|Option.bind (cond (cond (!(decide (s=([]:ae7)))) (decide (((s.length:Nat):Int)≤16)) false) (wy n (IntKind.i32.wrap (((s.getD 0 0).toNat:Nat):Int))) (some default)) λak=>Option.bind (cond (cond (cond (!(decide (s=([]:ae7)))) (decide (((s.length:Nat):Int)≤16)) false) ak false) (tw n s) (some default)) λaE=>Option.bind (cond (cond (cond (cond (!(decide (s=([]:ae7)))) (decide (((s.length:Nat):Int)≤16)) false) ak false) (decide (aE=((s.length:Nat):Int))) false) (wx n s) (some default)) λbn=>some (cond (cond (cond (cond (!(decide (s=([]:ae7)))) (decide (((s.length:Nat):Int)≤16)) false) ak false) (decide (aE=((s.length:Nat):Int))) false) (!bn) false)
def MI(n:Nat)(s:ae7):ae_:=some (decide (((s.length:Nat):Int)≤64))
def E1(s:ae7)(aq:Int→ae_)(v4:Int):ae_:=cond (decide (v4<((s.length:Nat):Int))) ( aI (a_ v4 s.length)<|aI ((decide ((((s.getD (v4).toNat 0).toNat:Nat):Int)<32))||a_ v4 s.length)<|cond (cond (decide ((((s.getD (v4).toNat 0).toNat:Nat):Int)<32)) true (decide (126<(((s.getD (v4).toNat 0).toNat:Nat):Int)))) ( some false) ( aq (ae9 (v4+1)))) ( MI n s)
def wz(n:Nat)(s:ae7):Nat→Int→ae_
 | 0=>λ_=>none
 |m+1=>E1 n s (wz n s m)
def wA(s:ae7):ae_:=wz n s n 0
def pY(v:bv):ae_:=cond (decide (v.Kind=0)) ( some ((decide (v.Kind=0))&&((decide (v.N=0))&&((decide (v.S=([]:ae7)))&&true)))) ( cond (decide (v.Kind=1)) ( some (decide (v.S=([]:ae7)))) ( cond (decide (v.Kind=2)) ( Option.bind (cond (decide (v.N=0)) (wA n v.S) (some default)) λbn=>some (cond (decide (v.N=0)) bn false)) ( some false)))
def E2(v:bv):ae_:=Option.bind (cond (!(decide (v.Kind=0))) (pY n v) (some default)) λah=>some (cond (decide (v.Kind=0)) true (!ah))
def E3(n:Nat):afa:=some (-1)
def zS(s:List bv)(aq:Int→afa)(v4:Int):afa:=cond (decide (v4<((s.length:Nat):Int))) ( aI (a_ v4 s.length)<|(E2 n (ae' s v4)).bind λbQ=>cond bQ ( some v4) ( aq (ae9 (v4+1)))) ( E3 n)
def tB(n:Nat)(s:List bv):Nat→Int→afa
 | 0=>λ_=>none
 |m+1=>zS n s (tB n s m)
def E4(s:List bv):afa:=tB n s n 0
def E5(s:List bv):ae_:=(E4 n s).bind λah=>some (decide (0≤ah))
def nf(aj:Request):afa:=cond (cond (cond (cond (decide (aj.Client<1)) true (decide (32<aj.Client))) true (decide (aj.Seq<1))) true (decide (1099511627776<aj.Seq))) ( some 1) ( (o1 n aj.bb).bind λak=>cond (!ak) ( some 7) ( cond (decide (6<((aj.aw.length:Nat):Int))) ( some 2) ( (E5 n aj.aw).bind λcF=>cond cF ( some 1) ( (ww n aj.br).bind λcE=>cond (cond (cond (!cE) true aj.br.ee) true (cond (!aj.eA) (decide (0<(ae9 (((aj.br.Reads.length:Nat):Int)+((aj.br.cz.length:Nat):Int))))) false)) ( some 1) ( some 0)))))
def zT(n:Nat)(b:List Int)(c:Int):Option (List Int):=aI (room (b.length+([c]:List Int).length) 1)<|some (b++([c]:List Int))
def E6(v9:Int)(v10:List Int):Option ae7:=(zT n v10 (IntKind.u8.wrap v9)).bind λb6=>aI (mv b6)<|some (jv b6)
def E7(aq:Int→(List Int)→Option ae7)(v4:Int)(v5:List Int):Option ae7:=cond (decide (128≤v4)) ( (zT n v5 (qC .u8 (IntKind.u8.wrap v4) 128)).bind λbQ=>aq (mP .u64 v4 7) bQ) ( E6 n v4 v5)
def wB(n:Nat):Nat→Int→(List Int)→Option ae7
 | 0=>λ_ _=>none
 |m+1=>E7 n (wB n m)
def gk(u:Int):Option ae7:=wB n n u ([]:List Int)
def ng(s:ae7):Option ae7:=(gk n (IntKind.u64.wrap ((s.length:Nat):Int))).bind λah=>aI (ew (ah.length+s.length))<|some (ah++s)
def E8(n:Nat)(co:ae7):Option ae7:=some co
def zU(l:List ae7)(aq:Int→ae7→Option ae7)(bz:Int)(bM:ae7):Option ae7:=cond (decide (bz<((l.length:Nat):Int))) ( aI (a_ bz l.length)<|(ng n (ae' l bz)).bind λed=>aI (ew (bM.length+ed.length))<|aq (ae9 (bz+1)) (bM++ed)) ( E8 n bM)
def tC(n:Nat)(l:List ae7):Nat→Int→ae7→Option ae7
 | 0=>λ_ _=>none
 |m+1=>zU n l (tC n l m)
def wC(l:List ae7):Option ae7:=(gk n (IntKind.u64.wrap ((l.length:Nat):Int))).bind λah=>tC n l n 0 ah
def n1(gE:Int):Option ae7:=(gk n (nB .u64 (oD .u64 (IntKind.u64.wrap gE) 1) (IntKind.u64.wrap (mP .i64 gE 63)))).bind λah=>some ah
def rG(v:bv):Option ae7:=cond (decide (v.Kind=1)) ( (gk n 1).bind λak=>(n1 n v.N).bind λaE=>aI (ew (ak.length+aE.length))<|some (ak++aE)) ( cond (decide (v.Kind=2)) ( (gk n 2).bind λbQ=>(ng n v.S).bind λcE=>aI (ew (bQ.length+cE.length))<|some (bQ++cE)) ( (gk n 0).bind λcO=>some cO))
def E9(n:Nat)(b:Bool):Option ae7:=cond b ( some ([1]:ae7)) ( some ([0]:ae7))
def wD(n:Nat)(ib:ae7):Option ae7:=some ib
def wE(aj:Request)(cR:ae7):Option ae7:=(E9 n aj.eA).bind λeC=>aI (ew (cR.length+eC.length))<|cond aj.eA ( (wC n aj.br.Reads).bind λfQ=>(wC n aj.br.cz).bind λeN=>aI (ew (fQ.length+eN.length))<|aI (ew ((cR++eC).length+(fQ++eN).length))<|wD n ((cR++eC)++(fQ++eN))) ( wD n (cR++eC))
def zV(aj:Request)(dX:ae7→Int→Option ae7)(cv:ae7)(dR:Int):Option ae7:=cond (decide (dR<((aj.aw.length:Nat):Int))) ( aI (a_ dR aj.aw.length)<|(rG n (ae' aj.aw dR)).bind λfq=>aI (ew (cv.length+fq.length))<|dX (cv++fq) (ae9 (dR+1))) ( wE n aj cv)
def tD(n:Nat)(aj:Request):Nat→ae7→Int→Option ae7
 | 0=>λ_ _=>none
 |m+1=>zV n aj (tD n aj m)
def zW(aj:Request):Option ae7:=(nf n aj).bind λah=>cond (!decide (ah=0)) ( some ([]:ae7)) ( (gk n (IntKind.u64.wrap aj.Client)).bind λaE=>(gk n (IntKind.u64.wrap aj.Seq)).bind λbn=>aI (ew (aE.length+bn.length))<|(ng n aj.bb).bind λbQ=>aI (ew ((aE++bn).length+bQ.length))<|(gk n (IntKind.u64.wrap ((aj.aw.length:Nat):Int))).bind λdU=>aI (ew (((aE++bn)++bQ).length+dU.length))<|tD n aj n (((aE++bn)++bQ)++dU) 0)
def E'(n:Nat)(aV:ae7):Option ae7:=some aV
def zX(l:List Request)(aq:Int→ae7→Option ae7)(v9:Int)(v10:ae7):Option ae7:=cond (decide (v9<((l.length:Nat):Int))) ( aI (a_ v9 l.length)<|(nf n (⟨(ae' l v9).Client,(ae' l v9).Seq,(ae' l v9).bb,(ae' l v9).aw,(ae' l v9).eA,⟨((ae' l v9).br).ee,((ae' l v9).br).Reads,((ae' l v9).br).cz⟩⟩:Request)).bind λfr=>cond (!decide (fr=0)) ( some ([]:ae7)) ( (zW n (⟨(ae' l v9).Client,(ae' l v9).Seq,(ae' l v9).bb,(ae' l v9).aw,(ae' l v9).eA,⟨((ae' l v9).br).ee,((ae' l v9).br).Reads,((ae' l v9).br).cz⟩⟩:Request)).bind λdk=>aI (ew (v10.length+dk.length))<|aq (ae9 (v9+1)) (v10++dk))) ( E' n v10)
def tE(n:Nat)(l:List Request):Nat→Int→ae7→Option ae7
 | 0=>λ_ _=>none
 |m+1=>zX n l (tE n l m)
def tF(l:List Request):Option ae7:=cond (decide (64<((l.length:Nat):Int))) ( some ([]:ae7)) ( (gk n (IntKind.u64.wrap ((l.length:Nat):Int))).bind λak=>tE n l n 0 ak)
def E_(n:Nat):ae_:=some true
def zY(floor:Int)(last:Int)(aj:Row)(aq:Int→ae_)(bM:Int):ae_:=cond (decide (bM<((aj.bx.length:Nat):Int))) ( aI (a_ bM aj.bx.length)<|Option.bind (cond (!(cond (decide ((ae' aj.bx bM).fB<floor)) true (decide (last<(ae' aj.bx bM).fB)))) (pY n (⟨((ae' aj.bx bM).cj).Kind,((ae' aj.bx bM).cj).N,((ae' aj.bx bM).cj).S⟩:bv)) (some default)) λed=>cond (cond (cond (decide ((ae' aj.bx bM).fB<floor)) true (decide (last<(ae' aj.bx bM).fB))) true (!ed)) ( some false) ( aI (!(decide (0<bM))||a_ (ae9 (bM-1)) aj.bx.length)<|aI (!(decide (0<bM))||((decide ((ae' aj.bx bM).fB≤(ae' aj.bx (ae9 (bM-1))).fB))||a_ (ae9 (bM-1)) aj.bx.length))<|cond (cond (decide (0<bM)) (cond (decide ((ae' aj.bx bM).fB≤(ae' aj.bx (ae9 (bM-1))).fB)) true ((decide (((ae' aj.bx bM).cj).Kind=((ae' aj.bx (ae9 (bM-1))).cj).Kind))&&((decide (((ae' aj.bx bM).cj).N=((ae' aj.bx (ae9 (bM-1))).cj).N))&&((decide (((ae' aj.bx bM).cj).S=((ae' aj.bx (ae9 (bM-1))).cj).S))&&true)))) false) ( some false) ( aq (ae9 (bM+1))))) ( E_ n)
def tG(n:Nat)(floor:Int)(last:Int)(aj:Row):Nat→Int→ae_
 | 0=>λ_=>none
 |m+1=>zY n floor last aj (tG n floor last aj m)
def zZ(aj:Row)(floor:Int)(last:Int):ae_:=aI ((decide (((aj.bx.length:Nat):Int)=0))||a_ 0 aj.bx.length)<|cond (cond (decide (((aj.bx.length:Nat):Int)=0)) true (decide (((aj.bx.getD 0 default).cj).Kind=0))) ( some false) ( tG n floor last aj n 0)
def Fa(n:Nat):ae_:=some true
def z1(s:aD)(aq:Int→ae_)(bz:Int):ae_:=cond (decide (bz<((s.Rows.length:Nat):Int))) ( aI (a_ bz s.Rows.length)<|(rF n ((ae' s.Rows bz).Key)).bind λcO=>aI ((!cO)||(!(decide (0<bz))||a_ (ae9 (bz-1)) s.Rows.length))<|Option.bind (cond (!(cond (!cO) true (cond (decide (0<bz)) ((Op.bytesLess ((ae' s.Rows bz).Key) ((ae' s.Rows (ae9 (bz-1))).Key))||(decide (((ae' s.Rows bz).Key)=((ae' s.Rows (ae9 (bz-1))).Key)))) false))) (zZ n (ae' s.Rows bz) s.cy s.ct) (some default)) λb6=>cond (cond (cond (!cO) true (cond (decide (0<bz)) ((Op.bytesLess ((ae' s.Rows bz).Key) ((ae' s.Rows (ae9 (bz-1))).Key))||(decide (((ae' s.Rows bz).Key)=((ae' s.Rows (ae9 (bz-1))).Key)))) false)) true (!b6)) ( some false) ( aq (ae9 (bz+1)))) ( Fa n)
def tH(n:Nat)(s:aD):Nat→Int→ae_
 | 0=>λ_=>none
 |m+1=>z1 n s (tH n s m)
def tI(s:aD):ae_:=cond (cond (cond (decide (s.cy<0)) true (decide (s.ct<s.cy))) true (decide (1099511627776<s.ct))) ( some false) ( tH n s n 0)
def z6(n:Nat)(s:aD)(at_:Int):afa:=cond (cond (decide (at_<s.cy)) true (decide (s.ct<at_))) ( some 15) ( some 0)
def Fb(n:Nat)(v6:Int):afa:=some v6
def Fc(at_:Int)(aj:Row)(aq:Int→afa)(v3:Int):afa:=aI (!(decide (v3<((aj.bx.length:Nat):Int)))||a_ v3 aj.bx.length)<|cond (cond (decide (v3<((aj.bx.length:Nat):Int))) (decide ((ae' aj.bx v3).fB≤at_)) false) ( aq (ae9 (v3+1))) ( Fb n v3)
def wF(n:Nat)(at_:Int)(aj:Row):Nat→Int→afa
 | 0=>λ_=>none
 |m+1=>Fc n at_ aj (wF n at_ aj m)
def z7(aj:Row)(at_:Int):afa:=wF n at_ aj n 0
def z8(aj:Row)(at_:Int):Option bv:=(z7 n aj at_).bind λah=>cond (decide (ah=0)) ( some (⟨0,0,[]⟩:bv)) ( aI (a_ (ae9 (ah-1)) aj.bx.length)<|some (⟨((ae' aj.bx (ae9 (ah-1))).cj).Kind,((ae' aj.bx (ae9 (ah-1))).cj).N,((ae' aj.bx (ae9 (ah-1))).cj).S⟩:bv))
def Fd(n:Nat)(cP:List bS):Option ((List bS)×Int):=some (cP,0)
def wG(n:Nat)(aq:Int→(List bS)→Option ((List bS)×Int))(at_:Int)(s:aD)(v11:Int)(dR:List bS):Option ((List bS)×Int):=aq (ae9 (v11+1)) dR
def Fe(at_:Int)(s:aD)(aq:Int→(List bS)→Option ((List bS)×Int))(v11:Int)(v12:List bS):Option ((List bS)×Int):=cond (decide (v11<((s.Rows.length:Nat):Int))) ( aI (a_ v11 s.Rows.length)<|(z8 n (ae' s.Rows v11) at_).bind λeB=>cond (!decide (eB.Kind=0)) ( aI (room (v12.length+([(⟨(ae' s.Rows v11).Key,eB⟩:bS)]:List bS).length) 48)<|wG n aq at_ s v11 (v12++([(⟨(ae' s.Rows v11).Key,eB⟩:bS)]:List bS))) ( wG n aq at_ s v11 v12)) ( Fd n v12)
def wH(n:Nat)(at_:Int)(s:aD):Nat→Int→(List bS)→Option ((List bS)×Int)
 | 0=>λ_ _=>none
 |m+1=>Fe n at_ s (wH n at_ s m)
def wI(s:aD)(at_:Int):Option ((List bS)×Int):=(tI n s).bind λah=>cond (!ah) ( some (([]:List bS),1)) ( (z6 n s at_).bind λaE=>cond (!decide (aE=0)) ( some (([]:List bS),aE)) ( wH n at_ s n 0 ([]:List bS)))
def Ff(n:Nat)(kP:ae7):Option ae7:=some kP
def z'(p:ck)(aq:Int→ae7→Option ae7)(aV:Int)(cT:ae7):Option ae7:=cond (decide (aV<((p.aX.length:Nat):Int))) ( aI (a_ aV p.aX.length)<|(n1 n ((ae' p.aX aV).Id)).bind λeo=>(ng n ((ae' p.aX aV).fp)).bind λe0=>aI (ew (eo.length+e0.length))<|(n1 n ((ae' p.aX aV).Node)).bind λeC=>aI (ew ((eo++e0).length+eC.length))<|(n1 n ((ae' p.aX aV).hh)).bind λfQ=>aI (ew (((eo++e0)++eC).length+fQ.length))<|(ng n ((ae' p.aX aV).hH)).bind λdV=>aI (ew ((((eo++e0)++eC)++fQ).length+dV.length))<|aI (ew (cT.length+((((eo++e0)++eC)++fQ)++dV).length))<|aq (ae9 (aV+1)) (cT++((((eo++e0)++eC)++fQ)++dV))) ( Ff n cT)
def tJ(n:Nat)(p:ck):Nat→Int→ae7→Option ae7
 | 0=>λ_ _=>none
 |m+1=>z' n p (tJ n p m)
def wJ(p:ck):Option ae7:=(n1 n p.Version).bind λah=>(gk n (IntKind.u64.wrap ((p.aX.length:Nat):Int))).bind λak=>aI (ew (ah.length+ak.length))<|tJ n p n 0 (ah++ak)
def Fg(n:Nat)(y:Param)(aa:Param):ae_:=some (decide (y.Name=aa.Name))
def Fh(n:Nat)(aa:Param):afa:=some (-1)
def Fj(s:List Param)(aa:Param)(aq:Int→afa)(v4:Int):afa:=cond (decide (v4<((s.length:Nat):Int))) ( aI (a_ v4 s.length)<|(Fg n (ae' s v4) aa).bind λbQ=>cond bQ ( some v4) ( aq (ae9 (v4+1)))) ( Fh n aa)
def tK(n:Nat)(s:List Param)(aa:Param):Nat→Int→afa
 | 0=>λ_=>none
 |m+1=>Fj n s aa (tK n s aa m)
def Fk(s:List Param)(aa:Param):afa:=tK n s aa n 0
def z_(s:List Param)(aa:Param):ae_:=(Fk n s aa).bind λah=>some (decide (0≤ah))
def Fl(n:Nat):afa:=some 0
def Fm(l:List Param)(aq:Int→afa)(bz:Int):afa:=cond (decide (bz<((l.length:Nat):Int))) ( aI (a_ bz l.length)<|(o1 n ((ae' l bz).Name)).bind λcO=>cond (!cO) ( some 7) ( cond (cond (decide ((ae' l bz).gc<1)) true (decide (3<(ae' l bz).gc))) ( some 10) ( aI (gh bz l.length)<|(z_ n (l.take (bz).toNat) (ae' l bz)).bind λb6=>cond b6 ( some 8) ( aq (ae9 (bz+1)))))) ( Fl n)
def tL(n:Nat)(l:List Param):Nat→Int→afa
 | 0=>λ_=>none
 |m+1=>Fm n l (tL n l m)
def Aa(l:List Param):afa:=cond (decide (6<((l.length:Nat):Int))) ( some 2) ( tL n l n 0)
def Ac(n:Nat)(op:Int):afa:=cond (cond (decide (op<1)) true (decide (27<op))) ( some (-1)) ( cond (cond (decide (op≤3)) true (decide (25≤op))) ( some 0) ( cond (cond (cond (decide (op=9)) true (decide (op=18))) true (decide (20≤op))) ( some 1) ( some 2)))
def Fn(n:Nat)(s:ae7):ae_:=some (decide (((s.length:Nat):Int)≤64))
def Fo(s:ae7)(aq:Int→ae_)(v4:Int):ae_:=cond (decide (v4<((s.length:Nat):Int))) ( aI (a_ v4 s.length)<|aI ((decide ((((s.getD (v4).toNat 0).toNat:Nat):Int)<32))||a_ v4 s.length)<|cond (cond (decide ((((s.getD (v4).toNat 0).toNat:Nat):Int)<32)) true (decide (126<(((s.getD (v4).toNat 0).toNat:Nat):Int)))) ( some false) ( aq (ae9 (v4+1)))) ( Fn n s)
def tM(n:Nat)(s:ae7):Nat→Int→ae_
 | 0=>λ_=>none
 |m+1=>Fo n s (tM n s m)
def Fp(s:ae7):ae_:=tM n s n 0
def Ad(e:Expr)(depth:Int):afa:=(Ac n e.Op).bind λah=>cond (cond (cond (decide (ah<0)) true (cond (!decide (e.Op=1)) (!decide (e.N=0)) false)) true (cond (cond (!decide (e.Op=2)) (!decide (e.Op=3)) false) (!(decide (e.S=([]:ae7)))) false)) ( some 1) ( Option.bind (cond (decide (e.Op=3)) (o1 n e.S) (some default)) λaE=>cond (cond (decide (e.Op=3)) (!aE) false) ( some 7) ( Option.bind (cond ((!(cond (decide (e.Op=1)) (decide (e.N<0)) false))&&(decide (e.Op=2))) (Fp n e.S) (some default)) λcF=>cond (cond (cond (cond (decide (e.Op=1)) (decide (e.N<0)) false) true (cond (decide (e.Op=2)) (!cF) false)) true (!decide (((e.aw.length:Nat):Int)=ah))) ( some 1) ( cond (decide (12<depth)) ( some 2) ( some 0))))
def Fq(n:Nat)(ll:Expr→Int→afa):afa:=some 0
def Fr(ll:Expr→Int→afa)(depth:Int)(e:Expr)(aq:Int→afa)(v6:Int):afa:=cond (decide (v6<((e.aw.length:Nat):Int))) ( aI (a_ v6 e.aw.length)<|(ll (ae' e.aw v6) (ae9 (depth+1))).bind λdU=>cond (!decide (dU=0)) ( some dU) ( aq (ae9 (v6+1)))) ( Fq n ll)
def wK(n:Nat)(ll:Expr→Int→afa)(depth:Int)(e:Expr):Nat→Int→afa
 | 0=>λ_=>none
 |m+1=>Fr n ll depth e (wK n ll depth e m)
def Fs(ll:Expr→Int→afa)(e:Expr)(depth:Int):afa:=(Ad n e depth).bind λah=>cond (!decide (ah=0)) ( some ah) ( wK n ll depth e n 0)
def tN:Nat→Expr→Int→afa
 | 0=>λ_ _=>none
 |m+1=>Fs m (tN m)
def wL(e:Expr):afa:=(tN n e 1).bind λah=>some ah
def tO(n:Nat)(e:Expr):ae_:=some (cond (cond (cond (decide (e.Op=0)) (decide (e.N=0)) false) (decide (e.S=([]:ae7))) false) (decide (((e.aw.length:Nat):Int)=0)) false)
def Ae(s:Stmt)(u:i_):ae_:=Option.bind (cond ((!(cond (!u.name) (!(decide (s.Name=([]:ae7)))) false))&&(!u.a)) (tO n (⟨s.A.Op,s.A.N,s.A.S,s.A.aw⟩:Expr)) (some default)) λah=>Option.bind (cond ((!(cond (cond (!u.name) (!(decide (s.Name=([]:ae7)))) false) true (cond (!u.a) (!ah) false)))&&(!u.b)) (tO n (⟨s.B.Op,s.B.N,s.B.S,s.B.aw⟩:Expr)) (some default)) λak=>cond (cond (cond (cond (cond (cond (cond (!u.name) (!(decide (s.Name=([]:ae7)))) false) true (cond (!u.a) (!ah) false)) true (cond (!u.b) (!ak) false)) true (cond (!u.max) (!decide (s.Max=0)) false)) true (cond (!u.body) (decide (0<((s.Body.length:Nat):Int))) false)) true (cond (!u.other) (decide (0<((s.bR.length:Nat):Int))) false)) ( some false) ( cond (decide (s.Op=6)) ( some (cond (decide (1≤s.Max)) (decide (s.Max≤16)) false)) ( cond (decide (s.Op=8)) ( some (cond (decide (0≤s.Max)) (decide (s.Max≤999)) false)) ( some true)))
def Ft(n:Nat):Option (i_×Bool):=some ((⟨false,false,false,false,false,false⟩:i_),false)
def Af(op:Int)(v2:Bool):Option (i_×Bool):=cond v2 ( some ((⟨false,true,false,false,false,false⟩:i_),true)) ( cond (decide (op=5)) ( some ((⟨false,true,false,false,true,true⟩:i_),true)) ( cond (decide (op=6)) ( some ((⟨true,true,true,true,true,false⟩:i_),true)) ( cond (decide (op=8)) ( some ((⟨false,false,false,true,false,false⟩:i_),true)) ( Ft n))))
def Ag(op:Int)(v1:Bool):Option (i_×Bool):=cond v1 ( some ((⟨true,true,false,false,false,false⟩:i_),true)) ( cond (decide (op=3)) ( some ((⟨false,true,true,false,false,false⟩:i_),true)) ( cond (decide (op=4)) ( Af n op (decide (op=4))) ( Af n op (decide (op=7)))))
def Ah(op:Int):Option (i_×Bool):=cond (decide (op=1)) ( Ag n op (decide (op=1))) ( Ag n op (decide (op=2)))
def Ai(n:Nat)(depth:Int):afa:=cond (decide (12<depth)) ( some 2) ( some 0)
def Aj(depth:Int)(s:Stmt)(ah:i_×Bool):afa:=cond ah.1.b ( (wL n (⟨s.B.Op,s.B.N,s.B.S,s.B.aw⟩:Expr)).bind λcE=>cond (!decide (cE=0)) ( some cE) ( Ai n depth)) ( Ai n depth)
def Ak(s:Stmt)(depth:Int):afa:=(Ah n s.Op).bind λah=>Option.bind (cond (!(!ah.2)) (Ae n (⟨s.Op,s.Name,s.Max,⟨s.A.Op,s.A.N,s.A.S,s.A.aw⟩,⟨s.B.Op,s.B.N,s.B.S,s.B.aw⟩,s.Body,s.bR⟩:Stmt) ah.1) (some default)) λak=>cond (cond (!ah.2) true (!ak)) ( some 1) ( Option.bind (cond ah.1.name (o1 n s.Name) (some default)) λbn=>cond (cond ah.1.name (!bn) false) ( some 7) ( cond ah.1.a ( (wL n (⟨s.A.Op,s.A.N,s.A.S,s.A.aw⟩:Expr)).bind λbQ=>cond (!decide (bQ=0)) ( some bQ) ( Aj n depth s ah)) ( Aj n depth s ah)))
def Al(s:Stmt)(depth:Int)(aa:Int):afa:=cond (decide (aa=0)) ( (Ak n (⟨s.Op,s.Name,s.Max,⟨s.A.Op,s.A.N,s.A.S,s.A.aw⟩,⟨s.B.Op,s.B.N,s.B.S,s.B.aw⟩,s.Body,s.bR⟩:Stmt) depth).bind λak=>some ak) ( some aa)
def Fu(n:Nat)(a0:Expr):Option Unit:=some ()
def Fv(n:Nat)(nh:Expr→Int→Int→afa)(e:Expr)(fu:Int)(cq:Int→Int→afa)(v6:Int)(bz:Int):afa:=cond (decide (bz<((e.aw.length:Nat):Int))) ( aI (a_ bz e.aw.length)<|(nh (ae' e.aw bz) v6 fu).bind λcO=>cq cO (ae9 (bz+1))) ( some v6)
def wM(n:Nat)(nh:Expr→Int→Int→afa)(e:Expr)(fu:Int):Nat→Int→Int→afa
 | 0=>λ_ _=>none
 |m+1=>Fv n nh e fu (wM n nh e fu m)
def Fw(nh:Expr→Int→Int→afa)(e:Expr)(hR:Int)(fu:Int):afa:=cond (decide (hR=0)) ( some hR) ( wM n nh e fu n (ae9 (hR-1)) 0)
def tP:Nat→Expr→Int→Int→afa
 | 0=>λ_ _ _=>none
 |m+1=>Fw m (tP m)
def wN(e:Expr)(hR:Int)(fu:Int):afa:=Option.bind (cond (!(decide (hR=0))) (tO n e) (some default)) λah=>cond (cond (decide (hR=0)) true ah) ( some hR) ( (Fu n e).bind λaE=>(tP n e hR fu).bind λbn=>some bn)
def Fx(mz:(List Stmt)→Int→Int→Int→Option (Int×Int))(depth:Int)(l:List Stmt)(cq:Int→Int→Int→Option (Int×Int))(v10:Int)(v11:Int)(v12:Int):Option (Int×Int):=cond (decide (v12<((l.length:Nat):Int))) ( aI (a_ v12 l.length)<|cond (decide (v10=0)) ( some (v10,v11)) ( (Al n (⟨(ae' l v12).Op,(ae' l v12).Name,(ae' l v12).Max,⟨((ae' l v12).A).Op,((ae' l v12).A).N,((ae' l v12).A).S,((ae' l v12).A).aw⟩,⟨((ae' l v12).B).Op,((ae' l v12).B).N,((ae' l v12).B).S,((ae' l v12).B).aw⟩,(ae' l v12).Body,(ae' l v12).bR⟩:Stmt) depth v11).bind λeB=>(wN n (⟨((ae' l v12).A).Op,((ae' l v12).A).N,((ae' l v12).A).S,((ae' l v12).A).aw⟩:Expr) (ae9 (v10-1)) eB).bind λdl=>(wN n (⟨((ae' l v12).B).Op,((ae' l v12).B).N,((ae' l v12).B).S,((ae' l v12).B).aw⟩:Expr) dl eB).bind λep=>(mz ((ae' l v12).Body) (ae9 (depth+1)) ep eB).bind λeF=>(mz ((ae' l v12).bR) (ae9 (depth+1)) eF.1 eF.2).bind λfq=>cq fq.1 fq.2 (ae9 (v12+1)))) ( some (v10,v11))
def wO(n:Nat)(mz:(List Stmt)→Int→Int→Int→Option (Int×Int))(depth:Int)(l:List Stmt):Nat→Int→Int→Int→Option (Int×Int)
 | 0=>λ_ _ _=>none
 |m+1=>Fx n mz depth l (wO n mz depth l m)
def Fy(mz:(List Stmt)→Int→Int→Int→Option (Int×Int))(l:List Stmt)(depth:Int)(hR:Int)(fu:Int):Option (Int×Int):=wO n mz depth l n hR fu 0
def rH:Nat→(List Stmt)→Int→Int→Int→Option (Int×Int)
 | 0=>λ_ _ _ _=>none
 |m+1=>Fy m (rH m)
def Fz(p:bb)(aa:Int):Option (Int×Int):=(rH n p.Body 1 401 aa).bind λah=>some ((ae9 (401-ah.1)),ah.2)
def wP(p:bb):afa:=(o1 n p.Name).bind λah=>cond (!ah) ( some 7) ( (Aa n p.Params).bind λaE=>cond (!decide (aE=0)) ( some aE) ( (Fz n p aE).bind λcF=>cond (cond (decide (cF.2=0)) (decide (400<cF.1)) false) ( some 2) ( some cF.2)))
def Am(n:Nat)(ty:Int):Option ae7:=cond (decide (ty=1)) ( some ([105,110,116]:ae7)) ( cond (decide (ty=2)) ( some ([115,116,114]:ae7)) ( some ([98,111,111,108]:ae7)))
def n2(n:Nat)(op:Int):Option (Unit ⊕ Unit ⊕ Unit ⊕ Unit ⊕ Unit ⊕ Unit ⊕ Unit ⊕ Unit):=cond (decide (op=1)) ( some (.inl ())) ( cond (decide (op=2)) ( some (.inr (.inl ()))) ( cond (decide (op=3)) ( some (.inr (.inr (.inl ())))) ( cond (decide (op=4)) ( some (.inr (.inr (.inr (.inl ()))))) ( cond (decide (op=5)) ( some (.inr (.inr (.inr (.inr (.inl ())))))) ( cond (decide (op=6)) ( some (.inr (.inr (.inr (.inr (.inr (.inl ()))))))) ( cond (decide (op=7)) ( some (.inr (.inr (.inr (.inr (.inr (.inr (.inl ())))))))) ( some (.inr (.inr (.inr (.inr (.inr (.inr (.inr ()))))))))))))))
def rI(gE:Int):Option ae7:=(zM n gE 10).bind λah=>some ah
def tQ(n:Nat)(bE:List Int)(bJ:Int):Option Unit:=some ()
def An(c:Int)(bE:List Int)(bJ:Int):Option (List Int):=(tQ n bE bJ).bind λah=>aI (room (bE.length+([c]:List Int).length) 1)<|some (bE++([c]:List Int))
def wQ(s:ae7)(bE:List Int)(bJ:Int):Option (Int×(List Int)):=(tQ n bE bJ).bind λah=>aI (room (bE.length+s.length) 1)<|some (((s.length:Nat):Int),(bE++s.map λb=>(b.toNat:Int)))
def FA(bJ:Int)(v20:List Int):Option (List Int):=(An n 10 v20 bJ).bind λe0=>some e0
def FB(parts:List ae7)(bJ:Int)(dX:(List Int)→Int→Option (List Int))(co:List Int)(cv:Int):Option (List Int):=cond (decide (cv<((parts.length:Nat):Int))) ( aI (a_ cv parts.length)<|(wQ n (ae' parts cv) co bJ).bind λeF=>dX eF.2 (ae9 (cv+1))) ( FA n bJ co)
def wR(n:Nat)(parts:List ae7)(bJ:Int):Nat→(List Int)→Int→Option (List Int)
 | 0=>λ_ _=>none
 |m+1=>FB n parts bJ (wR n parts bJ m)
def FC(parts:List ae7)(bJ:Int)(v9:List Int):Option (List Int):=wR n parts bJ n v9 0
def FD(parts:List ae7)(bJ:Int)(du:(List Int)→Int→Option (List Int))(v4:List Int)(v5:Int):Option (List Int):=cond (decide (v5<bJ)) ( (wQ n ([32,32,32,32]:ae7) v4 bJ).bind λbQ=>du bQ.2 (ae9 (v5+1))) ( FC n parts bJ v4)
def wS(n:Nat)(parts:List ae7)(bJ:Int):Nat→(List Int)→Int→Option (List Int)
 | 0=>λ_ _=>none
 |m+1=>FD n parts bJ (wS n parts bJ m)
def ko(parts:List ae7)(bE:List Int)(bJ:Int):Option (List Int):=wS n parts bJ n bE 0
def FE(s:Stmt)(bE:List Int)(bJ:Int):Option (List Int):=(rI n s.Max).bind λah=>(ko n ([([97,98,111,114,116,32]:ae7),ah,([59]:ae7)]:List ae7) bE bJ).bind λak=>some ak
def FF(n:Nat):ae_:=some true
def FG(s:ae7)(aq:Int→ae_)(v4:Int):ae_:=cond (decide (v4<((s.length:Nat):Int))) ( aI (a_ v4 s.length)<|aI ((decide ((((s.getD (v4).toNat 0).toNat:Nat):Int)<32))||a_ v4 s.length)<|cond (cond (decide ((((s.getD (v4).toNat 0).toNat:Nat):Int)<32)) true (decide (126<(((s.getD (v4).toNat 0).toNat:Nat):Int)))) ( some false) ( aq (ae9 (v4+1)))) ( FF n)
def wT(n:Nat)(s:ae7):Nat→Int→ae_
 | 0=>λ_=>none
 |m+1=>FG n s (wT n s m)
def FH(s:ae7):ae_:=wT n s n 0
def o2(n:Nat)(bE:List Int):Option (ae7×(List Int)):=aI (mv bE&&decide (bE.length≤9223372036854775807))<|some (jv bE,bE)
def tR(n:Nat)(bE:List Int):Option Unit:=some ()
def n3(c:Int)(bE:List Int):Option (List Int):=(tR n bE).bind λah=>aI (room (bE.length+([c]:List Int).length) 1)<|some (bE++([c]:List Int))
def FI(gK:List Int):Option (ae7×Int):=(n3 n 34 gK).bind λeN=>(o2 n eN).bind λdV=>some (dV.1,0)
def FJ(n:Nat)(aq:(List Int)→Int→Option (ae7×Int))(s:ae7)(cv:Int)(cR:List Int):Option (ae7×Int):=aq cR (ae9 (cv+1))
def Ao(aq:(List Int)→Int→Option (ae7×Int))(s:ae7)(cv:Int)(cP:List Int):Option (ae7×Int):=aI (a_ cv s.length)<|(n3 n (((s.getD (cv).toNat 0).toNat:Nat):Int) cP).bind λe0=>FJ n aq s cv e0
def FK(s:ae7)(aq:(List Int)→Int→Option (ae7×Int))(co:List Int)(cv:Int):Option (ae7×Int):=cond (decide (cv<((s.length:Nat):Int))) ( aI (a_ cv s.length)<|aI ((decide ((((s.getD (cv).toNat 0).toNat:Nat):Int)=34))||a_ cv s.length)<|cond (cond (decide ((((s.getD (cv).toNat 0).toNat:Nat):Int)=34)) true (decide ((((s.getD (cv).toNat 0).toNat:Nat):Int)=92))) ( (n3 n 92 co).bind λfq=>Ao n aq s cv fq) ( Ao n aq s cv co)) ( FI n co)
def wU(n:Nat)(s:ae7):Nat→(List Int)→Int→Option (ae7×Int)
 | 0=>λ_ _=>none
 |m+1=>FK n s (wU n s m)
def Ap(s:ae7):Option (ae7×Int):=cond (decide (64<((s.length:Nat):Int))) ( some (([]:ae7),2)) ( (FH n s).bind λak=>cond (!ak) ( some (([]:ae7),1)) ( (n3 n 34 ([]:List Int)).bind λbn=>wU n s n bn 0))
def FL(n:Nat):afa:=some 9
def wV(op:Int)(v3:Bool):afa:=cond v3 ( some 7) ( cond (decide (op=9)) ( some 8) ( FL n))
def Aq(op:Int)(v2:Bool):afa:=cond v2 ( some 6) ( cond (decide (op=6)) ( wV n op (decide (op=6))) ( cond (decide (op=7)) ( wV n op (decide (op=7))) ( wV n op (decide (op=8)))))
def pZ(op:Int)(v1:Bool):afa:=cond v1 ( some 4) ( cond (decide (op=19)) ( some 5) ( cond (decide (op=4)) ( Aq n op (decide (op=4))) ( Aq n op (decide (op=5)))))
def wW(op:Int):afa:=cond (decide (op=17)) ( some 1) ( cond (decide (op=16)) ( some 2) ( cond (decide (op=18)) ( some 3) ( cond (decide (op=10)) ( pZ n op (decide (op=10))) ( cond (decide (op=11)) ( pZ n op (decide (op=11))) ( cond (decide (op=12)) ( pZ n op (decide (op=12))) ( cond (decide (op=13)) ( pZ n op (decide (op=13))) ( cond (decide (op=14)) ( pZ n op (decide (op=14))) ( pZ n op (decide (op=15))))))))))
def Ar(n:Nat)(op:Int):Option ae7:=cond (decide (op=17)) ( some ([111,114]:ae7)) ( cond (decide (op=16)) ( some ([97,110,100]:ae7)) ( cond (decide (op=10)) ( some ([61,61]:ae7)) ( cond (decide (op=11)) ( some ([33,61]:ae7)) ( cond (decide (op=12)) ( some ([60]:ae7)) ( cond (decide (op=13)) ( some ([60,61]:ae7)) ( cond (decide (op=14)) ( some ([62]:ae7)) ( cond (decide (op=15)) ( some ([62,61]:ae7)) ( cond (decide (op=19)) ( some ([43,43]:ae7)) ( cond (decide (op=4)) ( some ([43]:ae7)) ( cond (decide (op=5)) ( some ([45]:ae7)) ( cond (decide (op=6)) ( some ([42]:ae7)) ( cond (decide (op=7)) ( some ([47]:ae7)) ( some ([37]:ae7))))))))))))))
def As(n:Nat)(op:Int):Option ae7:=cond (decide (op=20)) ( some ([116,101,120,116]:ae7)) ( cond (decide (op=21)) ( some ([108,101,110]:ae7)) ( cond (decide (op=22)) ( some ([103,101,116,105,110,116]:ae7)) ( cond (decide (op=23)) ( some ([103,101,116,115,116,114]:ae7)) ( cond (decide (op=24)) ( some ([104,97,115]:ae7)) ( cond (decide (op=25)) ( some ([110,111,119]:ae7)) ( cond (decide (op=26)) ( some ([114,97,110,100,111,109]:ae7)) ( cond (decide (op=27)) ( some ([110,111,100,101]:ae7)) ( some ([]:ae7)))))))))
def At(n4:Expr→Option ae7)(l4:Expr→Int→Option ae7)(e:Expr):Option ae7:=(wW n e.Op).bind λah=>cond (decide (e.Op=1)) ( (rI n e.N).bind λaE=>some aE) ( cond (decide (e.Op=2)) ( (Ap n e.S).bind λcF=>some cF.1) ( cond (decide (e.Op=3)) ( some e.S) ( cond (decide (e.Op=18)) ( aI (a_ 0 e.aw.length)<|(l4 (e.aw.getD 0 default) ah).bind λcO=>aI (ew (([110,111,116,32]:ae7).length+cO.length))<|some (([110,111,116,32]:ae7)++cO)) ( cond (decide (e.Op=9)) ( aI (a_ 0 e.aw.length)<|(l4 (e.aw.getD 0 default) ah).bind λdk=>aI (ew (([45]:ae7).length+dk.length))<|some (([45]:ae7)++dk)) ( cond (cond (decide (ah=9)) (decide (((e.aw.length:Nat):Int)=0)) false) ( (As n e.Op).bind λep=>aI (ew (ep.length+([40,41]:ae7).length))<|some (ep++([40,41]:ae7))) ( cond (decide (ah=9)) ( (As n e.Op).bind λfy=>aI (ew (fy.length+([40]:ae7).length))<|aI (a_ 0 e.aw.length)<|(n4 (e.aw.getD 0 default)).bind λdW=>aI (ew ((fy++([40]:ae7)).length+dW.length))<|aI (ew (((fy++([40]:ae7))++dW).length+([41]:ae7).length))<|some (((fy++([40]:ae7))++dW)++([41]:ae7))) ( cond (decide (ah=4)) ( aI (a_ 0 e.aw.length)<|(l4 (e.aw.getD 0 default) 5).bind λdV=>aI (ew (dV.length+([32]:ae7).length))<|(Ar n e.Op).bind λfv=>aI (ew ((dV++([32]:ae7)).length+fv.length))<|aI (ew (((dV++([32]:ae7))++fv).length+([32]:ae7).length))<|aI (a_ 1 e.aw.length)<|(l4 (e.aw.getD 1 default) 5).bind λp0=>aI (ew ((((dV++([32]:ae7))++fv)++([32]:ae7)).length+p0.length))<|some ((((dV++([32]:ae7))++fv)++([32]:ae7))++p0)) ( aI (a_ 0 e.aw.length)<|(l4 (e.aw.getD 0 default) ah).bind λtS=>aI (ew (tS.length+([32]:ae7).length))<|(Ar n e.Op).bind λwX=>aI (ew ((tS++([32]:ae7)).length+wX.length))<|aI (ew (((tS++([32]:ae7))++wX).length+([32]:ae7).length))<|aI (a_ 1 e.aw.length)<|(l4 (e.aw.getD 1 default) (ae9 (ah+1))).bind λlm=>aI (ew ((((tS++([32]:ae7))++wX)++([32]:ae7)).length+lm.length))<|some ((((tS++([32]:ae7))++wX)++([32]:ae7))++lm)))))))))
def Au(n4:Expr→Option ae7)(l4:Expr→Int→Option ae7)(e:Expr)(least:Int):Option ae7:=(wW n e.Op).bind λah=>cond (decide (ah<least)) ( (n4 e).bind λaE=>aI (ew (([40]:ae7).length+aE.length))<|aI (ew ((([40]:ae7)++aE).length+([41]:ae7).length))<|some ((([40]:ae7)++aE)++([41]:ae7))) ( (n4 e).bind λbQ=>some bQ)
def tT:Nat→(Expr→Option ae7)×(Expr→Int→Option ae7)
 | 0=>(λ_=>none,λ_ _=>none)
 |m+1=>(At m ((tT m).1) ((tT m).2),Au m ((tT m).1) ((tT m).2))
def jU:Expr→Option ae7:=(tT n).1
def rJ:Expr→Int→Option ae7:=(tT n).2
def FM(s:Stmt)(bE:List Int)(bJ:Int):Option (List Int):=(jU n (⟨s.A.Op,s.A.N,s.A.S,s.A.aw⟩:Expr)).bind λah=>(ko n ([s.Name,([32,61,32]:ae7),ah,([59]:ae7)]:List ae7) bE bJ).bind λak=>some ak
def FN(s:Stmt)(bE:List Int)(bJ:Int):Option (List Int):=(jU n (⟨s.A.Op,s.A.N,s.A.S,s.A.aw⟩:Expr)).bind λah=>(ko n ([([108,101,116,32]:ae7),s.Name,([32,61,32]:ae7),ah,([59]:ae7)]:List ae7) bE bJ).bind λak=>some ak
def FO(s:Stmt)(bE:List Int)(bJ:Int):Option (List Int):=(jU n (⟨s.A.Op,s.A.N,s.A.S,s.A.aw⟩:Expr)).bind λah=>(ko n ([([101,109,105,116,32]:ae7),ah,([59]:ae7)]:List ae7) bE bJ).bind λak=>some ak
def FP(s:Stmt)(bE:List Int)(bJ:Int):Option (List Int):=(jU n (⟨s.A.Op,s.A.N,s.A.S,s.A.aw⟩:Expr)).bind λah=>(jU n (⟨s.B.Op,s.B.N,s.B.S,s.B.aw⟩:Expr)).bind λak=>(ko n ([([112,117,116,32]:ae7),ah,([32,61,32]:ae7),ak,([59]:ae7)]:List ae7) bE bJ).bind λaE=>some aE
def FQ(s:Stmt)(bE:List Int)(bJ:Int):Option (List Int):=(jU n (⟨s.A.Op,s.A.N,s.A.S,s.A.aw⟩:Expr)).bind λah=>(ko n ([([100,101,108,101,116,101,32]:ae7),ah,([59]:ae7)]:List ae7) bE bJ).bind λak=>some ak
def FR(n:Nat)(gv:(List Stmt)→(List Int)→Int→Option ((List Int)×Int))(gL:Stmt→(List Int)→Int→Option ((List Int)×Int))(gM:Stmt→(List Int)→Int→Option ((List Int)×Int))(kP:List Int)(gw:Int):Option ((List Int)×Int):=some (kP,(ae9 (gw-1)))
def FSb(gv:(List Stmt)→(List Int)→Int→Option ((List Int)×Int))(gL:Stmt→(List Int)→Int→Option ((List Int)×Int))(gM:Stmt→(List Int)→Int→Option ((List Int)×Int))(l:List Stmt)(aq:(List Int)→Int→Int→Option ((List Int)×Int))(cv:List Int)(dR:Int)(aV:Int):Option ((List Int)×Int):=cond (decide (aV<((l.length:Nat):Int))) ( aI (a_ aV l.length)<|(n2 n ((ae' l aV).Op)).bind λfy=>gB.on fy (λWQ=>(FN n (⟨(ae' l aV).Op,(ae' l aV).Name,(ae' l aV).Max,⟨((ae' l aV).A).Op,((ae' l aV).A).N,((ae' l aV).A).S,((ae' l aV).A).aw⟩,⟨((ae' l aV).B).Op,((ae' l aV).B).N,((ae' l aV).B).S,((ae' l aV).B).aw⟩,(ae' l aV).Body,(ae' l aV).bR⟩:Stmt) cv dR).bind λe0=>aq e0 dR (ae9 (aV+1))) (λMJ=>gB.on MJ (λWR=>(FM n (⟨(ae' l aV).Op,(ae' l aV).Name,(ae' l aV).Max,⟨((ae' l aV).A).Op,((ae' l aV).A).N,((ae' l aV).A).S,((ae' l aV).A).aw⟩,⟨((ae' l aV).B).Op,((ae' l aV).B).N,((ae' l aV).B).S,((ae' l aV).B).aw⟩,(ae' l aV).Body,(ae' l aV).bR⟩:Stmt) cv dR).bind λdW=>aq dW dR (ae9 (aV+1))) (λMK=>gB.on MK (λWS=>(FP n (⟨(ae' l aV).Op,(ae' l aV).Name,(ae' l aV).Max,⟨((ae' l aV).A).Op,((ae' l aV).A).N,((ae' l aV).A).S,((ae' l aV).A).aw⟩,⟨((ae' l aV).B).Op,((ae' l aV).B).N,((ae' l aV).B).S,((ae' l aV).B).aw⟩,(ae' l aV).Body,(ae' l aV).bR⟩:Stmt) cv dR).bind λeC=>aq eC dR (ae9 (aV+1))) (λML=>gB.on ML (λWT=>(FQ n (⟨(ae' l aV).Op,(ae' l aV).Name,(ae' l aV).Max,⟨((ae' l aV).A).Op,((ae' l aV).A).N,((ae' l aV).A).S,((ae' l aV).A).aw⟩,⟨((ae' l aV).B).Op,((ae' l aV).B).N,((ae' l aV).B).S,((ae' l aV).B).aw⟩,(ae' l aV).Body,(ae' l aV).bR⟩:Stmt) cv dR).bind λfG=>aq fG dR (ae9 (aV+1))) (λMM=>gB.on MM (λWU=>(gL (⟨(ae' l aV).Op,(ae' l aV).Name,(ae' l aV).Max,⟨((ae' l aV).A).Op,((ae' l aV).A).N,((ae' l aV).A).S,((ae' l aV).A).aw⟩,⟨((ae' l aV).B).Op,((ae' l aV).B).N,((ae' l aV).B).S,((ae' l aV).B).aw⟩,(ae' l aV).Body,(ae' l aV).bR⟩:Stmt) cv dR).bind λfQ=>aq fQ.1 fQ.2 (ae9 (aV+1))) (λMN=>gB.on MN (λWV=>(gM (⟨(ae' l aV).Op,(ae' l aV).Name,(ae' l aV).Max,⟨((ae' l aV).A).Op,((ae' l aV).A).N,((ae' l aV).A).S,((ae' l aV).A).aw⟩,⟨((ae' l aV).B).Op,((ae' l aV).B).N,((ae' l aV).B).S,((ae' l aV).B).aw⟩,(ae' l aV).Body,(ae' l aV).bR⟩:Stmt) cv dR).bind λeN=>aq eN.1 eN.2 (ae9 (aV+1))) (λMO=>gB.on MO (λWW=>(FO n (⟨(ae' l aV).Op,(ae' l aV).Name,(ae' l aV).Max,⟨((ae' l aV).A).Op,((ae' l aV).A).N,((ae' l aV).A).S,((ae' l aV).A).aw⟩,⟨((ae' l aV).B).Op,((ae' l aV).B).N,((ae' l aV).B).S,((ae' l aV).B).aw⟩,(ae' l aV).Body,(ae' l aV).bR⟩:Stmt) cv dR).bind λdV=>aq dV dR (ae9 (aV+1))) (λWX=>(FE n (⟨(ae' l aV).Op,(ae' l aV).Name,(ae' l aV).Max,⟨((ae' l aV).A).Op,((ae' l aV).A).N,((ae' l aV).A).S,((ae' l aV).A).aw⟩,⟨((ae' l aV).B).Op,((ae' l aV).B).N,((ae' l aV).B).S,((ae' l aV).B).aw⟩,(ae' l aV).Body,(ae' l aV).bR⟩:Stmt) cv dR).bind λmA=>aq mA dR (ae9 (aV+1)))))))))) ( FR n gv gL gM cv dR)
def wY(n:Nat)(gv:(List Stmt)→(List Int)→Int→Option ((List Int)×Int))(gL:Stmt→(List Int)→Int→Option ((List Int)×Int))(gM:Stmt→(List Int)→Int→Option ((List Int)×Int))(l:List Stmt):Nat→(List Int)→Int→Int→Option ((List Int)×Int)
 | 0=>λ_ _ _=>none
 |m+1=>FSb n gv gL gM l (wY n gv gL gM l m)
def Av(gv:(List Stmt)→(List Int)→Int→Option ((List Int)×Int))(gL:Stmt→(List Int)→Int→Option ((List Int)×Int))(gM:Stmt→(List Int)→Int→Option ((List Int)×Int))(l:List Stmt)(bE:List Int)(bJ:Int):Option ((List Int)×Int):=wY n gv gL gM l n bE (ae9 (bJ+1)) 0
def Aw(gv:(List Stmt)→(List Int)→Int→Option ((List Int)×Int))(gL:Stmt→(List Int)→Int→Option ((List Int)×Int))(gM:Stmt→(List Int)→Int→Option ((List Int)×Int))(v6:List Int)(bz:Int):Option ((List Int)×Int):=(ko n ([([125]:ae7)]:List ae7) v6 bz).bind λdU=>some (dU,bz)
def Ax(gv:(List Stmt)→(List Int)→Int→Option ((List Int)×Int))(gL:Stmt→(List Int)→Int→Option ((List Int)×Int))(gM:Stmt→(List Int)→Int→Option ((List Int)×Int))(s:Stmt)(bE:List Int)(bJ:Int):Option ((List Int)×Int):=(jU n (⟨s.A.Op,s.A.N,s.A.S,s.A.aw⟩:Expr)).bind λah=>(ko n ([([105,102,32]:ae7),ah,([32,123]:ae7)]:List ae7) bE bJ).bind λak=>(gv s.Body ak bJ).bind λaE=>cond (decide (0<((s.bR.length:Nat):Int))) ( (ko n ([([125,32,101,108,115,101,32,123]:ae7)]:List ae7) aE.1 aE.2).bind λbn=>(gv s.bR bn aE.2).bind λcF=>Aw n gv gL gM cF.1 cF.2) ( Aw n gv gL gM aE.1 aE.2)
def Ay(gv:(List Stmt)→(List Int)→Int→Option ((List Int)×Int))(gL:Stmt→(List Int)→Int→Option ((List Int)×Int))(gM:Stmt→(List Int)→Int→Option ((List Int)×Int))(s:Stmt)(bE:List Int)(bJ:Int):Option ((List Int)×Int):=(jU n (⟨s.A.Op,s.A.N,s.A.S,s.A.aw⟩:Expr)).bind λah=>(jU n (⟨s.B.Op,s.B.N,s.B.S,s.B.aw⟩:Expr)).bind λak=>(rI n s.Max).bind λaE=>(ko n ([([102,111,114,32]:ae7),s.Name,([32,61,32]:ae7),ah,([32,116,111,32]:ae7),ak,([32,109,97,120,32]:ae7),aE,([32,123]:ae7)]:List ae7) bE bJ).bind λbn=>(gv s.Body bn bJ).bind λcF=>(ko n ([([125]:ae7)]:List ae7) cF.1 cF.2).bind λbQ=>some (bQ,cF.2)
def mB:Nat→((List Stmt)→(List Int)→Int→Option ((List Int)×Int))×(Stmt→(List Int)→Int→Option ((List Int)×Int))×(Stmt→(List Int)→Int→Option ((List Int)×Int))
 | 0=>(λ_ _ _=>none,λ_ _ _=>none,λ_ _ _=>none)
 |m+1=>(Av m ((mB m).1) ((mB m).2.1) ((mB m).2.2),Ax m ((mB m).1) ((mB m).2.1) ((mB m).2.2),Ay m ((mB m).1) ((mB m).2.1) ((mB m).2.2))
def n5:(List Stmt)→(List Int)→Int→Option ((List Int)×Int):=(mB n).1
def rK:Stmt→(List Int)→Int→Option ((List Int)×Int):=(mB n).2.1
def rL:Stmt→(List Int)→Int→Option ((List Int)×Int):=(mB n).2.2
def Az(n:Nat)(bE:List Int)(bJ:Int):Option (ae7×(List Int)):=aI (mv bE&&decide (bE.length≤9223372036854775807))<|some (jv bE,bE)
def FT(p:bb)(cP:List ae7):Option ae7:=(zN n cP ([44,32]:ae7)).bind λeo=>(ko n ([([112,114,111,99,32]:ae7),p.Name,([40]:ae7),eo,([41,32,123]:ae7)]:List ae7) ([]:List Int) 0).bind λe0=>(n5 n p.Body e0 0).bind λdW=>(ko n ([([125]:ae7)]:List ae7) dW.1 dW.2).bind λeC=>(Az n eC dW.2).bind λfG=>some fG.1
def FU(p:bb)(aq:Int→(List ae7)→Option ae7)(v10:Int)(v11:List ae7):Option ae7:=cond (decide (v10<((p.Params.length:Nat):Int))) ( aI (a_ v10 p.Params.length)<|aI (ew (((ae' p.Params v10).Name).length+([58,32]:ae7).length))<|(Am n ((ae' p.Params v10).gc)).bind λeB=>aI (ew ((((ae' p.Params v10).Name)++([58,32]:ae7)).length+eB.length))<|aI (room (v11.length+([((((ae' p.Params v10).Name)++([58,32]:ae7))++eB)]:List ae7).length) 16)<|aq (ae9 (v10+1)) (v11++([((((ae' p.Params v10).Name)++([58,32]:ae7))++eB)]:List ae7))) ( FT n p v11)
def wZ(n:Nat)(p:bb):Nat→Int→(List ae7)→Option ae7
 | 0=>λ_ _=>none
 |m+1=>FU n p (wZ n p m)
def p1(p:bb):Option ae7:=(wP n p).bind λah=>cond (!decide (ah=0)) ( some ([]:ae7)) ( wZ n p n 0 ([]:List ae7))
def AA(n:Nat)(next:Int):afa:=some (cond (decide ((ae9 (next-1))<8)) (ae9 (next-1)) 8)
def FV(n:Nat):ae_:=some false
def FW(n:Nat):ae_:=some true
def AB(o:Outcome)(dX:Int→ae_)(v4:Int):ae_:=cond (decide (v4<((o.Out.length:Nat):Int))) ( aI (a_ v4 o.Out.length)<|(pY n (ae' o.Out v4)).bind λbQ=>cond (cond (!bQ) true (decide ((ae' o.Out v4).Kind=0))) ( some false) ( dX (ae9 (v4+1)))) ( FW n)
def rM(n:Nat)(o:Outcome):Nat→Int→ae_
 | 0=>λ_=>none
 |m+1=>AB n o (rM n o m)
def w0(o:Outcome):ae_:=cond (decide (o.Status=1)) ( cond (cond (!decide (o.Code=0)) true (decide (16<((o.Out.length:Nat):Int)))) ( some false) ( rM n o n 0)) ( cond (decide (o.Status=2)) ( some (cond (cond (decide (0≤o.Code)) (decide (o.Code≤1009)) false) (decide (((o.Out.length:Nat):Int)=0)) false)) ( FV n))
def FX(n:Nat):ae_:=some true
def AC(s:bC)(aq:Int→ae_)(v6:Int):ae_:=cond (decide (v6<((s.bV.length:Nat):Int))) ( aI (a_ v6 s.bV.length)<|Option.bind (cond (!(!((decide ((ae' s.bV v6).Client=s.Client))&&((decide ((ae' s.bV v6).Seq=(ae9 ((ae9 (s.Next-((s.bV.length:Nat):Int)))+v6))))&&true)))) (w0 n (⟨((ae' s.bV v6).Outcome).Status,((ae' s.bV v6).Outcome).Code,((ae' s.bV v6).Outcome).Out⟩:Outcome)) (some default)) λdU=>cond (cond (!((decide ((ae' s.bV v6).Client=s.Client))&&((decide ((ae' s.bV v6).Seq=(ae9 ((ae9 (s.Next-((s.bV.length:Nat):Int)))+v6))))&&true))) true (!dU)) ( some false) ( aq (ae9 (v6+1)))) ( FX n)
def tU(n:Nat)(s:bC):Nat→Int→ae_
 | 0=>λ_=>none
 |m+1=>AC n s (tU n s m)
def AD(s:bC):ae_:=Option.bind (cond (!(cond (cond (cond (decide (s.Client<1)) true (decide (32<s.Client))) true (decide (s.Next<1))) true (decide (1099511627776<s.Next)))) (AA n s.Next) (some default)) λah=>cond (cond (cond (cond (cond (decide (s.Client<1)) true (decide (32<s.Client))) true (decide (s.Next<1))) true (decide (1099511627776<s.Next))) true (!decide (((s.bV.length:Nat):Int)=ah))) ( some false) ( tU n s n 0)
def FY(n:Nat):ae_:=some true
def AE(l:List bC)(aq:Int→ae_)(v5:Int):ae_:=cond (decide (v5<((l.length:Nat):Int))) ( aI (a_ v5 l.length)<|(AD n (ae' l v5)).bind λcE=>aI ((!cE)||(!(decide (0<v5))||a_ (ae9 (v5-1)) l.length))<|cond (cond (!cE) true (cond (decide (0<v5)) (decide ((ae' l v5).Client≤(ae' l (ae9 (v5-1))).Client)) false)) ( some false) ( aq (ae9 (v5+1)))) ( FY n)
def tV(n:Nat)(l:List bC):Nat→Int→ae_
 | 0=>λ_=>none
 |m+1=>AE n l (tV n l m)
def p2(l:List bC):ae_:=tV n l n 0
def ip(s:ae7)(bE:List Int):Option (Int×(List Int)):=(tR n bE).bind λah=>aI (room (bE.length+s.length) 1)<|some (((s.length:Nat):Int),(bE++s.map λb=>(b.toNat:Int)))
def FZ(AF:List Int):Option ae7:=(o2 n AF).bind λMP=>some MP.1
def F0(n:Nat)(aq:(List Int)→Int→Option ae7)(l:List bC)(eu:Int)(AG:List Int):Option ae7:=aq AG (ae9 (eu+1))
def F1(n:Nat)(du:(List Int)→Int→Option ae7)(aq:(List Int)→Int→Option ae7)(l:List bC)(eu:Int)(gN:Int)(v109:List Int):Option ae7:=du v109 (ae9 (gN+1))
def AH(du:(List Int)→Int→Option ae7)(aq:(List Int)→Int→Option ae7)(l:List bC)(eu:Int)(gN:Int)(n6:(List Int)→Int→Option ae7)(w1:List Int)(rN:Int):Option ae7:=cond (decide (rN<(((((((ae' l eu).bV).getD (gN).toNat default).Outcome).Out).length:Nat):Int))) ( aI (a_ rN (((((ae' l eu).bV).getD (gN).toNat default).Outcome).Out).length)<|(rG n ((((((ae' l eu).bV).getD (gN).toNat default).Outcome).Out).getD (rN).toNat default)).bind λp3=>(ip n p3 w1).bind λMQ=>n6 MQ.2 (ae9 (rN+1))) ( F1 n du aq l eu gN w1)
def rO(n:Nat)(du:(List Int)→Int→Option ae7)(aq:(List Int)→Int→Option ae7)(l:List bC)(eu:Int)(gN:Int):Nat→(List Int)→Int→Option ae7
 | 0=>λ_ _=>none
 |m+1=>AH n du aq l eu gN (rO n du aq l eu gN m)
def AI(aq:(List Int)→Int→Option ae7)(l:List bC)(eu:Int)(du:(List Int)→Int→Option ae7)(w2:List Int)(gN:Int):Option ae7:=cond (decide (gN<((((ae' l eu).bV).length:Nat):Int))) ( aI (a_ gN ((ae' l eu).bV).length)<|(gk n (IntKind.u64.wrap (((((ae' l eu).bV).getD (gN).toNat default).Outcome).Status))).bind λtW=>(gk n (IntKind.u64.wrap (((((ae' l eu).bV).getD (gN).toNat default).Outcome).Code))).bind λrP=>aI (ew (tW.length+rP.length))<|(gk n (IntKind.u64.wrap (((((((ae' l eu).bV).getD (gN).toNat default).Outcome).Out).length:Nat):Int))).bind λF2=>aI (ew ((tW++rP).length+F2.length))<|(ip n ((tW++rP)++F2) w2).bind λAJ=>rO n du aq l eu gN n AJ.2 0) ( F0 n aq l eu w2)
def rQ(n:Nat)(aq:(List Int)→Int→Option ae7)(l:List bC)(eu:Int):Nat→(List Int)→Int→Option ae7
 | 0=>λ_ _=>none
 |m+1=>AI n aq l eu (rQ n aq l eu m)
def AK(l:List bC)(aq:(List Int)→Int→Option ae7)(v59:List Int)(eu:Int):Option ae7:=cond (decide (eu<((l.length:Nat):Int))) ( aI (a_ eu l.length)<|(gk n (IntKind.u64.wrap ((ae' l eu).Client))).bind λF3=>(gk n (IntKind.u64.wrap ((ae' l eu).Next))).bind λw3=>aI (ew (F3.length+w3.length))<|(ip n (F3++w3) v59).bind λp4=>rQ n aq l eu n p4.2 0) ( FZ n v59)
def tX(n:Nat)(l:List bC):Nat→(List Int)→Int→Option ae7
 | 0=>λ_ _=>none
 |m+1=>AK n l (tX n l m)
def w4(l:List bC):Option ae7:=(p2 n l).bind λah=>cond (!ah) ( some ([]:ae7)) ( (gk n (IntKind.u64.wrap ((l.length:Nat):Int))).bind λaE=>(ip n aE ([]:List Int)).bind λbn=>tX n l n bn.2 0)
def F4(cP:List Int):Option ae7:=(o2 n cP).bind λeo=>some eo.1
def AL(l:List bS)(aq:(List Int)→Int→Option ae7)(v10:List Int)(v11:Int):Option ae7:=cond (decide (v11<((l.length:Nat):Int))) ( aI (a_ v11 l.length)<|(ng n ((ae' l v11).Key)).bind λdk=>(ip n dk v10).bind λeB=>(rG n (⟨((ae' l v11).cj).Kind,((ae' l v11).cj).N,((ae' l v11).cj).S⟩:bv)).bind λdl=>(ip n dl eB.2).bind λep=>aq ep.2 (ae9 (v11+1))) ( F4 n v10)
def tY(n:Nat)(l:List bS):Nat→(List Int)→Int→Option ae7
 | 0=>λ_ _=>none
 |m+1=>AL n l (tY n l m)
def AM(l:List bS):Option ae7:=(gk n (IntKind.u64.wrap ((l.length:Nat):Int))).bind λah=>(ip n ah ([]:List Int)).bind λak=>tY n l n ak.2 0
def w5(aj:b_)(AN:List Int):Option ae7:=(tF n aj.Queue).bind λw6=>(ip n w6 AN).bind λl5=>(gk n aj.dh).bind λMR=>(ip n MR l5.2).bind λAO=>(o2 n AO.2).bind λw7=>some w7.1
def AP(aj:b_)(dX:(List Int)→Int→Option ae7)(w8:List Int)(v37:Int):Option ae7:=cond (decide (v37<((aj.be.length:Nat):Int))) ( aI (a_ v37 aj.be.length)<|(ng n ((ae' aj.be v37).Key)).bind λtZ=>(ip n tZ w8).bind λrR=>(n1 n ((ae' aj.be v37).Count)).bind λln=>(ip n ln rR.2).bind λlm=>dX lm.2 (ae9 (v37+1))) ( w5 n aj w8)
def t6(n:Nat)(aj:b_):Nat→(List Int)→Int→Option ae7
 | 0=>λ_ _=>none
 |m+1=>AP n aj (t6 n aj m)
def t7(aj:b_)(cR:List Int):Option ae7:=(w4 n aj.cU).bind λeC=>(ip n eC cR).bind λfG=>(wJ n aj.Place).bind λfQ=>(ip n fQ fG.2).bind λeN=>(gk n (IntKind.u64.wrap ((aj.be.length:Nat):Int))).bind λdV=>(ip n dV eN.2).bind λmA=>t6 n aj n mA.2 0
def AQ(aj:b_)(du:(List Int)→Int→Option ae7)(co:List Int)(cv:Int):Option ae7:=cond (decide (cv<((aj.cp.length:Nat):Int))) ( aI (a_ cv aj.cp.length)<|(p1 n (ae' aj.cp cv)).bind λeF=>(ng n eF).bind λfq=>(ip n fq co).bind λfy=>du fy.2 (ae9 (cv+1))) ( t7 n aj co)
def t8(n:Nat)(aj:b_):Nat→(List Int)→Int→Option ae7
 | 0=>λ_ _=>none
 |m+1=>AQ n aj (t8 n aj m)
def rS(aj:b_):Option ae7:=(wI n aj.aD aj.Pos).bind λah=>(n1 n aj.Pos).bind λak=>(ip n ak ([]:List Int)).bind λaE=>(AM n ah.1).bind λbn=>(ip n bn aE.2).bind λcF=>(gk n (IntKind.u64.wrap ((aj.cp.length:Nat):Int))).bind λbQ=>(ip n bQ cF.2).bind λcE=>t8 n aj n cE.2 0
def F5(n:Nat)(l:List be):ae_:=some (decide (((l.length:Nat):Int)≤32))
def AR(l:List be)(aq:Int→ae_)(v5:Int):ae_:=cond (decide (v5<((l.length:Nat):Int))) ( aI (a_ v5 l.length)<|(rF n ((ae' l v5).Key)).bind λcE=>aI ((cond (cond (!cE) true (decide ((ae' l v5).Count<1))) true (decide (1099511627776<(ae' l v5).Count)))||(!(decide (0<v5))||a_ (ae9 (v5-1)) l.length))<|cond (cond (cond (cond (!cE) true (decide ((ae' l v5).Count<1))) true (decide (1099511627776<(ae' l v5).Count))) true (cond (decide (0<v5)) (!(Op.bytesLess ((ae' l (ae9 (v5-1))).Key) ((ae' l v5).Key))) false)) ( some false) ( aq (ae9 (v5+1)))) ( F5 n l)
def t'(n:Nat)(l:List be):Nat→Int→ae_
 | 0=>λ_=>none
 |m+1=>AR n l (t' n l m)
def AS(l:List be):ae_:=t' n l n 0
def F6(n:Nat):ae_:=some true
def AT(l:List bb)(aq:Int→ae_)(v6:Int):ae_:=cond (decide (v6<((l.length:Nat):Int))) ( aI (a_ v6 l.length)<|(p1 n (ae' l v6)).bind λdU=>aI ((cond (decide (dU=([]:ae7))) true (decide (16384<((dU.length:Nat):Int))))||(!(decide (0<v6))||a_ (ae9 (v6-1)) l.length))<|cond (cond (cond (decide (dU=([]:ae7))) true (decide (16384<((dU.length:Nat):Int)))) true (cond (decide (0<v6)) ((Op.bytesLess ((ae' l v6).Name) ((ae' l (ae9 (v6-1))).Name))||(decide (((ae' l v6).Name)=((ae' l (ae9 (v6-1))).Name)))) false)) ( some false) ( aq (ae9 (v6+1)))) ( F6 n)
def t_(n:Nat)(l:List bb):Nat→Int→ae_
 | 0=>λ_=>none
 |m+1=>AT n l (t_ n l m)
def AU(l:List bb):ae_:=cond (decide (16<((l.length:Nat):Int))) ( some false) ( t_ n l n 0)
def F7(n:Nat)(s:ae7):ae_:=some (decide (((s.length:Nat):Int)≤24))
def AV(s:ae7)(aq:Int→ae_)(v4:Int):ae_:=cond (decide (v4<((s.length:Nat):Int))) ( aI (a_ v4 s.length)<|aI ((decide ((((s.getD (v4).toNat 0).toNat:Nat):Int)<33))||a_ v4 s.length)<|cond (cond (decide ((((s.getD (v4).toNat 0).toNat:Nat):Int)<33)) true (decide (126<(((s.getD (v4).toNat 0).toNat:Nat):Int)))) ( some false) ( aq (ae9 (v4+1)))) ( F7 n s)
def ua(n:Nat)(s:ae7):Nat→Int→ae_
 | 0=>λ_=>none
 |m+1=>AV n s (ua n s m)
def w9(s:ae7):ae_:=ua n s n 0
def F8(n:Nat)(x:Part)(aa:Int):ae_:=some (decide (x.Id=aa))
def F9(n:Nat)(aa:Int):afa:=some (-1)
def AW(s:List Part)(aa:Int)(aq:Int→afa)(v4:Int):afa:=cond (decide (v4<((s.length:Nat):Int))) ( aI (a_ v4 s.length)<|(F8 n (ae' s v4) aa).bind λbQ=>cond bQ ( some v4) ( aq (ae9 (v4+1)))) ( F9 n aa)
def ub(n:Nat)(s:List Part)(aa:Int):Nat→Int→afa
 | 0=>λ_=>none
 |m+1=>AW n s aa (ub n s aa m)
def F'(s:List Part)(aa:Int):afa:=ub n s aa n 0
def F_(l:List Part)(id:Int):afa:=(F' n l id).bind λah=>some ah
def w_(n:Nat)(gE:Int):ae_:=some (cond (decide (1≤gE)) (decide (gE≤16)) false)
def Ga(n:Nat)(gE:Int):ae_:=some (cond (decide (1≤gE)) (decide (gE≤1099511627776)) false)
def AX(l:List Part)(i:Int):ae_:=aI (a_ i l.length)<|cond (decide ((ae' l i).hh=0)) ( some (decide (((ae' l i).hH)=([]:ae7)))) ( (w_ n ((ae' l i).hh)).bind λaE=>Option.bind (cond (cond aE (!decide ((ae' l i).hh=(ae' l i).Node)) false) (w9 n ((ae' l i).hH)) (some default)) λbn=>aI (!(cond (cond (cond aE (!decide ((ae' l i).hh=(ae' l i).Node)) false) bn false) (!(Op.bytesLess ((ae' l i).hH) ((ae' l i).fp))) false)||((decide ((ae9 (i+1))=((l.length:Nat):Int)))||a_ (ae9 (i+1)) l.length))<|some (cond (cond (cond (cond aE (!decide ((ae' l i).hh=(ae' l i).Node)) false) bn false) (!(Op.bytesLess ((ae' l i).hH) ((ae' l i).fp))) false) (cond (decide ((ae9 (i+1))=((l.length:Nat):Int))) true (Op.bytesLess ((ae' l i).hH) ((ae' l (ae9 (i+1))).fp))) false))
def Gb(n:Nat):ae_:=some true
def AY(p:ck)(aq:Int→ae_)(v12:Int):ae_:=cond (decide (v12<((p.aX.length:Nat):Int))) ( aI (a_ v12 p.aX.length)<|Option.bind (cond (decide (0<v12)) (w9 n ((ae' p.aX v12).fp)) (some default)) λeB=>aI (!(decide (0<v12))||((!eB)||a_ (ae9 (v12-1)) p.aX.length))<|cond (cond (decide (0<v12)) (cond (!eB) true ((Op.bytesLess ((ae' p.aX v12).fp) ((ae' p.aX (ae9 (v12-1))).fp))||(decide (((ae' p.aX v12).fp)=((ae' p.aX (ae9 (v12-1))).fp))))) false) ( some false) ( (Ga n ((ae' p.aX v12).Id)).bind λep=>Option.bind (cond (!(!ep)) (w_ n ((ae' p.aX v12).Node)) (some default)) λeF=>Option.bind (cond (!(cond (!ep) true (!eF))) (AX n p.aX v12) (some default)) λfq=>aI ((cond (cond (!ep) true (!eF)) true (!fq))||gh v12 p.aX.length)<|Option.bind (cond (!(cond (cond (!ep) true (!eF)) true (!fq))) (F_ n (p.aX.take (v12).toNat) ((ae' p.aX v12).Id)) (some default)) λeo=>cond (cond (cond (cond (!ep) true (!eF)) true (!fq)) true (decide (0≤eo))) ( some false) ( aq (ae9 (v12+1))))) ( Gb n)
def rT(n:Nat)(p:ck):Nat→Int→ae_
 | 0=>λ_=>none
 |m+1=>AY n p (rT n p m)
def xa(p:ck):ae_:=aI ((cond (cond (cond (decide (p.Version<0)) true (decide (1099511627776<p.Version))) true (decide (((p.aX.length:Nat):Int)<1))) true (decide (16<((p.aX.length:Nat):Int))))||a_ 0 p.aX.length)<|cond (cond (cond (cond (cond (decide (p.Version<0)) true (decide (1099511627776<p.Version))) true (decide (((p.aX.length:Nat):Int)<1))) true (decide (16<((p.aX.length:Nat):Int)))) true (!(decide (((p.aX.getD 0 default).fp)=([]:ae7))))) ( some false) ( rT n p n 0)
def Gc(aj:b_):ae_:=(p2 n aj.cU).bind λb6=>Option.bind (cond b6 (xa n aj.Place) (some default)) λfr=>Option.bind (cond (cond b6 fr false) (AS n aj.be) (some default)) λdk=>some (cond (cond b6 fr false) dk false)
def AZ(aj:b_)(aq:Int→ae_)(bz:Int):ae_:=cond (decide (bz<((aj.Queue.length:Nat):Int))) ( aI (a_ bz aj.Queue.length)<|(nf n (⟨(ae' aj.Queue bz).Client,(ae' aj.Queue bz).Seq,(ae' aj.Queue bz).bb,(ae' aj.Queue bz).aw,(ae' aj.Queue bz).eA,⟨((ae' aj.Queue bz).br).ee,((ae' aj.Queue bz).br).Reads,((ae' aj.Queue bz).br).cz⟩⟩:Request)).bind λcO=>cond (!decide (cO=0)) ( some false) ( aq (ae9 (bz+1)))) ( Gc n aj)
def rU(n:Nat)(aj:b_):Nat→Int→ae_
 | 0=>λ_=>none
 |m+1=>AZ n aj (rU n aj m)
def rV(aj:b_):ae_:=Option.bind (cond (!(cond (decide (aj.Pos<0)) true (decide (1099511627776<aj.Pos)))) (tI n aj.aD) (some default)) λah=>Option.bind (cond (!(cond (cond (cond (decide (aj.Pos<0)) true (decide (1099511627776<aj.Pos))) true (!ah)) true (!decide (aj.aD.ct=aj.Pos)))) (AU n aj.cp) (some default)) λak=>cond (cond (cond (cond (cond (cond (decide (aj.Pos<0)) true (decide (1099511627776<aj.Pos))) true (!ah)) true (!decide (aj.aD.ct=aj.Pos))) true (!ak)) true (decide (64<((aj.Queue.length:Nat):Int)))) ( some false) ( rU n aj n 0)
def uc(aj:b_):Option (ae7×Int):=(rV n aj).bind λah=>cond (!ah) ( some (([]:ae7),1)) ( (rS n aj).bind λaE=>cond (decide (16384<((aE.length:Nat):Int))) ( some (([]:ae7),2)) ( some (aE,0)))
def Gd(n:Nat)(cg:Int):afa:=some cg
def MS(n:Nat)(p:bS):ae_:=some (decide (p.cj.Kind=0))
def MT(n:Nat):afa:=some (-1)
def MU(s:List bS)(aq:Int→afa)(v4:Int):afa:=cond (decide (v4<((s.length:Nat):Int))) ( aI (a_ v4 s.length)<|(MS n (ae' s v4)).bind λbQ=>cond bQ ( some v4) ( aq (ae9 (v4+1)))) ( MT n)
def Ge(n:Nat)(s:List bS):Nat→Int→afa
 | 0=>λ_=>none
 |m+1=>MU n s (Ge n s m)
def MV(s:List bS):afa:=Ge n s n 0
def MW(s:List bS):ae_:=(MV n s).bind λah=>some (decide (0≤ah))
def MX(n:Nat):ae_:=some true
def MY(l:List bS)(aq:Int→ae_)(v6:Int):ae_:=cond (decide (v6<((l.length:Nat):Int))) ( aI (a_ v6 l.length)<|(rF n ((ae' l v6).Key)).bind λdU=>Option.bind (cond (!(!dU)) (pY n (⟨((ae' l v6).cj).Kind,((ae' l v6).cj).N,((ae' l v6).cj).S⟩:bv)) (some default)) λcO=>aI ((cond (!dU) true (!cO))||(!(decide (0<v6))||a_ (ae9 (v6-1)) l.length))<|cond (cond (cond (!dU) true (!cO)) true (cond (decide (0<v6)) (!(Op.bytesLess ((ae' l (ae9 (v6-1))).Key) ((ae' l v6).Key))) false)) ( some false) ( aq (ae9 (v6+1)))) ( MX n)
def Gf(n:Nat)(l:List bS):Nat→Int→ae_
 | 0=>λ_=>none
 |m+1=>MY n l (Gf n l m)
def MZ(l:List bS):ae_:=Gf n l n 0
def Gg(l:List bS):ae_:=(MZ n l).bind λah=>Option.bind (cond ah (MW n l) (some default)) λak=>some (cond ah (!ak) false)
def M0(n:Nat)(gE:Int):Option bv:=some (⟨1,gE,[]⟩:bv)
def Gh(n:Nat)(s:ae7)(at_:Int):ae_:=some (cond (decide (at_<0)) true (decide (((s.length:Nat):Int)<at_)))
def M1(n:Nat):Option (Int×Int×Int):=some (0,0,5)
def M3(s:ae7)(at_:Int)(aq:Int→Int→Option (Int×Int×Int))(bz:Int)(bM:Int):Option (Int×Int×Int):=cond (decide (bz<10)) ( cond (decide (((s.length:Nat):Int)≤(ae9 (at_+bz)))) ( some (0,0,6)) ( aI (a_ (ae9 (at_+bz)) s.length)<|cond (cond (cond (decide (bz=9)) (decide (1<(((s.getD ((ae9 (at_+bz))).toNat 0).toNat:Nat):Int))) false) true (cond (decide ((((s.getD ((ae9 (at_+bz))).toNat 0).toNat:Nat):Int)=0)) (decide (0<bz)) false)) ( some (0,0,5)) ( aI (mQ (ae9 (7*bz)))<|cond (decide ((((s.getD ((ae9 (at_+bz))).toNat 0).toNat:Nat):Int)<128)) ( some ((qC .u64 bM (oD .u64 (IntKind.u64.wrap (sM .u8 (((s.getD ((ae9 (at_+bz))).toNat 0).toNat:Nat):Int) 127)) (ae9 (7*bz)))),(ae9 ((ae9 (at_+bz))+1)),0)) ( aq (ae9 (bz+1)) (qC .u64 bM (oD .u64 (IntKind.u64.wrap (sM .u8 (((s.getD ((ae9 (at_+bz))).toNat 0).toNat:Nat):Int) 127)) (ae9 (7*bz)))))))) ( M1 n)
def Gi(n:Nat)(s:ae7)(at_:Int):Nat→Int→Int→Option (Int×Int×Int)
 | 0=>λ_ _=>none
 |m+1=>M3 n s at_ (Gi n s at_ m)
def rW(s:ae7)(at_:Int):Option (Int×Int×Int):=(Gh n s at_).bind λah=>cond ah ( some (0,0,1)) ( Gi n s at_ n 0 0)
def A0(s:ae7)(at_:Int):Option (Int×Int×Int):=(rW n s at_).bind λah=>cond (!decide (ah.2.2=0)) ( some (0,0,ah.2.2)) ( some ((nB .i64 (ae9 (mP .u64 ah.1 1)) (ae9 (0-(ae9 (sM .u64 ah.1 1))))),ah.2.1,0))
def o3(s:ae7)(at_:Int)(cg:Int):Option (Int×Int×Int):=(rW n s at_).bind λah=>cond (!decide (ah.2.2=0)) ( some (0,0,ah.2.2)) ( cond (cond (decide (cg<0)) true (decide ((IntKind.u64.wrap cg)<ah.1))) ( some (0,0,2)) ( cond (decide ((IntKind.u64.wrap (ae9 (((s.length:Nat):Int)-ah.2.1)))<ah.1)) ( some (0,0,6)) ( some ((ae9 ah.1),ah.2.1,0))))
def ud(s:ae7)(at_:Int)(cg:Int):Option (ae7×Int×Int):=(o3 n s at_ cg).bind λah=>cond (!decide (ah.2.2=0)) ( some (([]:ae7),0,ah.2.2)) ( aI (oA ah.2.1 (ae9 (ah.2.1+ah.1)) s.length)<|some (((s.take ((ae9 (ah.2.1+ah.1))).toNat).drop (ah.2.1).toNat),(ae9 (ah.2.1+ah.1)),0))
def Gj(n:Nat)(cO:ae7×Int×Int)(v11:Int):Option (bv×Int×Int):=cond (!decide (v11=0)) ( some ((⟨0,0,[]⟩:bv),0,v11)) ( some ((⟨2,0,cO.1⟩:bv),cO.2.1,0))
def A1(s:ae7)(at_:Int):Option (bv×Int×Int):=(rW n s at_).bind λah=>cond (!decide (ah.2.2=0)) ( some ((⟨0,0,[]⟩:bv),0,ah.2.2)) ( cond (decide (ah.1=0)) ( some ((⟨0,0,[]⟩:bv),ah.2.1,0)) ( cond (decide (ah.1=1)) ( (A0 n s ah.2.1).bind λcF=>cond (!decide (cF.2.2=0)) ( some ((⟨0,0,[]⟩:bv),0,cF.2.2)) ( (M0 n cF.1).bind λcE=>some (cE,cF.2.1,0))) ( cond (decide (ah.1=2)) ( (ud n s ah.2.1 64).bind λcO=>Option.bind (cond (decide (cO.2.2=0)) (wA n cO.1) (some default)) λed=>cond (cond (decide (cO.2.2=0)) (!ed) false) ( Gj n cO 5) ( Gj n cO cO.2.2)) ( some ((⟨0,0,[]⟩:bv),0,5)))))
def M4(cT:Int)(cP:List bS):Option ((List bS)×Int×Int):=(Gg n cP).bind λeo=>cond (!eo) ( some (([]:List bS),0,5)) ( some (cP,cT,0))
def M5(s:ae7)(ah:Int×Int×Int)(aq:Int→Int→(List bS)→Option ((List bS)×Int×Int))(v9:Int)(v10:Int)(v11:List bS):Option ((List bS)×Int×Int):=cond (decide (v10<ah.1)) ( (ud n s v9 24).bind λfr=>cond (!decide (fr.2.2=0)) ( some (([]:List bS),0,fr.2.2)) ( (A1 n s fr.2.1).bind λdk=>cond (!decide (dk.2.2=0)) ( some (([]:List bS),0,dk.2.2)) ( aI (room (v11.length+([(⟨fr.1,dk.1⟩:bS)]:List bS).length) 48)<|aq dk.2.1 (ae9 (v10+1)) (v11++([(⟨fr.1,dk.1⟩:bS)]:List bS))))) ( M4 n v9 v11)
def Gk(n:Nat)(s:ae7)(ah:Int×Int×Int):Nat→Int→Int→(List bS)→Option ((List bS)×Int×Int)
 | 0=>λ_ _ _=>none
 |m+1=>M5 n s ah (Gk n s ah m)
def M6(s:ae7)(at_:Int):Option ((List bS)×Int×Int):=(o3 n s at_ 2147483647).bind λah=>cond (!decide (ah.2.2=0)) ( some (([]:List bS),0,ah.2.2)) ( Gk n s ah n ah.2.1 0 ([]:List bS))
def M7(aa:ft):Option ((List bS)×Int×Int):=cond (!decide (aa.e=0)) ( some (([]:List bS),aa.at_,aa.e)) ( (M6 n aa.s aa.at_).bind λak=>cond (!decide (ak.2.2=0)) ( some (([]:List bS),aa.at_,ak.2.2)) ( some (ak.1,ak.2.1,ak.2.2)))
def xb(aa:my):Option (Int×Int×Int):=cond (!decide (aa.e=0)) ( some (0,aa.at_,aa.e)) ( (A0 n aa.s aa.at_).bind λak=>some (ak.1,ak.2.1,ak.2.2))
def Gl(aa:my):Option (ae7×Int×Int):=cond (!decide (aa.e=0)) ( some (([]:ae7),aa.at_,aa.e)) ( (ud n aa.s aa.at_ 24).bind λak=>some (ak.1,ak.2.1,ak.2.2))
def Gm(n:Nat)(s:ae7)(v28:Int)(ah:Int×Int×Int)(v30:List Part)(kP:Int):Option (ck×Int×Int):=cond (!decide (kP=0)) ( some ((⟨0,[]⟩:ck),0,kP)) ( some ((⟨ah.1,v30⟩:ck),v28,0))
def M8(s:ae7)(ah:Int×Int×Int)(v28:Int)(ib:Int)(v30:List Part):Option (ck×Int×Int):=Option.bind (cond (decide (ib=0)) (xa n (⟨ah.1,v30⟩:ck)) (some default)) λfR=>cond (cond (decide (ib=0)) (!fR) false) ( Gm n s v28 ah v30 5) ( Gm n s v28 ah v30 ib)
def M9(aE:Int×Int×Int)(s:ae7)(ah:Int×Int×Int)(dX:Int→Int→(List Part)→Int→Option (ck×Int×Int))(co:Int)(cv:Int)(dR:List Part)(aV:Int):Option (ck×Int×Int):=cond (decide (aV<aE.1)) ( (xb n (⟨s,co,cv⟩:my)).bind λfq=>(Gl n (⟨s,fq.2.1,fq.2.2⟩:my)).bind λfy=>(xb n (⟨s,fy.2.1,fy.2.2⟩:my)).bind λeo=>(xb n (⟨s,eo.2.1,eo.2.2⟩:my)).bind λe0=>(Gl n (⟨s,e0.2.1,e0.2.2⟩:my)).bind λdW=>aI (room (dR.length+([(⟨fq.1,fy.1,eo.1,e0.1,dW.1⟩:Part)]:List Part).length) 56)<|dX dW.2.1 dW.2.2 (dR++([(⟨fq.1,fy.1,eo.1,e0.1,dW.1⟩:Part)]:List Part)) (ae9 (aV+1))) ( M8 n s ah co cv dR)
def Gn(n:Nat)(aE:Int×Int×Int)(s:ae7)(ah:Int×Int×Int):Nat→Int→Int→(List Part)→Int→Option (ck×Int×Int)
 | 0=>λ_ _ _ _=>none
 |m+1=>M9 n aE s ah (Gn n aE s ah m)
def M_(s:ae7)(at_:Int):Option (ck×Int×Int):=(xb n (⟨s,at_,0⟩:my)).bind λah=>cond (!decide (ah.2.2=0)) ( some ((⟨0,[]⟩:ck),0,ah.2.2)) ( (o3 n s ah.2.1 16).bind λaE=>Gn n aE s ah n aE.2.1 aE.2.2 ([]:List Part) 0)
def Na(aa:ft):Option (ck×Int×Int):=cond (!decide (aa.e=0)) ( some ((⟨0,[]⟩:ck),aa.at_,aa.e)) ( (M_ n aa.s aa.at_).bind λak=>cond (!decide (ak.2.2=0)) ( some ((⟨0,[]⟩:ck),aa.at_,ak.2.2)) ( some (ak.1,ak.2.1,ak.2.2)))
def ue(n:Nat)(next:Int)(e:Int)(aa:gu):Option (Int×Int):=some (next,e)
def Gp(cg:Int)(aa:gu):Option (Int×Int×Int):=cond (!decide (aa.e=0)) ( some (0,aa.at_,aa.e)) ( (o3 n aa.s aa.at_ cg).bind λak=>(ue n ak.2.1 ak.2.2 aa).bind λaE=>some (ak.1,aE.1,aE.2))
def Nb(s:ae7)(at_:Int):Option (Bool×Int×Int):=(Gh n s at_).bind λah=>cond ah ( some (false,0,1)) ( cond (decide (at_=((s.length:Nat):Int))) ( some (false,0,6)) ( aI (a_ at_ s.length)<|cond (decide (1<(((s.getD (at_).toNat 0).toNat:Nat):Int))) ( some (false,0,5)) ( aI (a_ at_ s.length)<|some ((decide ((((s.getD (at_).toNat 0).toNat:Nat):Int)=1)),(ae9 (at_+1)),0))))
def Nc(aa:gu):Option (Bool×Int×Int):=cond (!decide (aa.e=0)) ( some (false,aa.at_,aa.e)) ( (Nb n aa.s aa.at_).bind λak=>(ue n ak.2.1 ak.2.2 aa).bind λaE=>some (ak.1,aE.1,aE.2))
def Gq(cg:Int)(aa:gu):Option (ae7×Int×Int):=cond (!decide (aa.e=0)) ( some (([]:ae7),aa.at_,aa.e)) ( (ud n aa.s aa.at_ cg).bind λak=>(ue n ak.2.1 ak.2.2 aa).bind λaE=>some (ak.1,aE.1,aE.2))
def Nd(n:Nat)(aa:gu)(cT:Int)(cP:Int)(v20:List ae7):Option ((List ae7)×Int×Int):=some (v20,cT,cP)
def Nf(ah:Int×Int×Int)(aa:gu)(aq:Int→Int→(List ae7)→Int→Option ((List ae7)×Int×Int))(bM:Int)(v9:Int)(v10:List ae7)(v11:Int):Option ((List ae7)×Int×Int):=cond (decide (v11<ah.1)) ( (Gq n 24 (⟨aa.s,bM,v9⟩:gu)).bind λfr=>aI (room (v10.length+([fr.1]:List ae7).length) 16)<|aq fr.2.1 fr.2.2 (v10++([fr.1]:List ae7)) (ae9 (v11+1))) ( Nd n aa bM v9 v10)
def Gr(n:Nat)(ah:Int×Int×Int)(aa:gu):Nat→Int→Int→(List ae7)→Int→Option ((List ae7)×Int×Int)
 | 0=>λ_ _ _ _=>none
 |m+1=>Nf n ah aa (Gr n ah aa m)
def Gs(aa:gu):Option ((List ae7)×Int×Int):=(Gp n 64 aa).bind λah=>Gr n ah aa n ah.2.1 ah.2.2 ([]:List ae7) 0
def Gt(aa:gu):Option (Int×Int×Int):=cond (!decide (aa.e=0)) ( some (0,aa.at_,aa.e)) ( (rW n aa.s aa.at_).bind λak=>(ue n ak.2.1 ak.2.2 aa).bind λaE=>some (ak.1,aE.1,aE.2))
def Ng(aa:gu):Option (bv×Int×Int):=cond (!decide (aa.e=0)) ( some ((⟨0,0,[]⟩:bv),aa.at_,aa.e)) ( (A1 n aa.s aa.at_).bind λak=>(ue n ak.2.1 ak.2.2 aa).bind λaE=>some (ak.1,aE.1,aE.2))
def Gu(ah:Int×Int×Int)(ak:Int×Int×Int)(s:ae7)(aE:ae7×Int×Int)(ho:List bv)(fG:Bool×Int×Int)(lp:Int)(v28:Int)(ib:List ae7)(v30:List ae7):Option (Request×Int×Int):=cond (!decide (v28=0)) ( some ((⟨0,0,[],[],false,⟨false,[],[]⟩⟩:Request),0,v28)) ( cond (cond (decide (32<ah.1)) true (decide (1099511627776<ak.1))) ( some ((⟨0,0,[],[],false,⟨false,[],[]⟩⟩:Request),0,5)) ( (nf n (⟨(ae9 ah.1),(ae9 ak.1),aE.1,ho,fG.1,⟨false,ib,v30⟩⟩:Request)).bind λp0=>cond (!decide (p0=0)) ( some ((⟨0,0,[],[],false,⟨false,[],[]⟩⟩:Request),0,5)) ( some ((⟨(ae9 ah.1),(ae9 ak.1),aE.1,ho,fG.1,⟨false,ib,v30⟩⟩:Request),lp,0))))
def Nh(ah:Int×Int×Int)(ak:Int×Int×Int)(s:ae7)(aE:ae7×Int×Int)(v21:Int)(cR:Int)(ho:List bv):Option (Request×Int×Int):=(Nc n (⟨s,v21,cR⟩:gu)).bind λfG=>cond fG.1 ( (Gs n (⟨s,fG.2.1,fG.2.2⟩:gu)).bind λfQ=>(Gs n (⟨s,fQ.2.1,fQ.2.2⟩:gu)).bind λeN=>Gu n ah ak s aE ho fG eN.2.1 eN.2.2 fQ.1 eN.1) ( Gu n ah ak s aE ho fG fG.2.1 fG.2.2 ([]:List ae7) ([]:List ae7))
def Ni(ah:Int×Int×Int)(ak:Int×Int×Int)(bn:Int×Int×Int)(s:ae7)(aE:ae7×Int×Int)(dX:Int→Int→(List bv)→Int→Option (Request×Int×Int))(v11:Int)(v12:Int)(c':List bv)(co:Int):Option (Request×Int×Int):=cond (decide (co<bn.1)) ( (Ng n (⟨s,v11,v12⟩:gu)).bind λdl=>aI (room (c'.length+([dl.1]:List bv).length) 32)<|dX dl.2.1 dl.2.2 (c'++([dl.1]:List bv)) (ae9 (co+1))) ( Nh n ah ak s aE v11 v12 c')
def Gv(n:Nat)(ah:Int×Int×Int)(ak:Int×Int×Int)(bn:Int×Int×Int)(s:ae7)(aE:ae7×Int×Int):Nat→Int→Int→(List bv)→Int→Option (Request×Int×Int)
 | 0=>λ_ _ _ _=>none
 |m+1=>Ni n ah ak bn s aE (Gv n ah ak bn s aE m)
def Nj(s:ae7)(at_:Int):Option (Request×Int×Int):=(Gt n (⟨s,at_,0⟩:gu)).bind λah=>(Gt n (⟨s,ah.2.1,ah.2.2⟩:gu)).bind λak=>(Gq n 16 (⟨s,ak.2.1,ak.2.2⟩:gu)).bind λaE=>(Gp n 6 (⟨s,aE.2.1,aE.2.2⟩:gu)).bind λbn=>Gv n ah ak bn s aE n bn.2.1 bn.2.2 ([]:List bv) 0
def Nk(n:Nat)(dR:List Request)(aV:Int):Option ((List Request)×Int×Int):=some (dR,aV,0)
def Nl(s:ae7)(ah:Int×Int×Int)(aq:(List Request)→Int→Int→Option ((List Request)×Int×Int))(bM:List Request)(v9:Int)(v10:Int):Option ((List Request)×Int×Int):=cond (decide (v9<ah.1)) ( (Nj n s v10).bind λb6=>cond (!decide (b6.2.2=0)) ( some (([]:List Request),0,b6.2.2)) ( aI (room (bM.length+([b6.1]:List Request).length) 120)<|aq (bM++([b6.1]:List Request)) (ae9 (v9+1)) b6.2.1)) ( Nk n bM v10)
def Gw(n:Nat)(s:ae7)(ah:Int×Int×Int):Nat→(List Request)→Int→Int→Option ((List Request)×Int×Int)
 | 0=>λ_ _ _=>none
 |m+1=>Nl n s ah (Gw n s ah m)
def Nn(s:ae7)(at_:Int):Option ((List Request)×Int×Int):=(o3 n s at_ 64).bind λah=>cond (!decide (ah.2.2=0)) ( some (([]:List Request),0,ah.2.2)) ( Gw n s ah n ([]:List Request) 0 ah.2.1)
def No(aa:ft):Option ((List Request)×Int×Int):=cond (!decide (aa.e=0)) ( some (([]:List Request),aa.at_,aa.e)) ( (Nn n aa.s aa.at_).bind λak=>cond (!decide (ak.2.2=0)) ( some (([]:List Request),aa.at_,ak.2.2)) ( some (ak.1,ak.2.1,ak.2.2)))
def Gx(n:Nat)(ak:Int×Int×Int)(aa:i')(v3:Int):Option (Int×Int×Int):=cond (!decide (v3=0)) ( some (0,aa.at_,v3)) ( some ((ae9 ak.1),ak.2.1,v3))
def xc(least:Int)(cg:Int)(aa:i'):Option (Int×Int×Int):=cond (!decide (aa.e=0)) ( some (0,aa.at_,aa.e)) ( (rW n aa.s aa.at_).bind λak=>cond (cond (decide (ak.2.2=0)) (cond (decide (ak.1<least)) true (decide (cg<ak.1))) false) ( Gx n ak aa 5) ( Gx n ak aa ak.2.2))
def Np(n:Nat)(aa:i')(ah:Int×Int×Int)(ak:Int×Int×Int)(v21:Int)(cR:Int)(ho:List bv):Option (Outcome×Int×Int):=some ((⟨ah.1,ak.1,ho⟩:Outcome),v21,cR)
def Nq(bn:Int×Int×Int)(aa:i')(ah:Int×Int×Int)(ak:Int×Int×Int)(aq:Int→Int→(List bv)→Int→Option (Outcome×Int×Int))(v11:Int)(v12:Int)(c':List bv)(co:Int):Option (Outcome×Int×Int):=cond (cond (decide (co<bn.1)) (decide (v12=0)) false) ( (A1 n aa.s v11).bind λdl=>aI (room (c'.length+([dl.1]:List bv).length) 32)<|aq dl.2.1 dl.2.2 (c'++([dl.1]:List bv)) (ae9 (co+1))) ( Np n aa ah ak v11 v12 c')
def Gy(n:Nat)(bn:Int×Int×Int)(aa:i')(ah:Int×Int×Int)(ak:Int×Int×Int):Nat→Int→Int→(List bv)→Int→Option (Outcome×Int×Int)
 | 0=>λ_ _ _ _=>none
 |m+1=>Nq n bn aa ah ak (Gy n bn aa ah ak m)
def Nr(aa:i'):Option (Outcome×Int×Int):=(xc n 0 9999 aa).bind λah=>(xc n 0 9999 (⟨aa.s,ah.2.1,ah.2.2⟩:i')).bind λak=>cond (!decide (ak.2.2=0)) ( some ((⟨ah.1,ak.1,[]⟩:Outcome),ak.2.1,ak.2.2)) ( (o3 n aa.s ak.2.1 16).bind λbn=>Gy n bn aa ah ak n bn.2.1 bn.2.2 ([]:List bv) 0)
def Ns(n:Nat)(aa:i')(ah:Int×Int×Int)(ak:Int×Int×Int)(v21:Int)(cR:Int)(ho:List ea):Option (bC×Int×Int):=some ((⟨ah.1,ak.1,ho⟩:bC),v21,cR)
def Nt(bn:Int)(aa:i')(ah:Int×Int×Int)(ak:Int×Int×Int)(aq:Int→Int→(List ea)→Int→Option (bC×Int×Int))(v11:Int)(v12:Int)(c':List ea)(co:Int):Option (bC×Int×Int):=cond (cond (decide (co<bn)) (decide (v12=0)) false) ( (Nr n (⟨aa.s,v11,v12⟩:i')).bind λdl=>aI (room (c'.length+([(⟨ah.1,(ae9 (ak.1-(ae9 (bn-co)))),dl.1⟩:ea)]:List ea).length) 56)<|aq dl.2.1 dl.2.2 (c'++([(⟨ah.1,(ae9 (ak.1-(ae9 (bn-co)))),dl.1⟩:ea)]:List ea)) (ae9 (co+1))) ( Ns n aa ah ak v11 v12 c')
def Gz(n:Nat)(bn:Int)(aa:i')(ah:Int×Int×Int)(ak:Int×Int×Int):Nat→Int→Int→(List ea)→Int→Option (bC×Int×Int)
 | 0=>λ_ _ _ _=>none
 |m+1=>Nt n bn aa ah ak (Gz n bn aa ah ak m)
def Nu(aa:i'):Option (bC×Int×Int):=(xc n 1 32 aa).bind λah=>(xc n 1 1099511627776 (⟨aa.s,ah.2.1,ah.2.2⟩:i')).bind λak=>cond (!decide (ak.2.2=0)) ( some ((⟨ah.1,ak.1,[]⟩:bC),ak.2.1,ak.2.2)) ( (AA n ak.1).bind λbn=>Gz n bn aa ah ak n ak.2.1 ak.2.2 ([]:List ea) 0)
def Nv(s:ae7)(cP:Int)(v20:Int)(v21:List bC):Option ((List bC)×Int×Int):=cond (!decide (v20=0)) ( some (([]:List bC),0,v20)) ( (p2 n v21).bind λeC=>cond (!eC) ( some (([]:List bC),0,5)) ( some (v21,cP,0)))
def Nw(ah:Int×Int×Int)(s:ae7)(aq:Int→Int→(List bC)→Int→Option ((List bC)×Int×Int))(v9:Int)(v10:Int)(v11:List bC)(v12:Int):Option ((List bC)×Int×Int):=cond (cond (decide (v12<ah.1)) (decide (v10=0)) false) ( (Nu n (⟨s,v9,v10⟩:i')).bind λdk=>aI (room (v11.length+([dk.1]:List bC).length) 40)<|aq dk.2.1 dk.2.2 (v11++([dk.1]:List bC)) (ae9 (v12+1))) ( Nv n s v9 v10 v11)
def GA(n:Nat)(ah:Int×Int×Int)(s:ae7):Nat→Int→Int→(List bC)→Int→Option ((List bC)×Int×Int)
 | 0=>λ_ _ _ _=>none
 |m+1=>Nw n ah s (GA n ah s m)
def Nx(s:ae7)(at_:Int):Option ((List bC)×Int×Int):=(o3 n s at_ 32).bind λah=>cond (!decide (ah.2.2=0)) ( some (([]:List bC),0,ah.2.2)) ( GA n ah s n ah.2.1 0 ([]:List bC) 0)
def Ny(aa:ft):Option ((List bC)×Int×Int):=cond (!decide (aa.e=0)) ( some (([]:List bC),aa.at_,aa.e)) ( (Nx n aa.s aa.at_).bind λak=>cond (!decide (ak.2.2=0)) ( some (([]:List bC),aa.at_,ak.2.2)) ( some (ak.1,ak.2.1,ak.2.2)))
def Nz(s:ae7)(at_:Int)(a2:Int):Option (Int×Int×Int):=(o3 n s at_ a2).bind λah=>some (ah.1,ah.2.1,ah.2.2)
def GB(p:Int)(aa:ft):Option (Int×Int×Int):=cond (!decide (aa.e=0)) ( some (0,aa.at_,aa.e)) ( (Nz n aa.s aa.at_ p).bind λak=>cond (!decide (ak.2.2=0)) ( some (0,aa.at_,ak.2.2)) ( some (ak.1,ak.2.1,ak.2.2)))
def GC(aa:ft):Option (Int×Int×Int):=cond (!decide (aa.e=0)) ( some (0,aa.at_,aa.e)) ( (A0 n aa.s aa.at_).bind λak=>cond (!decide (ak.2.2=0)) ( some (0,aa.at_,ak.2.2)) ( some (ak.1,ak.2.1,ak.2.2)))
def NA(s:ae7)(at_:Int)(a2:Int):Option (ae7×Int×Int):=(ud n s at_ a2).bind λah=>some (ah.1,ah.2.1,ah.2.2)
def GD(p:Int)(aa:ft):Option (ae7×Int×Int):=cond (!decide (aa.e=0)) ( some (([]:ae7),aa.at_,aa.e)) ( (NA n aa.s aa.at_ p).bind λak=>cond (!decide (ak.2.2=0)) ( some (([]:ae7),aa.at_,ak.2.2)) ( some (ak.1,ak.2.1,ak.2.2)))
def NB(aa:ft):Option (Int×Int×Int):=cond (!decide (aa.e=0)) ( some (0,aa.at_,aa.e)) ( (rW n aa.s aa.at_).bind λak=>cond (!decide (ak.2.2=0)) ( some (0,aa.at_,ak.2.2)) ( some (ak.1,ak.2.1,ak.2.2)))
def GE(n:Nat)(cg:Int):afa:=some cg
def NC(aa:ft)(ah:Int×Int×Int)(eN:(List bC)×Int×Int)(dV:ck×Int×Int)(ak:(List bS)×Int×Int)(gK:List ae7)(A2:Int)(v51:Int)(A3:List be):Option (mx×Int×Int):=(No n (⟨aa.s,A2,v51⟩:ft)).bind λuf=>(NB n (⟨aa.s,uf.2.1,uf.2.2⟩:ft)).bind λjb=>some ((⟨⟨ah.1,⟨0,0,[]⟩,[],eN.1,dV.1,A3,uf.1,jb.1⟩,ak.1,gK⟩:mx),jb.2.1,jb.2.2)
def ND(aa:ft)(ah:Int×Int×Int)(eN:(List bC)×Int×Int)(dV:ck×Int×Int)(ak:(List bS)×Int×Int)(gK:List ae7)(dX:Int→Int→(List be)→Int→Option (mx×Int×Int))(iq:Int)(hq:Int)(v40:List be)(kp:Int):Option (mx×Int×Int):=cond (cond (decide (0<kp)) (decide (hq=0)) false) ( (GE n 24).bind λlm=>(GD n lm (⟨aa.s,iq,hq⟩:ft)).bind λl6=>(GC n (⟨aa.s,l6.2.1,l6.2.2⟩:ft)).bind λfC=>aI (room (v40.length+([(⟨l6.1,fC.1⟩:be)]:List be).length) 24)<|dX fC.2.1 fC.2.2 (v40++([(⟨l6.1,fC.1⟩:be)]:List be)) (ae9 (kp-1))) ( NC n aa ah eN dV ak gK iq hq v40)
def GF(n:Nat)(aa:ft)(ah:Int×Int×Int)(eN:(List bC)×Int×Int)(dV:ck×Int×Int)(ak:(List bS)×Int×Int)(gK:List ae7):Nat→Int→Int→(List be)→Int→Option (mx×Int×Int)
 | 0=>λ_ _ _ _=>none
 |m+1=>ND n aa ah eN dV ak gK (GF n aa ah eN dV ak gK m)
def NE(aa:ft)(ah:Int×Int×Int)(ak:(List bS)×Int×Int)(ho:Int)(v24:Int)(gK:List ae7):Option (mx×Int×Int):=(Ny n (⟨aa.s,ho,v24⟩:ft)).bind λeN=>(Na n (⟨aa.s,eN.2.1,eN.2.2⟩:ft)).bind λdV=>(Gd n 32).bind λmA=>(GB n mA (⟨aa.s,dV.2.1,dV.2.2⟩:ft)).bind λfv=>GF n aa ah eN dV ak gK n fv.2.1 fv.2.2 ([]:List be) fv.1
def NF(aa:ft)(ah:Int×Int×Int)(ak:(List bS)×Int×Int)(du:Int→Int→(List ae7)→Int→Option (mx×Int×Int))(v12:Int)(c':Int)(co:List ae7)(cv:Int):Option (mx×Int×Int):=cond (cond (decide (0<cv)) (decide (c'=0)) false) ( (GE n 16384).bind λep=>(GD n ep (⟨aa.s,v12,c'⟩:ft)).bind λeF=>aI (room (co.length+([eF.1]:List ae7).length) 16)<|du eF.2.1 eF.2.2 (co++([eF.1]:List ae7)) (ae9 (cv-1))) ( NE n aa ah ak v12 c' co)
def GG(n:Nat)(aa:ft)(ah:Int×Int×Int)(ak:(List bS)×Int×Int):Nat→Int→Int→(List ae7)→Int→Option (mx×Int×Int)
 | 0=>λ_ _ _ _=>none
 |m+1=>NF n aa ah ak (GG n aa ah ak m)
def NG(aa:ft):Option (mx×Int×Int):=(GC n aa).bind λah=>(M7 n (⟨aa.s,ah.2.1,ah.2.2⟩:ft)).bind λak=>(Gd n 16).bind λaE=>(GB n aE (⟨aa.s,ak.2.1,ak.2.2⟩:ft)).bind λbn=>GG n aa ah ak n bn.2.1 bn.2.2 ([]:List ae7) bn.1
def GH(n:Nat):Option (ae7×Int×Int):=some (([]:ae7),0,6)
def NH(n:Nat)(aq:(List Int)→Int→Option (ae7×Int×Int))(s:ae7)(cP:List Int)(v20:Int):Option (ae7×Int×Int):=aq cP (ae9 (v20+1))
def GI(aq:(List Int)→Int→Option (ae7×Int×Int))(s:ae7)(v11:List Int)(dR:Int)(aV:Int):Option (ae7×Int×Int):=cond (cond (decide (aV<32)) true (decide (126<aV))) ( some (([]:ae7),0,5)) ( cond (decide (((v11.length:Nat):Int)=64)) ( some (([]:ae7),0,2)) ( aI (room (v11.length+([aV]:List Int).length) 1)<|NH n aq s (v11++([aV]:List Int)) dR))
def NI(s:ae7)(aq:(List Int)→Int→Option (ae7×Int×Int))(v11:List Int)(v12:Int):Option (ae7×Int×Int):=cond (decide (v12<((s.length:Nat):Int))) ( aI (a_ v12 s.length)<|cond (decide ((((s.getD (v12).toNat 0).toNat:Nat):Int)=34)) ( aI (mv v11)<|some ((jv v11),(ae9 (v12+1)),0)) ( cond (decide ((((s.getD (v12).toNat 0).toNat:Nat):Int)=92)) ( cond (decide ((ae9 (v12+1))=((s.length:Nat):Int))) ( GH n) ( aI (a_ (ae9 (v12+1)) s.length)<|cond (cond (!decide ((((s.getD ((ae9 (v12+1))).toNat 0).toNat:Nat):Int)=34)) (!decide ((((s.getD ((ae9 (v12+1))).toNat 0).toNat:Nat):Int)=92)) false) ( some (([]:ae7),0,5)) ( GI n aq s v11 (ae9 (v12+1)) (((s.getD ((ae9 (v12+1))).toNat 0).toNat:Nat):Int)))) ( GI n aq s v11 v12 (((s.getD (v12).toNat 0).toNat:Nat):Int)))) ( GH n)
def GJ(n:Nat)(s:ae7):Nat→(List Int)→Int→Option (ae7×Int×Int)
 | 0=>λ_ _=>none
 |m+1=>NI n s (GJ n s m)
def NJ(s:ae7):Option (ae7×Int×Int):=GJ n s n ([]:List Int) 1
def NK(s:ae7)(c:Int):afa:=(ET n s c).bind λah=>some ah
def GK(s:ae7):Option ae7:=aI (!(!(decide (s=([]:ae7))))||a_ 0 s.length)<|Option.bind (cond (!(decide (s=([]:ae7)))) (NK n ([40,41,123,125,44,59,58,61,60,62,43,45,42,47,37]:ae7) (((s.getD 0 0).toNat:Nat):Int)) (some default)) λcF=>cond (cond (!(decide (s=([]:ae7)))) (decide (0≤cF)) false) ( aI (gh 1 s.length)<|some (s.take 1)) ( some ([]:ae7))
def ug(s:ae7)(v2:Bool):Option ae7:=cond v2 ( aI (gh 2 s.length)<|some (s.take 2)) ( GK n s)
def NL(s:ae7):Option ae7:=cond (decide (2≤((s.length:Nat):Int))) ( aI (gh 2 s.length)<|cond (decide ((s.take 2)=([61,61]:ae7))) ( ug n s (decide ((s.take 2)=([61,61]:ae7)))) ( cond (decide ((s.take 2)=([33,61]:ae7))) ( ug n s (decide ((s.take 2)=([33,61]:ae7)))) ( cond (decide ((s.take 2)=([60,61]:ae7))) ( ug n s (decide ((s.take 2)=([60,61]:ae7)))) ( cond (decide ((s.take 2)=([62,61]:ae7))) ( ug n s (decide ((s.take 2)=([62,61]:ae7)))) ( ug n s (decide ((s.take 2)=([43,43]:ae7)))))))) ( GK n s)
def GL(s:ae7)(v3:ae7)(v4:Bool)(v10:Int):Option (Int×Int):=aI ((cond (decide (v10=0)) true (decide (v10<((v3.length:Nat):Int))))||a_ 0 v3.length)<|cond (cond (cond (decide (v10=0)) true (decide (v10<((v3.length:Nat):Int)))) true (cond (decide ((((v3.getD 0 0).toNat:Nat):Int)=48)) (cond (decide (1<v10)) true v4) false)) ( some (0,5)) ( (EU n s 10 64).bind λdk=>gB.on dk (λNM=>cond (!true) ( some (0,3)) ( some (NM,0))) (λNN=>cond (!false) ( some (0,3)) ( some (NN,0))))
def NO(s:ae7)(v3:ae7)(v4:Bool)(dX:Int→Option (Int×Int))(bz:Int):Option (Int×Int):=cond (decide (bz<((v3.length:Nat):Int))) ( aI (a_ bz v3.length)<|cond (cond (decide (48≤(((v3.getD (bz).toNat 0).toNat:Nat):Int))) (decide ((((v3.getD (bz).toNat 0).toNat:Nat):Int)≤57)) false) ( dX (ae9 (bz+1))) ( GL n s v3 v4 bz)) ( GL n s v3 v4 bz)
def GM(n:Nat)(s:ae7)(v3:ae7)(v4:Bool):Nat→Int→Option (Int×Int)
 | 0=>λ_=>none
 |m+1=>NO n s v3 v4 (GM n s v3 v4 m)
def GN(s:ae7)(v3:ae7)(v4:Bool):Option (Int×Int):=GM n s v3 v4 n 0
def NP(s:ae7):Option (Int×Int):=aI (!(decide (0<((s.length:Nat):Int)))||a_ 0 s.length)<|cond (cond (decide (0<((s.length:Nat):Int))) (decide ((((s.getD 0 0).toNat:Nat):Int)=45)) false) ( aI (gh 1 s.length)<|GN n s (s.drop 1) true) ( GN n s s false)
def NQ(w:ae7):Option (Token×Int):=aI (a_ 0 w.length)<|cond (decide ((((w.getD 0 0).toNat:Nat):Int)=95)) ( some ((⟨0,[],0,0⟩:Token),5)) ( aI (a_ 0 w.length)<|(wy n (IntKind.i32.wrap (((w.getD 0 0).toNat:Nat):Int))).bind λbn=>cond bn ( (wx n w).bind λbQ=>cond bQ ( some ((⟨2,w,0,0⟩:Token),0)) ( (o1 n w).bind λdU=>cond (!dU) ( some ((⟨0,[],0,0⟩:Token),2)) ( some ((⟨1,w,0,0⟩:Token),0)))) ( (NP n w).bind λed=>cond (!decide (ed.2=0)) ( some ((⟨0,[],0,0⟩:Token),ed.2)) ( some ((⟨3,[],ed.1,0⟩:Token),0))))
def NR(s:ae7):Option (Token×Int×Int):=(tw n s).bind λah=>cond (decide (0<ah)) ( aI (gh ah s.length)<|(NQ n (s.take (ah).toNat)).bind λbn=>some (bn.1,ah,bn.2)) ( aI (a_ 0 s.length)<|cond (decide ((((s.getD 0 0).toNat:Nat):Int)=34)) ( (NJ n s).bind λcE=>some ((⟨4,cE.1,0,0⟩:Token),cE.2.1,cE.2.2)) ( (NL n s).bind λdU=>cond (decide (dU=([]:ae7))) ( some ((⟨0,[],0,0⟩:Token),0,5)) ( some ((⟨5,dU,0,0⟩:Token),((dU.length:Nat):Int),0))))
def NS(s:ae7):Option ae7:=(ES n s).bind λah=>some ah
def NT(n:Nat)(A4:List Token):Option ((List Token)×Int×Int):=some (A4,0,0)
def NU(aq:(List Token)→Int→Int→Option ((List Token)×Int×Int))(src:ae7)(aV:List Token)(cT:Int)(cP:Int):Option ((List Token)×Int×Int):=aI (gh cP src.length)<|(NR n (src.drop (cP).toNat)).bind λfv=>cond (!decide (fv.2.2=0)) ( some (([]:List Token),cT,fv.2.2)) ( (NS n fv.1.Text).bind λjV=>aI (room (aV.length+([(⟨fv.1.Kind,jV,fv.1.N,cT⟩:Token)]:List Token).length) 40)<|aq (aV++([(⟨fv.1.Kind,jV,fv.1.N,cT⟩:Token)]:List Token)) cT (ae9 (cP+fv.2.1)))
def NV(n:Nat)(aq:(List Token)→Int→Int→Option ((List Token)×Int×Int))(src:ae7)(aV:List Token)(cT:Int)(lp:Int):Option ((List Token)×Int×Int):=aq aV cT lp
def NW(aq:(List Token)→Int→Int→Option ((List Token)×Int×Int))(src:ae7)(aV:List Token)(cT:Int)(n6:Int→Option ((List Token)×Int×Int))(v24:Int):Option ((List Token)×Int×Int):=aI (!(decide (v24<((src.length:Nat):Int)))||a_ v24 src.length)<|cond (cond (decide (v24<((src.length:Nat):Int))) (!decide ((((src.getD (v24).toNat 0).toNat:Nat):Int)=10)) false) ( n6 (ae9 (v24+1))) ( NV n aq src aV cT v24)
def GO(n:Nat)(aq:(List Token)→Int→Int→Option ((List Token)×Int×Int))(src:ae7)(aV:List Token)(cT:Int):Nat→Int→Option ((List Token)×Int×Int)
 | 0=>λ_=>none
 |m+1=>NW n aq src aV cT (GO n aq src aV cT m)
def GP(aq:(List Token)→Int→Int→Option ((List Token)×Int×Int))(src:ae7)(aV:List Token)(cT:Int)(cP:Int)(v21:Bool):Option ((List Token)×Int×Int):=cond v21 ( aq aV cT (ae9 (cP+1))) ( cond (decide ((((src.getD (cP).toNat 0).toNat:Nat):Int)=35)) ( GO n aq src aV cT n cP) ( NU n aq src aV cT cP))
def NX(src:ae7)(aq:(List Token)→Int→Int→Option ((List Token)×Int×Int))(aV:List Token)(cT:Int)(cP:Int):Option ((List Token)×Int×Int):=cond (decide (cP<((src.length:Nat):Int))) ( aI (a_ cP src.length)<|cond (decide ((((src.getD (cP).toNat 0).toNat:Nat):Int)=10)) ( aq aV (ae9 (cT+1)) (ae9 (cP+1))) ( cond (decide ((((src.getD (cP).toNat 0).toNat:Nat):Int)=32)) ( GP n aq src aV cT cP (decide ((((src.getD (cP).toNat 0).toNat:Nat):Int)=32))) ( GP n aq src aV cT cP (decide ((((src.getD (cP).toNat 0).toNat:Nat):Int)=9))))) ( NT n aV)
def GQ(n:Nat)(src:ae7):Nat→(List Token)→Int→Int→Option ((List Token)×Int×Int)
 | 0=>λ_ _ _=>none
 |m+1=>NX n src (GQ n src m)
def NY(src:ae7):Option ((List Token)×Int×Int):=cond (decide (16384<((src.length:Nat):Int))) ( some (([]:List Token),0,2)) ( GQ n src n ([]:List Token) 1 0)
def p5(n:Nat)(text:ae7)(aa:aK):ae_:=cond (decide (((aa.tokens.length:Nat):Int)≤aa.at_)) ( some false) ( aI (a_ aa.at_ aa.tokens.length)<|some (cond (cond (decide ((ae' aa.tokens (aa.at_)).Kind=2)) true (decide ((ae' aa.tokens (aa.at_)).Kind=5))) (decide (((ae' aa.tokens (aa.at_)).Text)=text)) false))
def jz(text:ae7)(aa:aK):Option (Bool×Int):=(p5 n text aa).bind λah=>cond (!ah) ( some (false,aa.at_)) ( some (true,(ae9 (aa.at_+1))))
def GR(n:Nat)(aa:aK):Option (aA Unit Unit):=aI (a_ (ae9 (((aa.tokens.length:Nat):Int)-1)) aa.tokens.length)<|some (.aW (.iface 332 (.agg [.int .i64 ((ae' aa.tokens (ae9 (((aa.tokens.length:Nat):Int)-1))).kO),.int .i64 6])) ())
def GS(aa:aK):Option (aA Unit Unit):=cond (decide (((aa.tokens.length:Nat):Int)=0)) ( some (.aW (.iface 332 (.agg [.int .i64 1,.int .i64 6])) ())) ( GR n aa)
def o4(code:Int)(aa:aK):Option (aA Unit Unit):=cond (decide (aa.at_<((aa.tokens.length:Nat):Int))) ( aI (a_ aa.at_ aa.tokens.length)<|some (.aW (.iface 332 (.agg [.int .i64 ((ae' aa.tokens (aa.at_)).kO),.int .i64 code])) ())) ( GS n aa)
def jc(text:ae7)(aa:aK):Option (aA Unit Int):=(jz n text aa).bind λah=>cond (!ah.1) ( (o4 n 5 (⟨aa.tokens,ah.2⟩:aK)).bind λaE=>aA.on aE (λbn cF=>some (.ret () ah.2)) (λni cF=>some (.aW ni ah.2))) ( some (.ret () ah.2))
def rX(s:Stmt)(aa:aK):Option (aA Stmt Int):=(jc n ([59]:ae7) aa).bind λah=>aA.on ah (λak aE=>some (.ret (⟨s.Op,s.Name,s.Max,⟨s.A.Op,s.A.N,s.A.S,s.A.aw⟩,⟨s.B.Op,s.B.N,s.B.S,s.B.aw⟩,s.Body,s.bR⟩:Stmt) aE)) (λfe aE=>some (.aW fe aE))
def NZ(n:Nat)(aa:aK):Option (Int×Int):=cond (decide (((aa.tokens.length:Nat):Int)≤aa.at_)) ( some (0,0)) ( aI (a_ aa.at_ aa.tokens.length)<|cond (cond (!decide ((ae' aa.tokens (aa.at_)).Kind=2)) (!decide ((ae' aa.tokens (aa.at_)).Kind=5)) false) ( some (0,0)) ( cond (decide (((ae' aa.tokens (aa.at_)).Text)=([111,114]:ae7))) ( some (1,17)) ( cond (decide (((ae' aa.tokens (aa.at_)).Text)=([97,110,100]:ae7))) ( some (2,16)) ( cond (decide (((ae' aa.tokens (aa.at_)).Text)=([61,61]:ae7))) ( some (4,10)) ( cond (decide (((ae' aa.tokens (aa.at_)).Text)=([33,61]:ae7))) ( some (4,11)) ( cond (decide (((ae' aa.tokens (aa.at_)).Text)=([60]:ae7))) ( some (4,12)) ( cond (decide (((ae' aa.tokens (aa.at_)).Text)=([60,61]:ae7))) ( some (4,13)) ( cond (decide (((ae' aa.tokens (aa.at_)).Text)=([62]:ae7))) ( some (4,14)) ( cond (decide (((ae' aa.tokens (aa.at_)).Text)=([62,61]:ae7))) ( some (4,15)) ( cond (decide (((ae' aa.tokens (aa.at_)).Text)=([43,43]:ae7))) ( some (5,19)) ( cond (decide (((ae' aa.tokens (aa.at_)).Text)=([43]:ae7))) ( some (6,4)) ( cond (decide (((ae' aa.tokens (aa.at_)).Text)=([45]:ae7))) ( some (6,5)) ( cond (decide (((ae' aa.tokens (aa.at_)).Text)=([42]:ae7))) ( some (7,6)) ( cond (decide (((ae' aa.tokens (aa.at_)).Text)=([47]:ae7))) ( some (7,7)) ( cond (decide (((ae' aa.tokens (aa.at_)).Text)=([37]:ae7))) ( some (7,8)) ( some (0,0)))))))))))))))))
def A5(n:Nat)(depth:Int)(aa:aK):Option (aA Int Unit):=some (.ret (ae9 (depth+1)) ())
def uh(depth:Int)(aa:aK):Option (aA Int Unit):=cond (decide (24≤depth)) ( (o4 n 2 aa).bind λah=>aA.on ah (λak aE=>A5 n depth aa) (λfe aE=>some (.aW fe ()))) ( A5 n depth aa)
def A6(n:Nat)(aa:aK):afa:=aI ((decide (((aa.tokens.length:Nat):Int)≤aa.at_))||a_ aa.at_ aa.tokens.length)<|cond (cond (decide (((aa.tokens.length:Nat):Int)≤aa.at_)) true (!decide ((ae' aa.tokens (aa.at_)).Kind=2))) ( some 0) ( aI (a_ aa.at_ aa.tokens.length)<|cond (decide (((ae' aa.tokens (aa.at_)).Text)=([116,101,120,116]:ae7))) ( some 20) ( cond (decide (((ae' aa.tokens (aa.at_)).Text)=([108,101,110]:ae7))) ( some 21) ( cond (decide (((ae' aa.tokens (aa.at_)).Text)=([103,101,116,105,110,116]:ae7))) ( some 22) ( cond (decide (((ae' aa.tokens (aa.at_)).Text)=([103,101,116,115,116,114]:ae7))) ( some 23) ( cond (decide (((ae' aa.tokens (aa.at_)).Text)=([104,97,115]:ae7))) ( some 24) ( cond (decide (((ae' aa.tokens (aa.at_)).Text)=([110,111,119]:ae7))) ( some 25) ( cond (decide (((ae' aa.tokens (aa.at_)).Text)=([114,97,110,100,111,109]:ae7))) ( some 26) ( cond (decide (((ae' aa.tokens (aa.at_)).Text)=([110,111,100,101]:ae7))) ( some 27) ( some 0)))))))))
def N0(eO:Int→Int→aK→Option (aA Expr Int))(e9:Int→Int→Int→aK→Option (aA Expr Int))(ff:Int→aK→Option (aA Expr Int))(e':Int→aK→Option (aA Expr Int))(level:Int)(depth:Int)(aa:aK)(cq:Int→Int→Int→ae7→(List Expr)→Option (aA Expr Int))(v37:Int)(iq:Int)(hq:Int)(v40:ae7)(kp:List Expr):Option (aA Expr Int):=(NZ n (⟨aa.tokens,v37⟩:aK)).bind λlm=>cond (!decide (lm.1=level)) ( some (.ret (⟨iq,hq,v40,kp⟩:Expr) v37)) ( (eO (ae9 (level+1)) depth (⟨aa.tokens,(ae9 (v37+1))⟩:aK)).bind λl6=>aA.on l6 (λfC lq=>cond (decide (level=4)) ( some (.ret (⟨lm.2,0,[],[⟨iq,hq,v40,kp⟩,fC]⟩:Expr) lq)) ( cq lq lm.2 0 ([]:ae7) ([(⟨iq,hq,v40,kp⟩:Expr),fC]:List Expr))) (λrY lq=>some (.aW rY lq)))
def GT(n:Nat)(eO:Int→Int→aK→Option (aA Expr Int))(e9:Int→Int→Int→aK→Option (aA Expr Int))(ff:Int→aK→Option (aA Expr Int))(e':Int→aK→Option (aA Expr Int))(level:Int)(depth:Int)(aa:aK):Nat→Int→Int→Int→ae7→(List Expr)→Option (aA Expr Int)
 | 0=>λ_ _ _ _ _=>none
 |m+1=>N0 n eO e9 ff e' level depth aa (GT n eO e9 ff e' level depth aa m)
def N1(eO:Int→Int→aK→Option (aA Expr Int))(e9:Int→Int→Int→aK→Option (aA Expr Int))(ff:Int→aK→Option (aA Expr Int))(e':Int→aK→Option (aA Expr Int))(level:Int)(depth:Int)(aa:aK):Option (aA Expr Int):=cond (decide (level=3)) ( (p5 n ([110,111,116]:ae7) aa).bind λak=>cond ak ( (e9 18 level depth aa).bind λbn=>aA.on bn (λcF bQ=>some (.ret cF bQ)) (λxd bQ=>some (.aW xd bQ))) ( (eO 4 depth aa).bind λdU=>aA.on dU (λcO ed=>some (.ret cO ed)) (λGU ed=>some (.aW GU ed)))) ( cond (decide (level=8)) ( (p5 n ([45]:ae7) aa).bind λdk=>cond dk ( (e9 9 level depth aa).bind λdl=>aA.on dl (λep eF=>some (.ret ep eF)) (λrZ eF=>some (.aW rZ eF))) ( (ff depth aa).bind λfy=>aA.on fy (λeo e0=>some (.ret eo e0)) (λGV e0=>some (.aW GV e0)))) ( (eO (ae9 (level+1)) depth aa).bind λeC=>aA.on eC (λfG fQ=>GT n eO e9 ff e' level depth aa n fQ fG.Op fG.N fG.S fG.aw) (λGW fQ=>some (.aW GW fQ))))
def N2(eO:Int→Int→aK→Option (aA Expr Int))(e9:Int→Int→Int→aK→Option (aA Expr Int))(ff:Int→aK→Option (aA Expr Int))(e':Int→aK→Option (aA Expr Int))(op:Int)(level:Int)(depth:Int)(aa:aK):Option (aA Expr Int):=(uh n depth aa).bind λah=>aA.on ah (λak aE=>(eO level ak (⟨aa.tokens,(ae9 (aa.at_+1))⟩:aK)).bind λcF=>aA.on cF (λbQ cE=>some (.ret (⟨op,0,[],[bQ]⟩:Expr) cE)) (λhS cE=>some (.aW hS cE))) (λfe aE=>some (.aW fe aa.at_))
def GX(eO:Int→Int→aK→Option (aA Expr Int))(e9:Int→Int→Int→aK→Option (aA Expr Int))(ff:Int→aK→Option (aA Expr Int))(e':Int→aK→Option (aA Expr Int))(depth:Int)(aE:Int)(aa:aK)(v2:Int):Option (aA Expr Int):=(uh n depth (⟨aa.tokens,v2⟩:aK)).bind λeN=>aA.on eN (λdV mA=>(e' dV (⟨aa.tokens,(ae9 (v2+1))⟩:aK)).bind λjV=>aA.on jV (λfR nj=>some (.ret (⟨aE,0,[],[fR]⟩:Expr) nj)) (λr0 nj=>some (.aW r0 nj))) (λGY mA=>some (.aW GY v2))
def GZ(eO:Int→Int→aK→Option (aA Expr Int))(e9:Int→Int→Int→aK→Option (aA Expr Int))(ff:Int→aK→Option (aA Expr Int))(e':Int→aK→Option (aA Expr Int))(depth:Int)(aa:aK)(v2:Int):Option (aA Expr Int):=(uh n depth (⟨aa.tokens,v2⟩:aK)).bind λcO=>aA.on cO (λed b6=>(e' ed (⟨aa.tokens,v2⟩:aK)).bind λdk=>aA.on dk (λeB dl=>some (.ret eB dl)) (λr1 dl=>some (.aW r1 dl))) (λkQ b6=>some (.aW kQ v2))
def xe(eO:Int→Int→aK→Option (aA Expr Int))(e9:Int→Int→Int→aK→Option (aA Expr Int))(ff:Int→aK→Option (aA Expr Int))(e':Int→aK→Option (aA Expr Int))(depth:Int)(aE:Int)(aa:aK)(v2:Int)(aV:Bool):Option (aA Expr Int):=cond aV ( (jc n ([40]:ae7) (⟨aa.tokens,(ae9 (v2+1))⟩:aK)).bind λfq=>aA.on fq (λfy eo=>(jc n ([41]:ae7) (⟨aa.tokens,eo⟩:aK)).bind λdW=>aA.on dW (λeC fG=>some (.ret (⟨aE,0,[],[]⟩:Expr) fG)) (λG0 fG=>some (.aW G0 fG))) (λG1 eo=>some (.aW G1 eo))) ( GX n eO e9 ff e' depth aE aa v2)
def xf(eO:Int→Int→aK→Option (aA Expr Int))(e9:Int→Int→Int→aK→Option (aA Expr Int))(ff:Int→aK→Option (aA Expr Int))(e':Int→aK→Option (aA Expr Int))(depth:Int)(aa:aK)(v2:Int):Option (aA Expr Int):=(A6 n (⟨aa.tokens,v2⟩:aK)).bind λaE=>cond (decide (aE=0)) ( (p5 n ([40]:ae7) (⟨aa.tokens,v2⟩:aK)).bind λbn=>cond (!bn) ( (o4 n 5 (⟨aa.tokens,v2⟩:aK)).bind λcF=>aA.on cF (λbQ cE=>GZ n eO e9 ff e' depth aa v2) (λhS cE=>some (.aW hS v2))) ( GZ n eO e9 ff e' depth aa v2)) ( cond (decide (aE=25)) ( xe n eO e9 ff e' depth aE aa v2 (decide (aE=25))) ( cond (decide (aE=26)) ( xe n eO e9 ff e' depth aE aa v2 (decide (aE=26))) ( xe n eO e9 ff e' depth aE aa v2 (decide (aE=27)))))
def A7(eO:Int→Int→aK→Option (aA Expr Int))(e9:Int→Int→Int→aK→Option (aA Expr Int))(ff:Int→aK→Option (aA Expr Int))(e':Int→aK→Option (aA Expr Int))(depth:Int)(aa:aK):Option (aA Expr Int):=cond (decide (aa.at_<((aa.tokens.length:Nat):Int))) ( aI (a_ aa.at_ aa.tokens.length)<|cond (decide ((ae' aa.tokens (aa.at_)).Kind=3)) ( some (.ret (⟨1,(ae' aa.tokens (aa.at_)).N,[],[]⟩:Expr) (ae9 (aa.at_+1)))) ( cond (decide ((ae' aa.tokens (aa.at_)).Kind=4)) ( some (.ret (⟨2,0,(ae' aa.tokens (aa.at_)).Text,[]⟩:Expr) (ae9 (aa.at_+1)))) ( cond (decide ((ae' aa.tokens (aa.at_)).Kind=1)) ( some (.ret (⟨3,0,(ae' aa.tokens (aa.at_)).Text,[]⟩:Expr) (ae9 (aa.at_+1)))) ( xf n eO e9 ff e' depth aa (ae9 ((ae9 (aa.at_+1))-1)))))) ( xf n eO e9 ff e' depth aa aa.at_)
def A8(eO:Int→Int→aK→Option (aA Expr Int))(e9:Int→Int→Int→aK→Option (aA Expr Int))(ff:Int→aK→Option (aA Expr Int))(e':Int→aK→Option (aA Expr Int))(depth:Int)(aa:aK):Option (aA Expr Int):=(jc n ([40]:ae7) aa).bind λah=>aA.on ah (λak aE=>(eO 1 depth (⟨aa.tokens,aE⟩:aK)).bind λcF=>aA.on cF (λbQ cE=>(jc n ([41]:ae7) (⟨aa.tokens,cE⟩:aK)).bind λcO=>aA.on cO (λed b6=>some (.ret bQ b6)) (λkQ b6=>some (.aW kQ b6))) (λhS cE=>some (.aW hS cE))) (λfe aE=>some (.aW fe aE))
def iL:Nat→(Int→Int→aK→Option (aA Expr Int))×(Int→Int→Int→aK→Option (aA Expr Int))×(Int→aK→Option (aA Expr Int))×(Int→aK→Option (aA Expr Int))
 | 0=>(λ_ _ _=>none,λ_ _ _ _=>none,λ_ _=>none,λ_ _=>none)
 |m+1=>(N1 m ((iL m).1) ((iL m).2.1) ((iL m).2.2.1) ((iL m).2.2.2),N2 m ((iL m).1) ((iL m).2.1) ((iL m).2.2.1) ((iL m).2.2.2),A7 m ((iL m).1) ((iL m).2.1) ((iL m).2.2.1) ((iL m).2.2.2),A8 m ((iL m).1) ((iL m).2.1) ((iL m).2.2.1) ((iL m).2.2.2))
def kq:Int→Int→aK→Option (aA Expr Int):=(iL n).1
def A9:Int→Int→Int→aK→Option (aA Expr Int):=(iL n).2.1
def r2:Int→aK→Option (aA Expr Int):=(iL n).2.2.1
def ui:Int→aK→Option (aA Expr Int):=(iL n).2.2.2
def G2(n:Nat)(aa:aK):Option (aA Token Int):=aI (a_ (ae9 ((ae9 (aa.at_+1))-1)) aa.tokens.length)<|some (.ret (ae' aa.tokens (ae9 ((ae9 (aa.at_+1))-1))) (ae9 (aa.at_+1)))
def p6(kind:Int)(aa:aK):Option (aA Token Int):=aI ((decide (((aa.tokens.length:Nat):Int)≤aa.at_))||a_ aa.at_ aa.tokens.length)<|cond (cond (decide (((aa.tokens.length:Nat):Int)≤aa.at_)) true (!decide ((ae' aa.tokens (aa.at_)).Kind=kind))) ( (o4 n 5 aa).bind λak=>aA.on ak (λaE bn=>G2 n aa) (λl7 bn=>some (.aW l7 aa.at_))) ( G2 n aa)
def N3(n:Nat)(fS:Int→aK→Option (aA (List Stmt) Int))(ge:Int→aK→Option (aA Stmt Int))(gf:Int→aK→Option (aA Stmt Int))(aa:aK)(v28:Int)(ib:List Stmt):Option (aA (List Stmt) Int):=some (.ret ib v28)
def N4(fS:Int→aK→Option (aA (List Stmt) Int))(ge:Int→aK→Option (aA Stmt Int))(gf:Int→aK→Option (aA Stmt Int))(depth:Int)(aa:aK)(dX:Int→(List Stmt)→Option (aA (List Stmt) Int))(cT:Int)(cP:List Stmt):Option (aA (List Stmt) Int):=(jz n ([125]:ae7) (⟨aa.tokens,cT⟩:aK)).bind λeo=>cond (!eo.1) ( (ge (ae9 (depth+1)) (⟨aa.tokens,eo.2⟩:aK)).bind λe0=>aA.on e0 (λdW eC=>aI (room (cP.length+([dW]:List Stmt).length) 192)<|dX eC (cP++([dW]:List Stmt))) (λnk eC=>some (.aW nk eC))) ( N3 n fS ge gf aa eo.2 cP)
def G3(n:Nat)(fS:Int→aK→Option (aA (List Stmt) Int))(ge:Int→aK→Option (aA Stmt Int))(gf:Int→aK→Option (aA Stmt Int))(depth:Int)(aa:aK):Nat→Int→(List Stmt)→Option (aA (List Stmt) Int)
 | 0=>λ_ _=>none
 |m+1=>N4 n fS ge gf depth aa (G3 n fS ge gf depth aa m)
def G4(fS:Int→aK→Option (aA (List Stmt) Int))(ge:Int→aK→Option (aA Stmt Int))(gf:Int→aK→Option (aA Stmt Int))(depth:Int)(aa:aK):Option (aA (List Stmt) Int):=(jc n ([123]:ae7) aa).bind λbQ=>aA.on bQ (λcE dU=>G3 n fS ge gf depth aa n dU ([]:List Stmt)) (λG5 dU=>some (.aW G5 dU))
def N5(fS:Int→aK→Option (aA (List Stmt) Int))(ge:Int→aK→Option (aA Stmt Int))(gf:Int→aK→Option (aA Stmt Int))(depth:Int)(aa:aK):Option (aA (List Stmt) Int):=(p5 n ([123]:ae7) aa).bind λah=>cond (cond ah (decide (12<depth)) false) ( (o4 n 2 aa).bind λak=>aA.on ak (λaE bn=>G4 n fS ge gf depth aa) (λl7 bn=>some (.aW l7 aa.at_))) ( G4 n fS ge gf depth aa)
def G6(n:Nat)(fS:Int→aK→Option (aA (List Stmt) Int))(ge:Int→aK→Option (aA Stmt Int))(gf:Int→aK→Option (aA Stmt Int))(aa:aK)(n7:Expr)(r3:(List Stmt))(A':Int)(A_:List Stmt):Option (aA Stmt Int):=some (.ret (⟨5,[],0,n7,⟨0,0,[],[]⟩,r3,A_⟩:Stmt) A')
def N6(fS:Int→aK→Option (aA (List Stmt) Int))(ge:Int→aK→Option (aA Stmt Int))(gf:Int→aK→Option (aA Stmt Int))(depth:Int)(aa:aK):Option (aA Stmt Int):=(jz n ([108,101,116]:ae7) aa).bind λah=>cond ah.1 ( (p6 n 1 (⟨aa.tokens,ah.2⟩:aK)).bind λaE=>aA.on aE (λbn cF=>(jc n ([61]:ae7) (⟨aa.tokens,cF⟩:aK)).bind λcE=>aA.on cE (λdU cO=>(kq n 1 0 (⟨aa.tokens,cO⟩:aK)).bind λb6=>aA.on b6 (λfr dk=>(rX n (⟨1,bn.Text,0,fr,⟨0,0,[],[]⟩,[],[]⟩:Stmt) (⟨aa.tokens,dk⟩:aK)).bind λdl=>aA.on dl (λep eF=>some (.ret (⟨ep.Op,ep.Name,ep.Max,⟨ep.A.Op,ep.A.N,ep.A.S,ep.A.aw⟩,⟨ep.B.Op,ep.B.N,ep.B.S,ep.B.aw⟩,ep.Body,ep.bR⟩:Stmt) eF)) (λrZ eF=>some (.aW rZ eF))) (λG7 dk=>some (.aW G7 dk))) (λG8 cO=>some (.aW G8 cO))) (λni cF=>some (.aW ni cF))) ( (jz n ([112,117,116]:ae7) (⟨aa.tokens,ah.2⟩:aK)).bind λfy=>cond fy.1 ( (kq n 1 0 (⟨aa.tokens,fy.2⟩:aK)).bind λe0=>aA.on e0 (λdW eC=>(jc n ([61]:ae7) (⟨aa.tokens,eC⟩:aK)).bind λfQ=>aA.on fQ (λeN dV=>(kq n 1 0 (⟨aa.tokens,dV⟩:aK)).bind λfv=>aA.on fv (λjV fR=>(rX n (⟨3,[],0,dW,jV,[],[]⟩:Stmt) (⟨aa.tokens,fR⟩:aK)).bind λp0=>aA.on p0 (λlr xg=>some (.ret (⟨lr.Op,lr.Name,lr.Max,⟨lr.A.Op,lr.A.N,lr.A.S,lr.A.aw⟩,⟨lr.B.Op,lr.B.N,lr.B.S,lr.B.aw⟩,lr.Body,lr.bR⟩:Stmt) xg)) (λG9 xg=>some (.aW G9 xg))) (λr4 fR=>some (.aW r4 fR))) (λr5 dV=>some (.aW r5 dV))) (λnk eC=>some (.aW nk eC))) ( (jz n ([100,101,108,101,116,101]:ae7) (⟨aa.tokens,fy.2⟩:aK)).bind λBa=>cond Ba.1 ( (kq n 1 0 (⟨aa.tokens,Ba.2⟩:aK)).bind λtZ=>aA.on tZ (λrR ln=>(rX n (⟨4,[],0,rR,⟨0,0,[],[]⟩,[],[]⟩:Stmt) (⟨aa.tokens,ln⟩:aK)).bind λl6=>aA.on l6 (λfC lq=>some (.ret (⟨fC.Op,fC.Name,fC.Max,⟨fC.A.Op,fC.A.N,fC.A.S,fC.A.aw⟩,⟨fC.B.Op,fC.B.N,fC.B.S,fC.B.aw⟩,fC.Body,fC.bR⟩:Stmt) lq)) (λrY lq=>some (.aW rY lq))) (λr6 ln=>some (.aW r6 ln))) ( (jz n ([101,109,105,116]:ae7) (⟨aa.tokens,Ba.2⟩:aK)).bind λl5=>cond l5.1 ( (kq n 1 0 (⟨aa.tokens,l5.2⟩:aK)).bind λAO=>aA.on AO (λw7 xh=>(rX n (⟨7,[],0,w7,⟨0,0,[],[]⟩,[],[]⟩:Stmt) (⟨aa.tokens,xh⟩:aK)).bind λuf=>aA.on uf (λjb xi=>some (.ret (⟨jb.Op,jb.Name,jb.Max,⟨jb.A.Op,jb.A.N,jb.A.S,jb.A.aw⟩,⟨jb.B.Op,jb.B.N,jb.B.S,jb.B.aw⟩,jb.Body,jb.bR⟩:Stmt) xi)) (λG' xi=>some (.aW G' xi))) (λG_ xh=>some (.aW G_ xh))) ( (jz n ([97,98,111,114,116]:ae7) (⟨aa.tokens,l5.2⟩:aK)).bind λBb=>cond Bb.1 ( (p6 n 3 (⟨aa.tokens,Bb.2⟩:aK)).bind λWY=>aA.on WY (λN7 xj=>(rX n (⟨8,[],N7.N,⟨0,0,[],[]⟩,⟨0,0,[],[]⟩,[],[]⟩:Stmt) (⟨aa.tokens,xj⟩:aK)).bind λw3=>aA.on w3 (λls p4=>some (.ret (⟨ls.Op,ls.Name,ls.Max,⟨ls.A.Op,ls.A.N,ls.A.S,ls.A.aw⟩,⟨ls.B.Op,ls.B.N,ls.B.S,ls.B.aw⟩,ls.Body,ls.bR⟩:Stmt) p4)) (λHa p4=>some (.aW Ha p4))) (λHb xj=>some (.aW Hb xj))) ( (jz n ([105,102]:ae7) (⟨aa.tokens,Bb.2⟩:aK)).bind λBc=>cond Bc.1 ( (kq n 1 0 (⟨aa.tokens,Bc.2⟩:aK)).bind λWZ=>aA.on WZ (λn7 xk=>(fS depth (⟨aa.tokens,xk⟩:aK)).bind λW0=>aA.on W0 (λr3 xl=>(jz n ([101,108,115,101]:ae7) (⟨aa.tokens,xl⟩:aK)).bind λBd=>cond Bd.1 ( (fS depth (⟨aa.tokens,Bd.2⟩:aK)).bind λW1=>aA.on W1 (λN8 xm=>G6 n fS ge gf aa n7 r3 xm N8) (λHc xm=>some (.aW Hc xm))) ( G6 n fS ge gf aa n7 r3 Bd.2 ([]:List Stmt))) (λHd xl=>some (.aW Hd xl))) (λHe xk=>some (.aW He xk))) ( (jz n ([102,111,114]:ae7) (⟨aa.tokens,Bc.2⟩:aK)).bind λBe=>cond Be.1 ( (gf depth (⟨aa.tokens,Be.2⟩:aK)).bind λW2=>aA.on W2 (λlu xn=>some (.ret (⟨lu.Op,lu.Name,lu.Max,⟨lu.A.Op,lu.A.N,lu.A.S,lu.A.aw⟩,⟨lu.B.Op,lu.B.N,lu.B.S,lu.B.aw⟩,lu.Body,lu.bR⟩:Stmt) xn)) (λHf xn=>some (.aW Hf xn))) ( (p6 n 1 (⟨aa.tokens,Be.2⟩:aK)).bind λtW=>aA.on tW (λrP xo=>(jc n ([61]:ae7) (⟨aa.tokens,xo⟩:aK)).bind λW3=>aA.on W3 (λAJ xp=>(kq n 1 0 (⟨aa.tokens,xp⟩:aK)).bind λW4=>aA.on W4 (λN9 xq=>(rX n (⟨2,rP.Text,0,N9,⟨0,0,[],[]⟩,[],[]⟩:Stmt) (⟨aa.tokens,xq⟩:aK)).bind λW5=>aA.on W5 (λlv p3=>some (.ret (⟨lv.Op,lv.Name,lv.Max,⟨lv.A.Op,lv.A.N,lv.A.S,lv.A.aw⟩,⟨lv.B.Op,lv.B.N,lv.B.S,lv.B.aw⟩,lv.Body,lv.bR⟩:Stmt) p3)) (λHg p3=>some (.aW Hg p3))) (λHh xq=>some (.aW Hh xq))) (λHi xp=>some (.aW Hi xp))) (λHj xo=>some (.aW Hj xo)))))))))
def N'(fS:Int→aK→Option (aA (List Stmt) Int))(ge:Int→aK→Option (aA Stmt Int))(gf:Int→aK→Option (aA Stmt Int))(depth:Int)(aa:aK):Option (aA Stmt Int):=(p6 n 1 aa).bind λah=>aA.on ah (λak aE=>(jc n ([61]:ae7) (⟨aa.tokens,aE⟩:aK)).bind λcF=>aA.on cF (λbQ cE=>(kq n 1 0 (⟨aa.tokens,cE⟩:aK)).bind λcO=>aA.on cO (λed b6=>(jc n ([116,111]:ae7) (⟨aa.tokens,b6⟩:aK)).bind λdk=>aA.on dk (λeB dl=>(kq n 1 0 (⟨aa.tokens,dl⟩:aK)).bind λeF=>aA.on eF (λfq fy=>(jc n ([109,97,120]:ae7) (⟨aa.tokens,fy⟩:aK)).bind λe0=>aA.on e0 (λdW eC=>(p6 n 3 (⟨aa.tokens,eC⟩:aK)).bind λfQ=>aA.on fQ (λeN dV=>(fS depth (⟨aa.tokens,dV⟩:aK)).bind λfv=>aA.on fv (λjV fR=>some (.ret (⟨6,ak.Text,eN.N,ed,fq,jV,[]⟩:Stmt) fR)) (λr4 fR=>some (.aW r4 fR))) (λr5 dV=>some (.aW r5 dV))) (λnk eC=>some (.aW nk eC))) (λHk fy=>some (.aW Hk fy))) (λr1 dl=>some (.aW r1 dl))) (λkQ b6=>some (.aW kQ b6))) (λhS cE=>some (.aW hS cE))) (λfe aE=>some (.aW fe aE))
def mC:Nat→(Int→aK→Option (aA (List Stmt) Int))×(Int→aK→Option (aA Stmt Int))×(Int→aK→Option (aA Stmt Int))
 | 0=>(λ_ _=>none,λ_ _=>none,λ_ _=>none)
 |m+1=>(N5 m ((mC m).1) ((mC m).2.1) ((mC m).2.2),N6 m ((mC m).1) ((mC m).2.1) ((mC m).2.2),N' m ((mC m).1) ((mC m).2.1) ((mC m).2.2))
def Hl:Int→aK→Option (aA (List Stmt) Int):=(mC n).1
def W6:Int→aK→Option (aA Stmt Int):=(mC n).2.1
def W7:Int→aK→Option (aA Stmt Int):=(mC n).2.2
def xr(n:Nat)(aa:aK)(ak:Token)(dR:Int)(aV:Int):Option (aA Param Int):=some (.ret (⟨ak.Text,aV⟩:Param) dR)
def Hm(aa:aK):Option (aA Param Int):=(p6 n 1 aa).bind λah=>aA.on ah (λak aE=>(jc n ([58]:ae7) (⟨aa.tokens,aE⟩:aK)).bind λcF=>aA.on cF (λbQ cE=>(jz n ([105,110,116]:ae7) (⟨aa.tokens,cE⟩:aK)).bind λcO=>cond cO.1 ( xr n aa ak cO.2 1) ( (jz n ([115,116,114]:ae7) (⟨aa.tokens,cO.2⟩:aK)).bind λed=>cond ed.1 ( xr n aa ak ed.2 2) ( (jz n ([98,111,111,108]:ae7) (⟨aa.tokens,ed.2⟩:aK)).bind λb6=>cond b6.1 ( xr n aa ak b6.2 3) ( (o4 n 5 (⟨aa.tokens,b6.2⟩:aK)).bind λfr=>aA.on fr (λdk eB=>xr n aa ak b6.2 0) (λHn eB=>some (.aW Hn b6.2)))))) (λhS cE=>some (.aW hS cE))) (λfe aE=>some (.aW fe aE))
def Ho(aa:aK)(bQ:Token)(Bf:Int)(Bg:List Param):Option (aA bb Int):=(Hl n 0 (⟨aa.tokens,Bf⟩:aK)).bind λlq=>aA.on lq (λw6 l5=>some (.ret (⟨bQ.Text,Bg,w6⟩:bb) l5)) (λHp l5=>some (.aW Hp l5))
def N_(aa:aK)(bQ:Token)(v37:Int)(iq:List Param):Option (aA bb Int):=(jc n ([41]:ae7) (⟨aa.tokens,v37⟩:aK)).bind λtZ=>aA.on tZ (λrR ln=>Ho n aa bQ ln iq) (λr6 ln=>some (.aW r6 ln))
def Oa(aa:aK)(bQ:Token)(dX:Int→(List Param)→Option (aA bb Int))(lp:Int)(v28:List Param):Option (aA bb Int):=(jz n ([44]:ae7) (⟨aa.tokens,lp⟩:aK)).bind λfv=>cond fv.1 ( (Hm n (⟨aa.tokens,fv.2⟩:aK)).bind λjV=>aA.on jV (λfR nj=>aI (room (v28.length+([fR]:List Param).length) 24)<|dX nj (v28++([fR]:List Param))) (λr0 nj=>some (.aW r0 nj))) ( N_ n aa bQ fv.2 v28)
def Hq(n:Nat)(aa:aK)(bQ:Token):Nat→Int→(List Param)→Option (aA bb Int)
 | 0=>λ_ _=>none
 |m+1=>Oa n aa bQ (Hq n aa bQ m)
def Ob(aa:aK):Option (aA bb Int):=(jc n ([112,114,111,99]:ae7) aa).bind λah=>aA.on ah (λak aE=>(p6 n 1 (⟨aa.tokens,aE⟩:aK)).bind λcF=>aA.on cF (λbQ cE=>(jc n ([40]:ae7) (⟨aa.tokens,cE⟩:aK)).bind λcO=>aA.on cO (λed b6=>(jz n ([41]:ae7) (⟨aa.tokens,b6⟩:aK)).bind λdk=>cond (!dk.1) ( (Hm n (⟨aa.tokens,dk.2⟩:aK)).bind λeB=>aA.on eB (λdl ep=>aI (room (([]:List Param).length+([dl]:List Param).length) 24)<|Hq n aa bQ n ep (([]:List Param)++([dl]:List Param))) (λHr ep=>some (.aW Hr ep))) ( Ho n aa bQ dk.2 ([]:List Param))) (λkQ b6=>some (.aW kQ b6))) (λhS cE=>some (.aW hS cE))) (λfe aE=>some (.aW fe aE))
def Oc(aa:aK)(fu:bb):Option (aA Unit (Int×ae7×(List Param)×(List Stmt))):=(Ob n aa).bind λah=>aA.on ah (λak aE=>some (.ret () (aE,ak.Name,ak.Params,ak.Body))) (λfe aE=>some (.aW fe (aE,fu.Name,fu.Params,fu.Body)))
def Od(n:Nat)(aa:aK):Option (aA Unit Unit):=aI (a_ (ae9 (((aa.tokens.length:Nat):Int)-1)) aa.tokens.length)<|some (.aW (.iface 332 (.agg [.int .i64 ((ae' aa.tokens (ae9 (((aa.tokens.length:Nat):Int)-1))).kO),.int .i64 6])) ())
def Oe(aa:aK):Option (aA Unit Unit):=cond (decide (((aa.tokens.length:Nat):Int)=0)) ( some (.aW (.iface 332 (.agg [.int .i64 1,.int .i64 6])) ())) ( Od n aa)
def Of(code:Int)(aa:aK):Option (aA Unit Unit):=cond (decide (aa.at_<((aa.tokens.length:Nat):Int))) ( aI (a_ aa.at_ aa.tokens.length)<|some (.aW (.iface 332 (.agg [.int .i64 ((ae' aa.tokens (aa.at_)).kO),.int .i64 code])) ())) ( Oe n aa)
def Hs(src:ae7)(aa:bb):Option (Int×Int×ae7×(List Param)×(List Stmt)):=(NY n src).bind λah=>cond (!decide (ah.2.2=0)) (some (ah.2.1,ah.2.2,aa.Name,aa.Params,aa.Body)) ((Oc n (⟨ah.1,0⟩:aK) aa).bind λak=>aA.on ak (λca lw=>cond (decide (lw.1<((ah.1.length:Nat):Int))) ((Of n 5 (⟨ah.1,lw.1⟩:aK)).bind λaE=>aA.on aE (λcb Ht=>none) (λdZ Ht=>(zv 332 dZ).bind λlc=>some (lc.1,lc.2,lw.2.1,lw.2.2.1,lw.2.2.2))) (some (0,0,lw.2.1,lw.2.2.1,lw.2.2.2))) (λdZ lw=>(zv 332 dZ).bind λlc=>some (lc.1,lc.2,lw.2.1,lw.2.2.1,lw.2.2.2)))
def Hu(n:Nat)(ah:Int×Int×ae7×(List Param)×(List Stmt))(v3:Int):Option (bb×Int×Int):=cond (!decide (v3=0)) ( some ((⟨[],[],[]⟩:bb),ah.1,v3)) ( some ((⟨ah.2.2.1,ah.2.2.2.1,ah.2.2.2.2⟩:bb),0,0))
def Og(src:ae7):Option (bb×Int×Int):=(Hs n src (⟨[],[],[]⟩:bb)).bind λah=>cond (decide (ah.2.1=0)) ( (wP n (⟨ah.2.2.1,ah.2.2.2.1,ah.2.2.2.2⟩:bb)).bind λak=>Hu n ah ak) ( Hu n ah ah.2.1)
def Oh(n:Nat)(cv:List bb):Option ((List bb)×Bool):=some (cv,true)
def Oi(l:List ae7)(aq:Int→(List bb)→Option ((List bb)×Bool))(bz:Int)(bM:List bb):Option ((List bb)×Bool):=cond (decide (bz<((l.length:Nat):Int))) ( aI (a_ bz l.length)<|(Og n (ae' l bz)).bind λed=>Option.bind (cond (!(!decide (ed.2.2=0))) (p1 n ed.1) (some default)) λb6=>cond (cond (!decide (ed.2.2=0)) true (!(decide (b6=(ae' l bz))))) ( some (([]:List bb),false)) ( aI (room (bM.length+([ed.1]:List bb).length) 64)<|aq (ae9 (bz+1)) (bM++([ed.1]:List bb)))) ( Oh n bM)
def Hv(n:Nat)(l:List ae7):Nat→Int→(List bb)→Option ((List bb)×Bool)
 | 0=>λ_ _=>none
 |m+1=>Oi n l (Hv n l m)
def Oj(l:List ae7):Option ((List bb)×Bool):=Hv n l n 0 ([]:List bb)
def Ok(n:Nat)(at_:Int)(c':List Row):Option (aD×Int):=some ((⟨at_,at_,c'⟩:aD),0)
def Ol(at_:Int)(l:List bS)(aq:(List Row)→Int→Option (aD×Int))(bz:List Row)(bM:Int):Option (aD×Int):=cond (decide (bM<((l.length:Nat):Int))) ( aI (a_ bM l.length)<|aI (room (bz.length+([(⟨(ae' l bM).Key,[⟨at_,⟨((ae' l bM).cj).Kind,((ae' l bM).cj).N,((ae' l bM).cj).S⟩⟩]⟩:Row)]:List Row).length) 40)<|aq (bz++([(⟨(ae' l bM).Key,[⟨at_,⟨((ae' l bM).cj).Kind,((ae' l bM).cj).N,((ae' l bM).cj).S⟩⟩]⟩:Row)]:List Row)) (ae9 (bM+1))) ( Ok n at_ bz)
def Hw(n:Nat)(at_:Int)(l:List bS):Nat→(List Row)→Int→Option (aD×Int)
 | 0=>λ_ _=>none
 |m+1=>Ol n at_ l (Hw n at_ l m)
def Om(l:List bS)(at_:Int):Option (aD×Int):=(Gg n l).bind λah=>cond (cond (cond (!ah) true (decide (at_<0))) true (decide (1099511627776<at_))) ( some ((⟨0,0,[]⟩:aD),1)) ( Hw n at_ l n ([]:List Row) 0)
def On(s:ae7):Option (b_×Int):=(NG n (⟨s,0,0⟩:ft)).bind λah=>cond (!decide (ah.2.2=0)) ( some ((⟨0,⟨0,0,[]⟩,[],[],⟨0,[]⟩,[],[],0⟩:b_),ah.2.2)) ( cond (cond (cond (!decide (ah.2.1=((s.length:Nat):Int))) true (decide (ah.1.fc.Pos<0))) true (decide (1099511627776<ah.1.fc.Pos))) ( some ((⟨0,⟨0,0,[]⟩,[],[],⟨0,[]⟩,[],[],0⟩:b_),5)) ( (Oj n ah.1.sources).bind λbn=>cond (!bn.2) ( some ((⟨0,⟨0,0,[]⟩,[],[],⟨0,[]⟩,[],[],0⟩:b_),5)) ( (Om n ah.1.EP ah.1.fc.Pos).bind λbQ=>cond (!decide (bQ.2=0)) ( some ((⟨0,⟨0,0,[]⟩,[],[],⟨0,[]⟩,[],[],0⟩:b_),5)) ( (rV n (⟨ah.1.fc.Pos,bQ.1,bn.1,ah.1.fc.cU,ah.1.fc.Place,ah.1.fc.be,ah.1.fc.Queue,ah.1.fc.dh⟩:b_)).bind λdU=>cond (!dU) ( some ((⟨0,⟨0,0,[]⟩,[],[],⟨0,[]⟩,[],[],0⟩:b_),5)) ( some ((⟨ah.1.fc.Pos,bQ.1,bn.1,ah.1.fc.cU,ah.1.fc.Place,ah.1.fc.be,ah.1.fc.Queue,ah.1.fc.dh⟩:b_),0))))))
def Oo(s:ae7):Option (b_×Int):=cond (decide (16384<((s.length:Nat):Int))) ( some ((⟨0,⟨0,0,[]⟩,[],[],⟨0,[]⟩,[],[],0⟩:b_),2)) ( (On n s).bind λak=>some (ak.1,ak.2))
def uj(a:b_)(b:b_):ae_:=(rV n a).bind λah=>Option.bind (cond ah (rV n b) (some default)) λak=>Option.bind (cond (cond ah ak false) (rS n a) (some default)) λaE=>Option.bind (cond (cond ah ak false) (rS n b) (some default)) λbn=>some (cond (cond ah ak false) (decide (aE=bn)) false)
def Oq(n:Nat)(lx:Expr→Expr→ae_):ae_:=some true
def Ot(lx:Expr→Expr→ae_)(a:Expr)(b:Expr)(aq:Int→ae_)(v6:Int):ae_:=cond (decide (v6<((a.aw.length:Nat):Int))) ( aI (a_ v6 a.aw.length)<|aI (a_ v6 b.aw.length)<|(lx (ae' a.aw v6) (ae' b.aw v6)).bind λcO=>cond (!cO) ( some false) ( aq (ae9 (v6+1)))) ( Oq n lx)
def Hx(n:Nat)(lx:Expr→Expr→ae_)(a:Expr)(b:Expr):Nat→Int→ae_
 | 0=>λ_=>none
 |m+1=>Ot n lx a b (Hx n lx a b m)
def Ou(lx:Expr→Expr→ae_)(a:Expr)(b:Expr):ae_:=cond (cond (cond (cond (!decide (a.Op=b.Op)) true (!decide (a.N=b.N))) true (!(decide (a.S=b.S)))) true (!decide (((a.aw.length:Nat):Int)=((b.aw.length:Nat):Int)))) ( some false) ( Hx n lx a b n 0)
def Bh:Nat→Expr→Expr→ae_
 | 0=>λ_ _=>none
 |m+1=>Ou m (Bh m)
def Ov(n:Nat)(kR:(List Stmt)→(List Stmt)→ae_):ae_:=some true
def Ow(kR:(List Stmt)→(List Stmt)→ae_)(a:List Stmt)(b:List Stmt)(aq:Int→ae_)(v9:Int):ae_:=cond (decide (v9<((a.length:Nat):Int))) ( aI (a_ v9 a.length)<|aI (a_ v9 b.length)<|Option.bind (cond (!(cond (cond (!decide ((ae' a v9).Op=(ae' b v9).Op)) true (!(decide (((ae' a v9).Name)=((ae' b v9).Name))))) true (!decide ((ae' a v9).Max=(ae' b v9).Max)))) (Bh n (⟨((ae' a v9).A).Op,((ae' a v9).A).N,((ae' a v9).A).S,((ae' a v9).A).aw⟩:Expr) (⟨((ae' b v9).A).Op,((ae' b v9).A).N,((ae' b v9).A).S,((ae' b v9).A).aw⟩:Expr)) (some default)) λfr=>Option.bind (cond (!(cond (cond (cond (!decide ((ae' a v9).Op=(ae' b v9).Op)) true (!(decide (((ae' a v9).Name)=((ae' b v9).Name))))) true (!decide ((ae' a v9).Max=(ae' b v9).Max))) true (!fr))) (Bh n (⟨((ae' a v9).B).Op,((ae' a v9).B).N,((ae' a v9).B).S,((ae' a v9).B).aw⟩:Expr) (⟨((ae' b v9).B).Op,((ae' b v9).B).N,((ae' b v9).B).S,((ae' b v9).B).aw⟩:Expr)) (some default)) λdk=>Option.bind (cond (!(cond (cond (cond (cond (!decide ((ae' a v9).Op=(ae' b v9).Op)) true (!(decide (((ae' a v9).Name)=((ae' b v9).Name))))) true (!decide ((ae' a v9).Max=(ae' b v9).Max))) true (!fr)) true (!dk))) (kR ((ae' a v9).Body) ((ae' b v9).Body)) (some default)) λeB=>Option.bind (cond (!(cond (cond (cond (cond (cond (!decide ((ae' a v9).Op=(ae' b v9).Op)) true (!(decide (((ae' a v9).Name)=((ae' b v9).Name))))) true (!decide ((ae' a v9).Max=(ae' b v9).Max))) true (!fr)) true (!dk)) true (!eB))) (kR ((ae' a v9).bR) ((ae' b v9).bR)) (some default)) λdl=>cond (cond (cond (cond (cond (cond (cond (!decide ((ae' a v9).Op=(ae' b v9).Op)) true (!(decide (((ae' a v9).Name)=((ae' b v9).Name))))) true (!decide ((ae' a v9).Max=(ae' b v9).Max))) true (!fr)) true (!dk)) true (!eB)) true (!dl)) ( some false) ( aq (ae9 (v9+1)))) ( Ov n kR)
def Hy(n:Nat)(kR:(List Stmt)→(List Stmt)→ae_)(a:List Stmt)(b:List Stmt):Nat→Int→ae_
 | 0=>λ_=>none
 |m+1=>Ow n kR a b (Hy n kR a b m)
def Ox(kR:(List Stmt)→(List Stmt)→ae_)(a:List Stmt)(b:List Stmt):ae_:=cond (!decide (((a.length:Nat):Int)=((b.length:Nat):Int))) ( some false) ( Hy n kR a b n 0)
def Hz:Nat→(List Stmt)→(List Stmt)→ae_
 | 0=>λ_ _=>none
 |m+1=>Ox m (Hz m)
def Oy(a:bb)(b:bb):ae_:=(Hz n a.Body b.Body).bind λcO=>some cO
def Oz(a:bb)(b:bb)(aq:Int→ae_)(v5:Int):ae_:=cond (decide (v5<((a.Params.length:Nat):Int))) ( aI (a_ v5 a.Params.length)<|aI (a_ v5 b.Params.length)<|cond (!((decide ((ae' a.Params v5).Name=(ae' b.Params v5).Name))&&((decide ((ae' a.Params v5).gc=(ae' b.Params v5).gc))&&true))) ( some false) ( aq (ae9 (v5+1)))) ( Oy n a b)
def HA(n:Nat)(a:bb)(b:bb):Nat→Int→ae_
 | 0=>λ_=>none
 |m+1=>Oz n a b (HA n a b m)
def OA(a:bb)(b:bb):ae_:=cond (cond (!(decide (a.Name=b.Name))) true (!decide (((a.Params.length:Nat):Int)=((b.Params.length:Nat):Int)))) ( some false) ( HA n a b n 0)
def OB(n:Nat):ae_:=some true
def OC(a:List bb)(b:List bb)(aq:Int→ae_)(v6:Int):ae_:=cond (decide (v6<((a.length:Nat):Int))) ( aI (a_ v6 a.length)<|aI (a_ v6 b.length)<|(OA n (ae' a v6) (ae' b v6)).bind λcO=>cond (!cO) ( some false) ( aq (ae9 (v6+1)))) ( OB n)
def HB(n:Nat)(a:List bb)(b:List bb):Nat→Int→ae_
 | 0=>λ_=>none
 |m+1=>OC n a b (HB n a b m)
def OD(a:List bb)(b:List bb):ae_:=cond (!decide (((a.length:Nat):Int)=((b.length:Nat):Int))) ( some false) ( HB n a b n 0)
def OE(n:Nat):ae_:=some true
def OF(n:Nat)(aq:Int→ae_)(v12:Int)(a:aD)(b:aD):ae_:=aq (ae9 (v12+1))
def OG(aq:Int→ae_)(v12:Int)(a:aD)(b:aD)(du:Int→ae_)(cT:Int):ae_:=cond (decide (cT<((((ae' a.Rows v12).bx).length:Nat):Int))) ( aI (a_ cT ((ae' a.Rows v12).bx).length)<|aI (a_ cT ((ae' b.Rows v12).bx).length)<|cond (!((decide ((((ae' a.Rows v12).bx).getD (cT).toNat default).fB=(((ae' b.Rows v12).bx).getD (cT).toNat default).fB))&&((decide (((((ae' a.Rows v12).bx).getD (cT).toNat default).cj).Kind=((((ae' b.Rows v12).bx).getD (cT).toNat default).cj).Kind))&&((decide (((((ae' a.Rows v12).bx).getD (cT).toNat default).cj).N=((((ae' b.Rows v12).bx).getD (cT).toNat default).cj).N))&&((decide (((((ae' a.Rows v12).bx).getD (cT).toNat default).cj).S=((((ae' b.Rows v12).bx).getD (cT).toNat default).cj).S))&&true))))) ( some false) ( du (ae9 (cT+1)))) ( OF n aq v12 a b)
def HC(n:Nat)(aq:Int→ae_)(v12:Int)(a:aD)(b:aD):Nat→Int→ae_
 | 0=>λ_=>none
 |m+1=>OG n aq v12 a b (HC n aq v12 a b m)
def OH(a:aD)(b:aD)(aq:Int→ae_)(v12:Int):ae_:=cond (decide (v12<((a.Rows.length:Nat):Int))) ( aI (a_ v12 a.Rows.length)<|aI (a_ v12 b.Rows.length)<|cond (cond (!(decide (((ae' a.Rows v12).Key)=((ae' b.Rows v12).Key)))) true (!decide (((((ae' a.Rows v12).bx).length:Nat):Int)=((((ae' b.Rows v12).bx).length:Nat):Int)))) ( some false) ( HC n aq v12 a b n 0)) ( OE n)
def HD(n:Nat)(a:aD)(b:aD):Nat→Int→ae_
 | 0=>λ_=>none
 |m+1=>OH n a b (HD n a b m)
def OI(a:aD)(b:aD):ae_:=cond (cond (cond (!decide (a.cy=b.cy)) true (!decide (a.ct=b.ct))) true (!decide (((a.Rows.length:Nat):Int)=((b.Rows.length:Nat):Int)))) ( some false) ( HD n a b n 0)
def OJ(n:Nat):ae_:=some true
def OK(a:ck)(b:ck)(aq:Int→ae_)(v5:Int):ae_:=cond (decide (v5<((a.aX.length:Nat):Int))) ( aI (a_ v5 a.aX.length)<|aI (a_ v5 b.aX.length)<|cond (!((decide ((ae' a.aX v5).Id=(ae' b.aX v5).Id))&&((decide ((ae' a.aX v5).fp=(ae' b.aX v5).fp))&&((decide ((ae' a.aX v5).Node=(ae' b.aX v5).Node))&&((decide ((ae' a.aX v5).hh=(ae' b.aX v5).hh))&&((decide ((ae' a.aX v5).hH=(ae' b.aX v5).hH))&&true)))))) ( some false) ( aq (ae9 (v5+1)))) ( OJ n)
def HE(n:Nat)(a:ck)(b:ck):Nat→Int→ae_
 | 0=>λ_=>none
 |m+1=>OK n a b (HE n a b m)
def OL(a:ck)(b:ck):ae_:=cond (cond (!decide (a.Version=b.Version)) true (!decide (((a.aX.length:Nat):Int)=((b.aX.length:Nat):Int)))) ( some false) ( HE n a b n 0)
def OM(n:Nat):ae_:=some true
def ON(a:List be)(b:List be)(aq:Int→ae_)(v5:Int):ae_:=cond (decide (v5<((a.length:Nat):Int))) ( aI (a_ v5 a.length)<|aI (a_ v5 b.length)<|cond (!((decide ((ae' a v5).Key=(ae' b v5).Key))&&((decide ((ae' a v5).Count=(ae' b v5).Count))&&true))) ( some false) ( aq (ae9 (v5+1)))) ( OM n)
def HF(n:Nat)(a:List be)(b:List be):Nat→Int→ae_
 | 0=>λ_=>none
 |m+1=>ON n a b (HF n a b m)
def OO(a:List be)(b:List be):ae_:=cond (!decide (((a.length:Nat):Int)=((b.length:Nat):Int))) ( some false) ( HF n a b n 0)
def OP(n:Nat):ae_:=some true
def OQ(a:List ae7)(b:List ae7)(aq:Int→ae_)(v5:Int):ae_:=cond (decide (v5<((a.length:Nat):Int))) ( aI (a_ v5 a.length)<|aI (a_ v5 b.length)<|cond (!(decide ((ae' a v5)=(ae' b v5)))) ( some false) ( aq (ae9 (v5+1)))) ( OP n)
def HG(n:Nat)(a:List ae7)(b:List ae7):Nat→Int→ae_
 | 0=>λ_=>none
 |m+1=>OQ n a b (HG n a b m)
def HH(a:List ae7)(b:List ae7):ae_:=cond (!decide (((a.length:Nat):Int)=((b.length:Nat):Int))) ( some false) ( HG n a b n 0)
def OR(a:eK)(b:eK):ae_:=Option.bind (cond (a.ee == b.ee) (HH n a.Reads b.Reads) (some default)) λah=>Option.bind (cond (cond (a.ee == b.ee) ah false) (HH n a.cz b.cz) (some default)) λak=>some (cond (cond (a.ee == b.ee) ah false) ak false)
def OS(n:Nat):ae_:=some true
def OT(a:Request)(b:Request)(aq:Int→ae_)(v6:Int):ae_:=cond (decide (v6<((a.aw.length:Nat):Int))) ( aI (a_ v6 a.aw.length)<|aI (a_ v6 b.aw.length)<|cond (!((decide ((ae' a.aw v6).Kind=(ae' b.aw v6).Kind))&&((decide ((ae' a.aw v6).N=(ae' b.aw v6).N))&&((decide ((ae' a.aw v6).S=(ae' b.aw v6).S))&&true)))) ( some false) ( aq (ae9 (v6+1)))) ( OS n)
def HI(n:Nat)(a:Request)(b:Request):Nat→Int→ae_
 | 0=>λ_=>none
 |m+1=>OT n a b (HI n a b m)
def OU(a:Request)(b:Request):ae_:=Option.bind (cond (!(cond (cond (cond (cond (!decide (a.Client=b.Client)) true (!decide (a.Seq=b.Seq))) true (!(decide (a.bb=b.bb)))) true (!(a.eA == b.eA))) true (!decide (((a.aw.length:Nat):Int)=((b.aw.length:Nat):Int))))) (OR n a.br b.br) (some default)) λah=>cond (cond (cond (cond (cond (cond (!decide (a.Client=b.Client)) true (!decide (a.Seq=b.Seq))) true (!(decide (a.bb=b.bb)))) true (!(a.eA == b.eA))) true (!decide (((a.aw.length:Nat):Int)=((b.aw.length:Nat):Int)))) true (!ah)) ( some false) ( HI n a b n 0)
def OV(n:Nat):ae_:=some true
def OW(a:Outcome)(b:Outcome)(aq:Int→ae_)(v5:Int):ae_:=cond (decide (v5<((a.Out.length:Nat):Int))) ( aI (a_ v5 a.Out.length)<|aI (a_ v5 b.Out.length)<|cond (!((decide ((ae' a.Out v5).Kind=(ae' b.Out v5).Kind))&&((decide ((ae' a.Out v5).N=(ae' b.Out v5).N))&&((decide ((ae' a.Out v5).S=(ae' b.Out v5).S))&&true)))) ( some false) ( aq (ae9 (v5+1)))) ( OV n)
def HJ(n:Nat)(a:Outcome)(b:Outcome):Nat→Int→ae_
 | 0=>λ_=>none
 |m+1=>OW n a b (HJ n a b m)
def OX(a:Outcome)(b:Outcome):ae_:=cond (cond (cond (!decide (a.Status=b.Status)) true (!decide (a.Code=b.Code))) true (!decide (((a.Out.length:Nat):Int)=((b.Out.length:Nat):Int)))) ( some false) ( HJ n a b n 0)
def OY(a:ea)(b:ea):ae_:=Option.bind (cond (cond (decide (a.Client=b.Client)) (decide (a.Seq=b.Seq)) false) (OX n a.Outcome b.Outcome) (some default)) λah=>some (cond (cond (decide (a.Client=b.Client)) (decide (a.Seq=b.Seq)) false) ah false)
def OZ(n:Nat):ae_:=some true
def O0(a:List ea)(b:List ea)(aq:Int→ae_)(v6:Int):ae_:=cond (decide (v6<((a.length:Nat):Int))) ( aI (a_ v6 a.length)<|aI (a_ v6 b.length)<|(OY n (ae' a v6) (ae' b v6)).bind λcO=>cond (!cO) ( some false) ( aq (ae9 (v6+1)))) ( OZ n)
def HK(n:Nat)(a:List ea)(b:List ea):Nat→Int→ae_
 | 0=>λ_=>none
 |m+1=>O0 n a b (HK n a b m)
def O1(a:List ea)(b:List ea):ae_:=cond (!decide (((a.length:Nat):Int)=((b.length:Nat):Int))) ( some false) ( HK n a b n 0)
def O2(n:Nat):ae_:=some true
def O3(a:List bC)(b:List bC)(aq:Int→ae_)(v10:Int):ae_:=cond (decide (v10<((a.length:Nat):Int))) ( aI (a_ v10 a.length)<|aI (a_ v10 b.length)<|aI ((!decide ((ae' a v10).Client=(ae' b v10).Client))||a_ v10 a.length)<|aI ((!decide ((ae' a v10).Client=(ae' b v10).Client))||a_ v10 b.length)<|aI ((cond (!decide ((ae' a v10).Client=(ae' b v10).Client)) true (!decide ((ae' a v10).Next=(ae' b v10).Next)))||a_ v10 a.length)<|aI ((cond (!decide ((ae' a v10).Client=(ae' b v10).Client)) true (!decide ((ae' a v10).Next=(ae' b v10).Next)))||a_ v10 b.length)<|Option.bind (cond (!(cond (!decide ((ae' a v10).Client=(ae' b v10).Client)) true (!decide ((ae' a v10).Next=(ae' b v10).Next)))) (O1 n ((ae' a v10).bV) ((ae' b v10).bV)) (some default)) λeF=>cond (cond (cond (!decide ((ae' a v10).Client=(ae' b v10).Client)) true (!decide ((ae' a v10).Next=(ae' b v10).Next))) true (!eF)) ( some false) ( aq (ae9 (v10+1)))) ( O2 n)
def HL(n:Nat)(a:List bC)(b:List bC):Nat→Int→ae_
 | 0=>λ_=>none
 |m+1=>O3 n a b (HL n a b m)
def O4(a:List bC)(b:List bC):ae_:=cond (!decide (((a.length:Nat):Int)=((b.length:Nat):Int))) ( some false) ( HL n a b n 0)
def O5(n:Nat):ae_:=some true
def O6(a:b_)(b:b_)(aq:Int→ae_)(v11:Int):ae_:=cond (decide (v11<((a.Queue.length:Nat):Int))) ( aI (a_ v11 a.Queue.length)<|aI (a_ v11 b.Queue.length)<|(OU n (ae' a.Queue v11) (ae' b.Queue v11)).bind λeB=>cond (!eB) ( some false) ( aq (ae9 (v11+1)))) ( O5 n)
def HM(n:Nat)(a:b_)(b:b_):Nat→Int→ae_
 | 0=>λ_=>none
 |m+1=>O6 n a b (HM n a b m)
def O7(a:b_)(b:b_):ae_:=Option.bind (cond (!(cond (!decide (a.Pos=b.Pos)) true (!decide (a.dh=b.dh)))) (OI n a.aD b.aD) (some default)) λah=>Option.bind (cond (!(cond (cond (!decide (a.Pos=b.Pos)) true (!decide (a.dh=b.dh))) true (!ah))) (OD n a.cp b.cp) (some default)) λak=>Option.bind (cond (!(cond (cond (cond (!decide (a.Pos=b.Pos)) true (!decide (a.dh=b.dh))) true (!ah)) true (!ak))) (O4 n a.cU b.cU) (some default)) λaE=>Option.bind (cond (!(cond (cond (cond (cond (!decide (a.Pos=b.Pos)) true (!decide (a.dh=b.dh))) true (!ah)) true (!ak)) true (!aE))) (OL n a.Place b.Place) (some default)) λbn=>Option.bind (cond (!(cond (cond (cond (cond (cond (!decide (a.Pos=b.Pos)) true (!decide (a.dh=b.dh))) true (!ah)) true (!ak)) true (!aE)) true (!bn))) (OO n a.be b.be) (some default)) λcF=>cond (cond (cond (cond (cond (cond (cond (cond (!decide (a.Pos=b.Pos)) true (!decide (a.dh=b.dh))) true (!ah)) true (!ak)) true (!aE)) true (!bn)) true (!cF)) true (!decide (((a.Queue.length:Nat):Int)=((b.Queue.length:Nat):Int)))) ( some false) ( HM n a b n 0)
def xt:ae_:=(uc n (⟨0,⟨0,0,[]⟩,[],[],⟨0,[⟨1,[],1,0,[]⟩]⟩,[],[],0⟩:b_)).bind λah=>(Oo n ah.1).bind λak=>Option.bind (cond (cond (decide (ah.1=([0,0,0,0,0,1,2,0,2,0,0,0,0,0]:ae7))) (decide (ah.2=0)) false) (O7 n ak.1 (⟨0,⟨0,0,[]⟩,[],[],⟨0,[⟨1,[],1,0,[]⟩]⟩,[],[],0⟩:b_)) (some default)) λaE=>Option.bind (cond (cond (cond (cond (decide (ah.1=([0,0,0,0,0,1,2,0,2,0,0,0,0,0]:ae7))) (decide (ah.2=0)) false) aE false) (decide (ak.2=0)) false) (uj n (⟨2,⟨2,2,[⟨[120],[⟨2,⟨1,1,[]⟩⟩]⟩]⟩,[],[],⟨0,[⟨1,[],1,0,[]⟩]⟩,[],[],0⟩:b_) (⟨2,⟨1,2,[⟨[119],[⟨1,⟨1,1,[]⟩⟩,⟨2,⟨0,0,[]⟩⟩]⟩,⟨[120],[⟨1,⟨1,1,[]⟩⟩]⟩]⟩,[],[],⟨0,[⟨1,[],1,0,[]⟩]⟩,[],[],0⟩:b_)) (some default)) λbn=>Option.bind (cond (cond (cond (cond (cond (decide (ah.1=([0,0,0,0,0,1,2,0,2,0,0,0,0,0]:ae7))) (decide (ah.2=0)) false) aE false) (decide (ak.2=0)) false) bn false) (uj n (⟨2,⟨2,2,[⟨[120],[⟨2,⟨1,1,[]⟩⟩]⟩]⟩,[],[],⟨0,[⟨1,[],1,0,[]⟩]⟩,[],[],0⟩:b_) (⟨0,⟨0,0,[]⟩,[],[],⟨0,[⟨1,[],1,0,[]⟩]⟩,[],[],0⟩:b_)) (some default)) λcF=>some (cond (cond (cond (cond (cond (decide (ah.1=([0,0,0,0,0,1,2,0,2,0,0,0,0,0]:ae7))) (decide (ah.2=0)) false) aE false) (decide (ak.2=0)) false) bn false) (!cF) false)
def O8(n:Nat):Option (List ae7):=some ([([112,114,111,99]:ae7),([108,101,116]:ae7),([112,117,116]:ae7),([100,101,108,101,116,101]:ae7),([105,102]:ae7),([101,108,115,101]:ae7),([102,111,114]:ae7),([116,111]:ae7),([109,97,120]:ae7),([101,109,105,116]:ae7),([97,98,111,114,116]:ae7),([110,111,116]:ae7),([97,110,100]:ae7),([111,114]:ae7),([105,110,116]:ae7),([115,116,114]:ae7),([98,111,111,108]:ae7),([116,101,120,116]:ae7),([108,101,110]:ae7),([103,101,116,105,110,116]:ae7),([103,101,116,115,116,114]:ae7),([104,97,115]:ae7),([110,111,119]:ae7),([114,97,110,100,111,109]:ae7),([110,111,100,101]:ae7)]:List ae7)
def O9(n:Nat):ae_:=some false
def O'(l:List ae7)(s:ae7)(aq:Int→ae_)(v3:Int):ae_:=cond (decide (v3<((l.length:Nat):Int))) ( aI (a_ v3 l.length)<|cond (decide ((ae' l v3)=s)) ( some true) ( aq (ae9 (v3+1)))) ( O9 n)
def Bi(n:Nat)(l:List ae7)(s:ae7):Nat→Int→ae_
 | 0=>λ_=>none
 |m+1=>O' n l s (Bi n l s m)
def O_(l:List ae7)(s:ae7):ae_:=Bi n l s n 0
def HN(s:ae7):ae_:=(O8 n).bind λah=>(O_ n ah s).bind λak=>some ak
def Bj(n:Nat)(c:Int):ae_:=some (cond (decide (97≤c)) (decide (c≤122)) false)
def Pa(n:Nat)(c:Int):ae_:=some (cond (decide (48≤c)) (decide (c≤57)) false)
def HO(c:Int):ae_:=(Bj n c).bind λah=>Option.bind (cond (!ah) (Pa n c) (some default)) λak=>some (cond (cond ah true ak) true (decide (c=95)))
def Pb(n:Nat)(bM:Int):afa:=some bM
def Pc(s:ae7)(aq:Int→afa)(v4:Int):afa:=aI (!(decide (v4<((s.length:Nat):Int)))||a_ v4 s.length)<|Option.bind (cond (decide (v4<((s.length:Nat):Int))) (HO n (((s.getD (v4).toNat 0).toNat:Nat):Int)) (some default)) λbQ=>cond (cond (decide (v4<((s.length:Nat):Int))) bQ false) ( aq (ae9 (v4+1))) ( Pb n v4)
def Bk(n:Nat)(s:ae7):Nat→Int→afa
 | 0=>λ_=>none
 |m+1=>Pc n s (Bk n s m)
def Pd(s:ae7)(at_:Int):afa:=Bk n s n at_
def HP(s:ae7):ae_:=aI (!(cond (decide (1≤((s.length:Nat):Int))) (decide (((s.length:Nat):Int)≤16)) false)||a_ 0 s.length)<|Option.bind (cond (cond (decide (1≤((s.length:Nat):Int))) (decide (((s.length:Nat):Int)≤16)) false) (Bj n (((s.getD 0 0).toNat:Nat):Int)) (some default)) λak=>Option.bind (cond (cond (cond (decide (1≤((s.length:Nat):Int))) (decide (((s.length:Nat):Int)≤16)) false) ak false) (Pd n s 0) (some default)) λaE=>Option.bind (cond (cond (cond (cond (decide (1≤((s.length:Nat):Int))) (decide (((s.length:Nat):Int)≤16)) false) ak false) (decide (aE=((s.length:Nat):Int))) false) (HN n s) (some default)) λbn=>some (cond (cond (cond (cond (decide (1≤((s.length:Nat):Int))) (decide (((s.length:Nat):Int)≤16)) false) ak false) (decide (aE=((s.length:Nat):Int))) false) (!bn) false)
def Pe(n:Nat)(op:Int):afa:=cond (cond (decide (4≤op)) (decide (op≤19)) false) ( some 2) ( some (-1))
def p7(op:Int)(v2:Bool):afa:=cond v2 ( some 1) ( Pe n op)
def r7(op:Int)(v1:Bool):afa:=cond v1 ( some 0) ( cond (decide (op=9)) ( p7 n op (decide (op=9))) ( cond (decide (op=18)) ( p7 n op (decide (op=18))) ( cond (decide (op=20)) ( p7 n op (decide (op=20))) ( cond (decide (op=21)) ( p7 n op (decide (op=21))) ( cond (decide (op=22)) ( p7 n op (decide (op=22))) ( cond (decide (op=23)) ( p7 n op (decide (op=23))) ( p7 n op (decide (op=24)))))))))
def Bl(op:Int):afa:=cond (decide (op=1)) ( r7 n op (decide (op=1))) ( cond (decide (op=2)) ( r7 n op (decide (op=2))) ( cond (decide (op=3)) ( r7 n op (decide (op=3))) ( cond (decide (op=25)) ( r7 n op (decide (op=25))) ( cond (decide (op=26)) ( r7 n op (decide (op=26))) ( r7 n op (decide (op=27)))))))
def Pf(n:Nat):ae_:=some true
def Pg(s:ae7)(aq:Int→ae_)(v5:Int):ae_:=cond (decide (v5<((s.length:Nat):Int))) ( aI (a_ v5 s.length)<|aI ((decide ((((s.getD (v5).toNat 0).toNat:Nat):Int)<32))||a_ v5 s.length)<|cond (cond (decide ((((s.getD (v5).toNat 0).toNat:Nat):Int)<32)) true (decide (126<(((s.getD (v5).toNat 0).toNat:Nat):Int)))) ( some false) ( aq (ae9 (v5+1)))) ( Pf n)
def Bm(n:Nat)(s:ae7):Nat→Int→ae_
 | 0=>λ_=>none
 |m+1=>Pg n s (Bm n s m)
def HQ(s:ae7):ae_:=cond (decide (64<((s.length:Nat):Int))) ( some false) ( Bm n s n 0)
def HR(e:Expr)(depth:Int):afa:=(Bl n e.Op).bind λah=>cond (cond (cond (decide (ah<0)) true (cond (!decide (e.Op=1)) (!decide (e.N=0)) false)) true (cond (cond (!decide (e.Op=2)) (!decide (e.Op=3)) false) (!(decide (e.S=([]:ae7)))) false)) ( some 1) ( Option.bind (cond (decide (e.Op=3)) (HP n e.S) (some default)) λaE=>cond (cond (decide (e.Op=3)) (!aE) false) ( some 7) ( Option.bind (cond ((!(decide (e.N<0)))&&(decide (e.Op=2))) (HQ n e.S) (some default)) λcF=>Option.bind (cond (!(cond (decide (e.N<0)) true (cond (decide (e.Op=2)) (!cF) false))) (Bl n e.Op) (some default)) λbQ=>cond (cond (cond (decide (e.N<0)) true (cond (decide (e.Op=2)) (!cF) false)) true (!decide (((e.aw.length:Nat):Int)=bQ))) ( some 1) ( cond (decide (12<depth)) ( some 2) ( some 0))))
def Ph(n:Nat)(p8:Expr→Int→afa):afa:=some 0
def Pi(p8:Expr→Int→afa)(depth:Int)(e:Expr)(aq:Int→afa)(v6:Int):afa:=cond (decide (v6<((e.aw.length:Nat):Int))) ( aI (a_ v6 e.aw.length)<|(p8 (ae' e.aw v6) (ae9 (depth+1))).bind λdU=>cond (!decide (dU=0)) ( some dU) ( aq (ae9 (v6+1)))) ( Ph n p8)
def Bn(n:Nat)(p8:Expr→Int→afa)(depth:Int)(e:Expr):Nat→Int→afa
 | 0=>λ_=>none
 |m+1=>Pi n p8 depth e (Bn n p8 depth e m)
def Pj(p8:Expr→Int→afa)(e:Expr)(depth:Int):afa:=(HR n e depth).bind λah=>cond (!decide (ah=0)) ( some ah) ( Bn n p8 depth e n 0)
def Bo:Nat→Expr→Int→afa
 | 0=>λ_ _=>none
 |m+1=>Pj m (Bo m)
def Bp(n:Nat)(ly:Expr→Int→afa)(v11:Int):afa:=some v11
def Bq(ly:Expr→Int→afa)(cg:Int)(e:Expr)(aq:Int→Int→afa)(v5:Int)(v6:Int):afa:=cond (cond (decide (v6<((e.aw.length:Nat):Int))) (decide (v5≤cg)) false) ( aI (a_ v6 e.aw.length)<|(ly (ae' e.aw v6) (ae9 (cg-v5))).bind λdU=>aq (ae9 (v5+dU)) (ae9 (v6+1))) ( Bp n ly v5)
def uk(n:Nat)(ly:Expr→Int→afa)(cg:Int)(e:Expr):Nat→Int→Int→afa
 | 0=>λ_ _=>none
 |m+1=>Bq n ly cg e (uk n ly cg e m)
def Br(ly:Expr→Int→afa)(e:Expr)(cg:Int):afa:=uk n ly cg e n (ae9 (1+(ae9 (Int.tdiv ((e.S.length:Nat):Int) 64)))) 0
def n8:Nat→Expr→Int→afa
 | 0=>λ_ _=>none
 |m+1=>Br m (n8 m)
def HS(n:Nat)(kS:(List Stmt)→Int→afa)(gK:Int):afa:=some gK
def HT(kS:(List Stmt)→Int→afa)(l:List Stmt)(cg:Int)(aq:Int→Int→afa)(v12:Int)(c':Int):afa:=cond (cond (decide (c'<((l.length:Nat):Int))) (decide (v12≤cg)) false) ( aI (a_ c' l.length)<|aI (a_ c' l.length)<|(n8 n ((ae' l c').A) (ae9 (cg-(ae9 ((ae9 (v12+1))+(ae9 (Int.tdiv ((((ae' l c').Name).length:Nat):Int) 64))))))).bind λep=>aI (a_ c' l.length)<|(n8 n ((ae' l c').B) (ae9 (cg-(ae9 ((ae9 ((ae9 (v12+1))+(ae9 (Int.tdiv ((((ae' l c').Name).length:Nat):Int) 64))))+ep))))).bind λfq=>aI (a_ c' l.length)<|(kS ((ae' l c').Body) (ae9 (cg-(ae9 ((ae9 ((ae9 ((ae9 (v12+1))+(ae9 (Int.tdiv ((((ae' l c').Name).length:Nat):Int) 64))))+ep))+fq))))).bind λeo=>aI (a_ c' l.length)<|(kS ((ae' l c').bR) (ae9 (cg-(ae9 ((ae9 ((ae9 ((ae9 ((ae9 (v12+1))+(ae9 (Int.tdiv ((((ae' l c').Name).length:Nat):Int) 64))))+ep))+fq))+eo))))).bind λdW=>aq (ae9 ((ae9 ((ae9 ((ae9 ((ae9 ((ae9 (v12+1))+(ae9 (Int.tdiv ((((ae' l c').Name).length:Nat):Int) 64))))+ep))+fq))+eo))+dW)) (ae9 (c'+1))) ( HS n kS v12)
def xu(n:Nat)(kS:(List Stmt)→Int→afa)(l:List Stmt)(cg:Int):Nat→Int→Int→afa
 | 0=>λ_ _=>none
 |m+1=>HT n kS l cg (xu n kS l cg m)
def HU(kS:(List Stmt)→Int→afa)(l:List Stmt)(cg:Int):afa:=xu n kS l cg n 0 0
def ul:Nat→(List Stmt)→Int→afa
 | 0=>λ_ _=>none
 |m+1=>HU m (ul m)
def HV(cg:Int)(p:bb):ae_:=(ul n p.Body cg).bind λcE=>some (decide (cE≤cg))
def HW(cg:Int)(p:bb)(aq:Int→ae_)(v4:Int):ae_:=cond (decide (v4<((p.Params.length:Nat):Int))) ( aI (a_ v4 p.Params.length)<|cond (decide (200<((((ae' p.Params v4).Name).length:Nat):Int))) ( some false) ( aq (ae9 (v4+1)))) ( HV n cg p)
def xv(n:Nat)(cg:Int)(p:bb):Nat→Int→ae_
 | 0=>λ_=>none
 |m+1=>HW n cg p (xv n cg p m)
def xw(p:bb)(cg:Int):ae_:=cond (cond (decide (40<((p.Params.length:Nat):Int))) true (decide (200<((p.Name.length:Nat):Int)))) ( some false) ( xv n cg p n 0)
def HX(n:Nat):ae_:=some true
def HY(n:Nat)(aq:Int→ae_)(co:Int)(s:aD):ae_:=aq (ae9 (co+1))
def Bs(aq:Int→ae_)(co:Int)(s:aD)(du:Int→ae_)(v21:Int):ae_:=aI (a_ co s.Rows.length)<|cond (decide (v21<((((ae' s.Rows co).bx).length:Nat):Int))) ( aI (a_ co s.Rows.length)<|aI (a_ v21 ((ae' s.Rows co).bx).length)<|cond (decide (200<(((((((ae' s.Rows co).bx).getD (v21).toNat default).cj).S).length:Nat):Int))) ( some false) ( du (ae9 (v21+1)))) ( HY n aq co s)
def um(n:Nat)(aq:Int→ae_)(co:Int)(s:aD):Nat→Int→ae_
 | 0=>λ_=>none
 |m+1=>Bs n aq co s (um n aq co s m)
def Bt(s:aD)(aq:Int→ae_)(co:Int):ae_:=cond (decide (co<((s.Rows.length:Nat):Int))) ( aI (a_ co s.Rows.length)<|aI ((decide (12<((((ae' s.Rows co).bx).length:Nat):Int)))||a_ co s.Rows.length)<|cond (cond (decide (12<((((ae' s.Rows co).bx).length:Nat):Int))) true (decide (200<((((ae' s.Rows co).Key).length:Nat):Int)))) ( some false) ( um n aq co s n 0)) ( HX n)
def p9(n:Nat)(s:aD):Nat→Int→ae_
 | 0=>λ_=>none
 |m+1=>Bt n s (p9 n s m)
def Bu(s:aD)(rows:Int):ae_:=cond (decide (rows<((s.Rows.length:Nat):Int))) ( some false) ( p9 n s n 0)
def HZ(n:Nat):ae_:=some true
def Bv(f:eK)(dX:Int→ae_)(v9:Int):ae_:=cond (decide (v9<((f.cz.length:Nat):Int))) ( aI (a_ v9 f.cz.length)<|cond (decide (100<(((ae' f.cz v9).length:Nat):Int))) ( some false) ( dX (ae9 (v9+1)))) ( HZ n)
def r8(n:Nat)(f:eK):Nat→Int→ae_
 | 0=>λ_=>none
 |m+1=>Bv n f (r8 n f m)
def H0(f:eK):ae_:=r8 n f n 0
def Bw(f:eK)(du:Int→ae_)(v4:Int):ae_:=cond (decide (v4<((f.Reads.length:Nat):Int))) ( aI (a_ v4 f.Reads.length)<|cond (decide (100<(((ae' f.Reads v4).length:Nat):Int))) ( some false) ( du (ae9 (v4+1)))) ( H0 n f)
def un(n:Nat)(f:eK):Nat→Int→ae_
 | 0=>λ_=>none
 |m+1=>Bw n f (un n f m)
def r9(f:eK)(cg:Int):ae_:=cond (cond (decide (cg<((f.Reads.length:Nat):Int))) true (decide (cg<((f.cz.length:Nat):Int)))) ( some false) ( un n f n 0)
def H2(n:Nat):ae_:=some true
def Bx(aj:Request)(aq:Int→ae_)(v5:Int):ae_:=cond (decide (v5<((aj.aw.length:Nat):Int))) ( aI (a_ v5 aj.aw.length)<|cond (decide (300<((((ae' aj.aw v5).S).length:Nat):Int))) ( some false) ( aq (ae9 (v5+1)))) ( H2 n)
def uo(n:Nat)(aj:Request):Nat→Int→ae_
 | 0=>λ_=>none
 |m+1=>Bx n aj (uo n aj m)
def xx(aj:Request):ae_:=Option.bind (cond (!(cond (decide (300<((aj.bb.length:Nat):Int))) true (decide (40<((aj.aw.length:Nat):Int))))) (r9 n aj.br 100) (some default)) λah=>cond (cond (cond (decide (300<((aj.bb.length:Nat):Int))) true (decide (40<((aj.aw.length:Nat):Int)))) true (!ah)) ( some false) ( uo n aj n 0)
def By(n:Nat)(f8:List be)(p:ck):ae_:=some (cond (decide (((p.aX.length:Nat):Int)≤20)) (decide (((f8.length:Nat):Int)≤40)) false)
def Bz(f8:List be)(p:ck)(dX:Int→ae_)(v10:Int):ae_:=cond (cond (decide (v10<((f8.length:Nat):Int))) (decide (v10<41)) false) ( aI (a_ v10 f8.length)<|cond (decide (200<((((ae' f8 v10).Key).length:Nat):Int))) ( some false) ( dX (ae9 (v10+1)))) ( By n f8 p)
def r'(n:Nat)(f8:List be)(p:ck):Nat→Int→ae_
 | 0=>λ_=>none
 |m+1=>Bz n f8 p (r' n f8 p m)
def H3(f8:List be)(p:ck):ae_:=r' n f8 p n 0
def BA(f8:List be)(p:ck)(du:Int→ae_)(v4:Int):ae_:=cond (cond (decide (v4<((p.aX.length:Nat):Int))) (decide (v4<21)) false) ( aI (a_ v4 p.aX.length)<|aI ((decide (200<((((ae' p.aX v4).fp).length:Nat):Int)))||a_ v4 p.aX.length)<|cond (cond (decide (200<((((ae' p.aX v4).fp).length:Nat):Int))) true (decide (200<((((ae' p.aX v4).hH).length:Nat):Int)))) ( some false) ( du (ae9 (v4+1)))) ( H3 n f8 p)
def uq(n:Nat)(f8:List be)(p:ck):Nat→Int→ae_
 | 0=>λ_=>none
 |m+1=>BA n f8 p (uq n f8 p m)
def xy(p:ck)(f8:List be):ae_:=uq n f8 p n 0
def BB(n:Nat)(l:List bC):ae_:=some (decide (((l.length:Nat):Int)≤6))
def H4(n:Nat)(aq:Int→ae_)(l:List bC)(cR:Int):ae_:=aq (ae9 (cR+1))
def H5(n:Nat)(du:Int→ae_)(aq:Int→ae_)(l:List bC)(cR:Int)(gw:Int):ae_:=du (ae9 (gw+1))
def BC(du:Int→ae_)(aq:Int→ae_)(l:List bC)(cR:Int)(gw:Int)(n6:Int→ae_)(hq:Int):ae_:=cond (decide (hq<(((((((ae' l cR).bV).getD (gw).toNat default).Outcome).Out).length:Nat):Int))) ( aI (a_ hq (((((ae' l cR).bV).getD (gw).toNat default).Outcome).Out).length)<|cond (decide (200<(((((((((ae' l cR).bV).getD (gw).toNat default).Outcome).Out).getD (hq).toNat default).S).length:Nat):Int))) ( some false) ( n6 (ae9 (hq+1)))) ( H5 n du aq l cR gw)
def ur(n:Nat)(du:Int→ae_)(aq:Int→ae_)(l:List bC)(cR:Int)(gw:Int):Nat→Int→ae_
 | 0=>λ_=>none
 |m+1=>BC n du aq l cR gw (ur n du aq l cR gw m)
def BD(aq:Int→ae_)(l:List bC)(cR:Int)(du:Int→ae_)(gw:Int):ae_:=aI (a_ cR l.length)<|cond (decide (gw<((((ae' l cR).bV).length:Nat):Int))) ( aI (a_ cR l.length)<|aI (a_ gw ((ae' l cR).bV).length)<|cond (decide (20<(((((((ae' l cR).bV).getD (gw).toNat default).Outcome).Out).length:Nat):Int))) ( some false) ( ur n du aq l cR gw n 0)) ( H4 n aq l cR)
def p'(n:Nat)(aq:Int→ae_)(l:List bC)(cR:Int):Nat→Int→ae_
 | 0=>λ_=>none
 |m+1=>BD n aq l cR (p' n aq l cR m)
def BE(l:List bC)(aq:Int→ae_)(cR:Int):ae_:=cond (cond (decide (cR<((l.length:Nat):Int))) (decide (cR<7)) false) ( aI (a_ cR l.length)<|cond (decide (12<((((ae' l cR).bV).length:Nat):Int))) ( some false) ( p' n aq l cR n 0)) ( BB n l)
def nl(n:Nat)(l:List bC):Nat→Int→ae_
 | 0=>λ_=>none
 |m+1=>BE n l (nl n l m)
def xz(l:List bC):ae_:=nl n l n 0
def H6(n:Nat):ae_:=some true
def BF(aj:b_)(dX:Int→ae_)(cv:Int):ae_:=cond (decide (cv<((aj.Queue.length:Nat):Int))) ( aI (a_ cv aj.Queue.length)<|(xx n (ae' aj.Queue cv)).bind λeF=>cond (!eF) ( some false) ( dX (ae9 (cv+1)))) ( H6 n)
def r_(n:Nat)(aj:b_):Nat→Int→ae_
 | 0=>λ_=>none
 |m+1=>BF n aj (r_ n aj m)
def H7(aj:b_):ae_:=r_ n aj n 0
def BG(aj:b_)(du:Int→ae_)(bM:Int):ae_:=cond (decide (bM<((aj.cp.length:Nat):Int))) ( aI (a_ bM aj.cp.length)<|(xw n (ae' aj.cp bM) 60).bind λed=>cond (!ed) ( some false) ( du (ae9 (bM+1)))) ( H7 n aj)
def ut(n:Nat)(aj:b_):Nat→Int→ae_
 | 0=>λ_=>none
 |m+1=>BG n aj (ut n aj m)
def uu(aj:b_):ae_:=(Bu n aj.aD 12).bind λah=>Option.bind (cond (!(cond (cond (!ah) true (decide (4<((aj.cp.length:Nat):Int)))) true (decide (6<((aj.Queue.length:Nat):Int))))) (xz n aj.cU) (some default)) λak=>Option.bind (cond (!(cond (cond (cond (!ah) true (decide (4<((aj.cp.length:Nat):Int)))) true (decide (6<((aj.Queue.length:Nat):Int)))) true (!ak))) (xy n aj.Place aj.be) (some default)) λaE=>cond (cond (cond (cond (cond (!ah) true (decide (4<((aj.cp.length:Nat):Int)))) true (decide (6<((aj.Queue.length:Nat):Int)))) true (!ak)) true (!aE)) ( some false) ( ut n aj n 0)
def H8(a:b_)(b:b_):ae_:=(uu n a).bind λah=>Option.bind (cond (!(!ah)) (uu n b) (some default)) λak=>cond (cond (!ah) true (!ak)) ( (xt n).bind λbn=>some bn) ( (uc n a).bind λcF=>(uc n b).bind λbQ=>cond (cond (!decide (cF.2=0)) true (!decide (bQ.2=0))) ( (xt n).bind λdU=>some dU) ( (uj n a b).bind λcO=>Option.bind (cond ((decide (cF.1=bQ.1)) == cO) (xt n) (some default)) λed=>some (cond ((decide (cF.1=bQ.1)) == cO) ed false)))
end Go.Ab.Y

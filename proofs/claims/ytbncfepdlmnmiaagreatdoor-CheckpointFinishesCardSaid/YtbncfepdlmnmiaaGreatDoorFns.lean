/- What each function computes, over plain data, with fuel. Printed by a program. -/
import Derived.Test.YtbncfepdlmnmiaaGreatDoorHand
set_option linter.all false
namespace Go.Ab.Y
open Go Go.Ab Go.Proofs
variable (n:Nat)
def KP(n:Nat)(c:Int):ap4:=some (cond (cond (cond (cond (cond (cond (decide (97≤c)) (decide (c≤122)) false) true (cond (decide (48≤c)) (decide (c≤57)) false)) true (decide (c=47))) true (decide (c=46))) true (decide (c=95))) true (decide (c=45)))
def KQ(n:Nat):ap4:=some true
def Ef(s:ap0)(al:Int→ap4)(v5:Int):ap4:=cond (decide (v5<((s.length:Nat):Int))) ( av (aP v5 s.length)<|(KP n (((s.getD (v5).toNat 0).toNat:Nat):Int)).bind λcA=>cond (!cA) ( some false) ( al (ap2 (v5+1)))) ( KQ n)
def wC(n:Nat)(s:ap0):Nat→Int→ap4
 | 0=>λ_=>none
 |m+1=>Ef n s (wC n s m)
def Eg(s:ap0):ap4:=cond (decide (24<((s.length:Nat):Int))) ( some false) ( wC n s n 0)
def ub(k:ap0):ap4:=Option.bind (cond (!(decide (k=([]:ap0)))) (Eg n k) (some default)) λah=>some (cond (!(decide (k=([]:ap0)))) ah false)
def KR(n:Nat)(l:List ap0):ap4:=some (decide (((l.length:Nat):Int)≤64))
def Eh(l:List ap0)(al:Int→ap4)(v5:Int):ap4:=cond (decide (v5<((l.length:Nat):Int))) ( av (aP v5 l.length)<|(ub n (ap3 l v5)).bind λcA=>av ((!cA)||(!(decide (0<v5))||aP (ap2 (v5-1)) l.length))<|cond (cond (!cA) true (cond (decide (0<v5)) ((Op.bytesLess (ap3 l v5) (ap3 l (ap2 (v5-1))))||(decide ((ap3 l v5)=(ap3 l (ap2 (v5-1)))))) false)) ( some false) ( al (ap2 (v5+1)))) ( KR n l)
def wD(n:Nat)(l:List ap0):Nat→Int→ap4
 | 0=>λ_=>none
 |m+1=>Eh n l (wD n l m)
def zL(l:List ap0):ap4:=wD n l n 0
def zM(f:e9):ap4:=cond f.dV ( some (cond (decide (((f.Reads.length:Nat):Int)=0)) (decide (((f.co.length:Nat):Int)=0)) false)) ( (zL n f.Reads).bind λao=>Option.bind (cond ao (zL n f.co) (some default)) λaB=>some (cond ao aB false))
def KS(n:Nat):ap4:=some false
def hW(v1:Bool):ap4:=cond v1 ( some true) ( KS n)
def zN(s:ap0):ap4:=cond (decide (s=([112,114,111,99]:ap0))) ( hW n (decide (s=([112,114,111,99]:ap0)))) ( cond (decide (s=([108,101,116]:ap0))) ( hW n (decide (s=([108,101,116]:ap0)))) ( cond (decide (s=([112,117,116]:ap0))) ( hW n (decide (s=([112,117,116]:ap0)))) ( cond (decide (s=([100,101,108,101,116,101]:ap0))) ( hW n (decide (s=([100,101,108,101,116,101]:ap0)))) ( cond (decide (s=([105,102]:ap0))) ( hW n (decide (s=([105,102]:ap0)))) ( cond (decide (s=([101,108,115,101]:ap0))) ( hW n (decide (s=([101,108,115,101]:ap0)))) ( cond (decide (s=([102,111,114]:ap0))) ( hW n (decide (s=([102,111,114]:ap0)))) ( cond (decide (s=([116,111]:ap0))) ( hW n (decide (s=([116,111]:ap0)))) ( cond (decide (s=([109,97,120]:ap0))) ( hW n (decide (s=([109,97,120]:ap0)))) ( cond (decide (s=([101,109,105,116]:ap0))) ( hW n (decide (s=([101,109,105,116]:ap0)))) ( cond (decide (s=([97,98,111,114,116]:ap0))) ( hW n (decide (s=([97,98,111,114,116]:ap0)))) ( cond (decide (s=([110,111,116]:ap0))) ( hW n (decide (s=([110,111,116]:ap0)))) ( cond (decide (s=([97,110,100]:ap0))) ( hW n (decide (s=([97,110,100]:ap0)))) ( cond (decide (s=([111,114]:ap0))) ( hW n (decide (s=([111,114]:ap0)))) ( cond (decide (s=([105,110,116]:ap0))) ( hW n (decide (s=([105,110,116]:ap0)))) ( cond (decide (s=([115,116,114]:ap0))) ( hW n (decide (s=([115,116,114]:ap0)))) ( cond (decide (s=([98,111,111,108]:ap0))) ( hW n (decide (s=([98,111,111,108]:ap0)))) ( cond (decide (s=([116,101,120,116]:ap0))) ( hW n (decide (s=([116,101,120,116]:ap0)))) ( cond (decide (s=([108,101,110]:ap0))) ( hW n (decide (s=([108,101,110]:ap0)))) ( cond (decide (s=([103,101,116,105,110,116]:ap0))) ( hW n (decide (s=([103,101,116,105,110,116]:ap0)))) ( cond (decide (s=([103,101,116,115,116,114]:ap0))) ( hW n (decide (s=([103,101,116,115,116,114]:ap0)))) ( cond (decide (s=([104,97,115]:ap0))) ( hW n (decide (s=([104,97,115]:ap0)))) ( cond (decide (s=([110,111,119]:ap0))) ( hW n (decide (s=([110,111,119]:ap0)))) ( cond (decide (s=([114,97,110,100,111,109]:ap0))) ( hW n (decide (s=([114,97,110,100,111,109]:ap0)))) ( hW n (decide (s=([110,111,100,101]:ap0)))))))))))))))))))))))))))
def zO(n:Nat)(c:Int):ap4:=some (cond (decide (97≤c)) (decide (c≤122)) false)
def q6(s:ap0):ap4:=av (!(cond (!(decide (s=([]:ap0)))) (decide (((s.length:Nat):Int)≤16)) false)||aP 0 s.length)<|Option.bind (cond (cond (!(decide (s=([]:ap0)))) (decide (((s.length:Nat):Int)≤16)) false) (zO n (IntKind.i32.wrap (((s.getD 0 0).toNat:Nat):Int))) (some default)) λao=>Option.bind (cond (cond (cond (!(decide (s=([]:ap0)))) (decide (((s.length:Nat):Int)≤16)) false) ao false) (wA n s) (some default)) λaB=>Option.bind (cond (cond (cond (cond (!(decide (s=([]:ap0)))) (decide (((s.length:Nat):Int)≤16)) false) ao false) (decide (aB=((s.length:Nat):Int))) false) (zN n s) (some default)) λaR=>some (cond (cond (cond (cond (!(decide (s=([]:ap0)))) (decide (((s.length:Nat):Int)≤16)) false) ao false) (decide (aB=((s.length:Nat):Int))) false) (!aR) false)
def U8(n:Nat)(s:ap0):ap4:=some (decide (((s.length:Nat):Int)≤64))
def KT(s:ap0)(al:Int→ap4)(v4:Int):ap4:=cond (decide (v4<((s.length:Nat):Int))) ( av (aP v4 s.length)<|av ((decide ((((s.getD (v4).toNat 0).toNat:Nat):Int)<32))||aP v4 s.length)<|cond (cond (decide ((((s.getD (v4).toNat 0).toNat:Nat):Int)<32)) true (decide (126<(((s.getD (v4).toNat 0).toNat:Nat):Int)))) ( some false) ( al (ap2 (v4+1)))) ( U8 n s)
def zP(n:Nat)(s:ap0):Nat→Int→ap4
 | 0=>λ_=>none
 |m+1=>KT n s (zP n s m)
def zQ(s:ap0):ap4:=zP n s n 0
def q7(v:bG):ap4:=cond (decide (v.Kind=0)) ( some ((decide (v.Kind=0))&&((decide (v.N=0))&&((decide (v.S=([]:ap0)))&&true)))) ( cond (decide (v.Kind=1)) ( some (decide (v.S=([]:ap0)))) ( cond (decide (v.Kind=2)) ( Option.bind (cond (decide (v.N=0)) (zQ n v.S) (some default)) λaR=>some (cond (decide (v.N=0)) aR false)) ( some false)))
def KU(v:bG):ap4:=Option.bind (cond (!(decide (v.Kind=0))) (q7 n v) (some default)) λah=>some (cond (decide (v.Kind=0)) true (!ah))
def KV(n:Nat):ap5:=some (-1)
def Ei(s:List bG)(al:Int→ap5)(v4:Int):ap5:=cond (decide (v4<((s.length:Nat):Int))) ( av (aP v4 s.length)<|(KU n (ap3 s v4)).bind λbh=>cond bh ( some v4) ( al (ap2 (v4+1)))) ( KV n)
def wE(n:Nat)(s:List bG):Nat→Int→ap5
 | 0=>λ_=>none
 |m+1=>Ei n s (wE n s m)
def KW(s:List bG):ap5:=wE n s n 0
def KX(s:List bG):ap4:=(KW n s).bind λah=>some (decide (0≤ah))
def o0(ab:Request):ap5:=cond (cond (cond (cond (decide (ab.Client<1)) true (decide (32<ab.Client))) true (decide (ab.Seq<1))) true (decide (1099511627776<ab.Seq))) ( some 1) ( (q6 n ab.bi).bind λao=>cond (!ao) ( some 7) ( cond (decide (6<((ab.aw.length:Nat):Int))) ( some 2) ( (KX n ab.aw).bind λb5=>cond b5 ( some 1) ( (zM n ab.bp).bind λcA=>cond (cond (cond (!cA) true ab.bp.dV) true (cond (!ab.dX) (decide (0<(ap2 (((ab.bp.Reads.length:Nat):Int)+((ab.bp.co.length:Nat):Int))))) false)) ( some 1) ( some 0)))))
def Ej(n:Nat)(b:List Int)(c:Int):Option (List Int):=av (room (b.length+([c]:List Int).length) 1)<|some (b++([c]:List Int))
def KY(v9:Int)(v10:List Int):Option ap0:=(Ej n v10 (IntKind.u8.wrap v9)).bind λb6=>av (lH b6)<|some (hL b6)
def KZ(al:Int→(List Int)→Option ap0)(v4:Int)(v5:List Int):Option ap0:=cond (decide (128≤v4)) ( (Ej n v5 (s3 .u8 (IntKind.u8.wrap v4) 128)).bind λbh=>al (oz .u64 v4 7) bh) ( KY n v4 v5)
def zR(n:Nat):Nat→Int→(List Int)→Option ap0
 | 0=>λ_ _=>none
 |m+1=>KZ n (zR n m)
def gZ(u:Int):Option ap0:=zR n n u ([]:List Int)
def nm(s:ap0):Option ap0:=(gZ n (IntKind.u64.wrap ((s.length:Nat):Int))).bind λah=>av (bE (ah.length+s.length))<|some (ah++s)
def K0(n:Nat)(bS:ap0):Option ap0:=some bS
def Ek(l:List ap0)(al:Int→ap0→Option ap0)(bA:Int)(bC:ap0):Option ap0:=cond (decide (bA<((l.length:Nat):Int))) ( av (aP bA l.length)<|(nm n (ap3 l bA)).bind λeo=>av (bE (bC.length+eo.length))<|al (ap2 (bA+1)) (bC++eo)) ( K0 n bC)
def wF(n:Nat)(l:List ap0):Nat→Int→ap0→Option ap0
 | 0=>λ_ _=>none
 |m+1=>Ek n l (wF n l m)
def zS(l:List ap0):Option ap0:=(gZ n (IntKind.u64.wrap ((l.length:Nat):Int))).bind λah=>wF n l n 0 ah
def p7(dZ:Int):Option ap0:=(gZ n (pC .u64 (qF .u64 (IntKind.u64.wrap dZ) 1) (IntKind.u64.wrap (oz .i64 dZ 63)))).bind λah=>some ah
def uc(v:bG):Option ap0:=cond (decide (v.Kind=1)) ( (gZ n 1).bind λao=>(p7 n v.N).bind λaB=>av (bE (ao.length+aB.length))<|some (ao++aB)) ( cond (decide (v.Kind=2)) ( (gZ n 2).bind λbh=>(nm n v.S).bind λcA=>av (bE (bh.length+cA.length))<|some (bh++cA)) ( (gZ n 0).bind λcQ=>some cQ))
def K1(n:Nat)(b:Bool):Option ap0:=cond b ( some ([1]:ap0)) ( some ([0]:ap0))
def zT(n:Nat)(fA:ap0):Option ap0:=some fA
def zU(ab:Request)(v22:ap0):Option ap0:=(K1 n ab.dX).bind λeh=>av (bE (v22.length+eh.length))<|cond ab.dX ( (zS n ab.bp.Reads).bind λeQ=>(zS n ab.bp.co).bind λfi=>av (bE (eQ.length+fi.length))<|av (bE ((v22++eh).length+(eQ++fi).length))<|zT n ((v22++eh)++(eQ++fi))) ( zT n (v22++eh))
def El(ab:Request)(eP:ap0→Int→Option ap0)(bD:ap0)(cV:Int):Option ap0:=cond (decide (cV<((ab.aw.length:Nat):Int))) ( av (aP cV ab.aw.length)<|(uc n (ap3 ab.aw cV)).bind λfJ=>av (bE (bD.length+fJ.length))<|eP (bD++fJ) (ap2 (cV+1))) ( zU n ab bD)
def wG(n:Nat)(ab:Request):Nat→ap0→Int→Option ap0
 | 0=>λ_ _=>none
 |m+1=>El n ab (wG n ab m)
def Em(ab:Request):Option ap0:=(o0 n ab).bind λah=>cond (!decide (ah=0)) ( some ([]:ap0)) ( (gZ n (IntKind.u64.wrap ab.Client)).bind λaB=>(gZ n (IntKind.u64.wrap ab.Seq)).bind λaR=>av (bE (aB.length+aR.length))<|(nm n ab.bi).bind λbh=>av (bE ((aB++aR).length+bh.length))<|(gZ n (IntKind.u64.wrap ((ab.aw.length:Nat):Int))).bind λcy=>av (bE (((aB++aR)++bh).length+cy.length))<|wG n ab n (((aB++aR)++bh)++cy) 0)
def K2(n:Nat)(aX:ap0):Option ap0:=some aX
def En(l:List Request)(al:Int→ap0→Option ap0)(v9:Int)(v10:ap0):Option ap0:=cond (decide (v9<((l.length:Nat):Int))) ( av (aP v9 l.length)<|(o0 n (⟨(ap3 l v9).Client,(ap3 l v9).Seq,(ap3 l v9).bi,(ap3 l v9).aw,(ap3 l v9).dX,⟨((ap3 l v9).bp).dV,((ap3 l v9).bp).Reads,((ap3 l v9).bp).co⟩⟩:Request)).bind λfu=>cond (!decide (fu=0)) ( some ([]:ap0)) ( (Em n (⟨(ap3 l v9).Client,(ap3 l v9).Seq,(ap3 l v9).bi,(ap3 l v9).aw,(ap3 l v9).dX,⟨((ap3 l v9).bp).dV,((ap3 l v9).bp).Reads,((ap3 l v9).bp).co⟩⟩:Request)).bind λdz=>av (bE (v10.length+dz.length))<|al (ap2 (v9+1)) (v10++dz))) ( K2 n v10)
def wH(n:Nat)(l:List Request):Nat→Int→ap0→Option ap0
 | 0=>λ_ _=>none
 |m+1=>En n l (wH n l m)
def wI(l:List Request):Option ap0:=cond (decide (64<((l.length:Nat):Int))) ( some ([]:ap0)) ( (gZ n (IntKind.u64.wrap ((l.length:Nat):Int))).bind λao=>wH n l n 0 ao)
def K3(n:Nat):ap4:=some true
def Eo(floor:Int)(last:Int)(ab:Row)(al:Int→ap4)(bC:Int):ap4:=cond (decide (bC<((ab.br.length:Nat):Int))) ( av (aP bC ab.br.length)<|Option.bind (cond (!(cond (decide ((ap3 ab.br bC).cd<floor)) true (decide (last<(ap3 ab.br bC).cd)))) (q7 n (⟨((ap3 ab.br bC).bo).Kind,((ap3 ab.br bC).bo).N,((ap3 ab.br bC).bo).S⟩:bG)) (some default)) λeo=>cond (cond (cond (decide ((ap3 ab.br bC).cd<floor)) true (decide (last<(ap3 ab.br bC).cd))) true (!eo)) ( some false) ( av (!(decide (0<bC))||aP (ap2 (bC-1)) ab.br.length)<|av (!(decide (0<bC))||((decide ((ap3 ab.br bC).cd≤(ap3 ab.br (ap2 (bC-1))).cd))||aP (ap2 (bC-1)) ab.br.length))<|cond (cond (decide (0<bC)) (cond (decide ((ap3 ab.br bC).cd≤(ap3 ab.br (ap2 (bC-1))).cd)) true ((decide (((ap3 ab.br bC).bo).Kind=((ap3 ab.br (ap2 (bC-1))).bo).Kind))&&((decide (((ap3 ab.br bC).bo).N=((ap3 ab.br (ap2 (bC-1))).bo).N))&&((decide (((ap3 ab.br bC).bo).S=((ap3 ab.br (ap2 (bC-1))).bo).S))&&true)))) false) ( some false) ( al (ap2 (bC+1))))) ( K3 n)
def wJ(n:Nat)(floor:Int)(last:Int)(ab:Row):Nat→Int→ap4
 | 0=>λ_=>none
 |m+1=>Eo n floor last ab (wJ n floor last ab m)
def Ep(ab:Row)(floor:Int)(last:Int):ap4:=av ((decide (((ab.br.length:Nat):Int)=0))||aP 0 ab.br.length)<|cond (cond (decide (((ab.br.length:Nat):Int)=0)) true (decide (((ab.br.getD 0 default).bo).Kind=0))) ( some false) ( wJ n floor last ab n 0)
def K4(n:Nat):ap4:=some true
def Er(s:ar)(al:Int→ap4)(bA:Int):ap4:=cond (decide (bA<((s.Rows.length:Nat):Int))) ( av (aP bA s.Rows.length)<|(ub n ((ap3 s.Rows bA).Key)).bind λcQ=>av ((!cQ)||(!(decide (0<bA))||aP (ap2 (bA-1)) s.Rows.length))<|Option.bind (cond (!(cond (!cQ) true (cond (decide (0<bA)) ((Op.bytesLess ((ap3 s.Rows bA).Key) ((ap3 s.Rows (ap2 (bA-1))).Key))||(decide (((ap3 s.Rows bA).Key)=((ap3 s.Rows (ap2 (bA-1))).Key)))) false))) (Ep n (ap3 s.Rows bA) s.bw s.bq) (some default)) λb6=>cond (cond (cond (!cQ) true (cond (decide (0<bA)) ((Op.bytesLess ((ap3 s.Rows bA).Key) ((ap3 s.Rows (ap2 (bA-1))).Key))||(decide (((ap3 s.Rows bA).Key)=((ap3 s.Rows (ap2 (bA-1))).Key)))) false)) true (!b6)) ( some false) ( al (ap2 (bA+1)))) ( K4 n)
def wK(n:Nat)(s:ar):Nat→Int→ap4
 | 0=>λ_=>none
 |m+1=>Er n s (wK n s m)
def ud(s:ar):ap4:=cond (cond (cond (decide (s.bw<0)) true (decide (s.bq<s.bw))) true (decide (1099511627776<s.bq))) ( some false) ( wK n s n 0)
def Es(n:Nat)(s:ar)(at_:Int):ap5:=cond (cond (decide (at_<s.bw)) true (decide (s.bq<at_))) ( some 15) ( some 0)
def K5(n:Nat)(v6:Int):ap5:=some v6
def K6(at_:Int)(ab:Row)(al:Int→ap5)(v3:Int):ap5:=av (!(decide (v3<((ab.br.length:Nat):Int)))||aP v3 ab.br.length)<|cond (cond (decide (v3<((ab.br.length:Nat):Int))) (decide ((ap3 ab.br v3).cd≤at_)) false) ( al (ap2 (v3+1))) ( K5 n v3)
def zV(n:Nat)(at_:Int)(ab:Row):Nat→Int→ap5
 | 0=>λ_=>none
 |m+1=>K6 n at_ ab (zV n at_ ab m)
def Et(ab:Row)(at_:Int):ap5:=zV n at_ ab n 0
def Eu(ab:Row)(at_:Int):Option bG:=(Et n ab at_).bind λah=>cond (decide (ah=0)) ( some (⟨0,0,[]⟩:bG)) ( av (aP (ap2 (ah-1)) ab.br.length)<|some (⟨((ap3 ab.br (ap2 (ah-1))).bo).Kind,((ap3 ab.br (ap2 (ah-1))).bo).N,((ap3 ab.br (ap2 (ah-1))).bo).S⟩:bG))
def K7(n:Nat)(cZ:List aY):Option ((List aY)×Int):=some (cZ,0)
def zW(n:Nat)(al:Int→(List aY)→Option ((List aY)×Int))(at_:Int)(s:ar)(v11:Int)(cV:List aY):Option ((List aY)×Int):=al (ap2 (v11+1)) cV
def K8(at_:Int)(s:ar)(al:Int→(List aY)→Option ((List aY)×Int))(v11:Int)(v12:List aY):Option ((List aY)×Int):=cond (decide (v11<((s.Rows.length:Nat):Int))) ( av (aP v11 s.Rows.length)<|(Eu n (ap3 s.Rows v11) at_).bind λeC=>cond (!decide (eC.Kind=0)) ( av (room (v12.length+([(⟨(ap3 s.Rows v11).Key,eC⟩:aY)]:List aY).length) 48)<|zW n al at_ s v11 (v12++([(⟨(ap3 s.Rows v11).Key,eC⟩:aY)]:List aY))) ( zW n al at_ s v11 v12)) ( K7 n v12)
def zX(n:Nat)(at_:Int)(s:ar):Nat→Int→(List aY)→Option ((List aY)×Int)
 | 0=>λ_ _=>none
 |m+1=>K8 n at_ s (zX n at_ s m)
def wL(s:ar)(at_:Int):Option ((List aY)×Int):=(ud n s).bind λah=>cond (!ah) ( some (([]:List aY),1)) ( (Es n s at_).bind λaB=>cond (!decide (aB=0)) ( some (([]:List aY),aB)) ( zX n at_ s n 0 ([]:List aY)))
def K9(n:Nat)(ka:ap0):Option ap0:=some ka
def Ev(p:b1)(al:Int→ap0→Option ap0)(aX:Int)(cl:ap0):Option ap0:=cond (decide (aX<((p.aF.length:Nat):Int))) ( av (aP aX p.aF.length)<|(p7 n ((ap3 p.aF aX).Id)).bind λdP=>(nm n ((ap3 p.aF aX).dO)).bind λfs=>av (bE (dP.length+fs.length))<|(p7 n ((ap3 p.aF aX).Node)).bind λeh=>av (bE ((dP++fs).length+eh.length))<|(p7 n ((ap3 p.aF aX).fy)).bind λeQ=>av (bE (((dP++fs)++eh).length+eQ.length))<|(nm n ((ap3 p.aF aX).dE)).bind λdH=>av (bE ((((dP++fs)++eh)++eQ).length+dH.length))<|av (bE (cl.length+((((dP++fs)++eh)++eQ)++dH).length))<|al (ap2 (aX+1)) (cl++((((dP++fs)++eh)++eQ)++dH))) ( K9 n cl)
def wM(n:Nat)(p:b1):Nat→Int→ap0→Option ap0
 | 0=>λ_ _=>none
 |m+1=>Ev n p (wM n p m)
def zY(p:b1):Option ap0:=(p7 n p.Version).bind λah=>(gZ n (IntKind.u64.wrap ((p.aF.length:Nat):Int))).bind λao=>av (bE (ah.length+ao.length))<|wM n p n 0 (ah++ao)
def K'(n:Nat)(y:Param)(ai:Param):ap4:=some (decide (y.Name=ai.Name))
def K_(n:Nat)(ai:Param):ap5:=some (-1)
def La(s:List Param)(ai:Param)(al:Int→ap5)(v4:Int):ap5:=cond (decide (v4<((s.length:Nat):Int))) ( av (aP v4 s.length)<|(K' n (ap3 s v4) ai).bind λbh=>cond bh ( some v4) ( al (ap2 (v4+1)))) ( K_ n ai)
def wN(n:Nat)(s:List Param)(ai:Param):Nat→Int→ap5
 | 0=>λ_=>none
 |m+1=>La n s ai (wN n s ai m)
def Lb(s:List Param)(ai:Param):ap5:=wN n s ai n 0
def Ew(s:List Param)(ai:Param):ap4:=(Lb n s ai).bind λah=>some (decide (0≤ah))
def Lc(n:Nat):ap5:=some 0
def Ld(l:List Param)(al:Int→ap5)(bA:Int):ap5:=cond (decide (bA<((l.length:Nat):Int))) ( av (aP bA l.length)<|(q6 n ((ap3 l bA).Name)).bind λcQ=>cond (!cQ) ( some 7) ( cond (cond (decide ((ap3 l bA).fP<1)) true (decide (3<(ap3 l bA).fP))) ( some 10) ( av (gP bA l.length)<|(Ew n (l.take (bA).toNat) (ap3 l bA)).bind λb6=>cond b6 ( some 8) ( al (ap2 (bA+1)))))) ( Lc n)
def wO(n:Nat)(l:List Param):Nat→Int→ap5
 | 0=>λ_=>none
 |m+1=>Ld n l (wO n l m)
def Ex(l:List Param):ap5:=cond (decide (6<((l.length:Nat):Int))) ( some 2) ( wO n l n 0)
def Ey(n:Nat)(op:Int):ap5:=cond (cond (decide (op<1)) true (decide (27<op))) ( some (-1)) ( cond (cond (decide (op≤3)) true (decide (25≤op))) ( some 0) ( cond (cond (cond (decide (op=9)) true (decide (op=18))) true (decide (20≤op))) ( some 1) ( some 2)))
def Le(n:Nat)(s:ap0):ap4:=some (decide (((s.length:Nat):Int)≤64))
def Lf(s:ap0)(al:Int→ap4)(v4:Int):ap4:=cond (decide (v4<((s.length:Nat):Int))) ( av (aP v4 s.length)<|av ((decide ((((s.getD (v4).toNat 0).toNat:Nat):Int)<32))||aP v4 s.length)<|cond (cond (decide ((((s.getD (v4).toNat 0).toNat:Nat):Int)<32)) true (decide (126<(((s.getD (v4).toNat 0).toNat:Nat):Int)))) ( some false) ( al (ap2 (v4+1)))) ( Le n s)
def wP(n:Nat)(s:ap0):Nat→Int→ap4
 | 0=>λ_=>none
 |m+1=>Lf n s (wP n s m)
def Lg(s:ap0):ap4:=wP n s n 0
def Ez(e:Expr)(depth:Int):ap5:=(Ey n e.Op).bind λah=>cond (cond (cond (decide (ah<0)) true (cond (!decide (e.Op=1)) (!decide (e.N=0)) false)) true (cond (cond (!decide (e.Op=2)) (!decide (e.Op=3)) false) (!(decide (e.S=([]:ap0)))) false)) ( some 1) ( Option.bind (cond (decide (e.Op=3)) (q6 n e.S) (some default)) λaB=>cond (cond (decide (e.Op=3)) (!aB) false) ( some 7) ( Option.bind (cond ((!(cond (decide (e.Op=1)) (decide (e.N<0)) false))&&(decide (e.Op=2))) (Lg n e.S) (some default)) λb5=>cond (cond (cond (cond (decide (e.Op=1)) (decide (e.N<0)) false) true (cond (decide (e.Op=2)) (!b5) false)) true (!decide (((e.aw.length:Nat):Int)=ah))) ( some 1) ( cond (decide (12<depth)) ( some 2) ( some 0))))
def Lh(n:Nat)(mH:Expr→Int→ap5):ap5:=some 0
def Li(mH:Expr→Int→ap5)(depth:Int)(e:Expr)(al:Int→ap5)(v6:Int):ap5:=cond (decide (v6<((e.aw.length:Nat):Int))) ( av (aP v6 e.aw.length)<|(mH (ap3 e.aw v6) (ap2 (depth+1))).bind λcy=>cond (!decide (cy=0)) ( some cy) ( al (ap2 (v6+1)))) ( Lh n mH)
def zZ(n:Nat)(mH:Expr→Int→ap5)(depth:Int)(e:Expr):Nat→Int→ap5
 | 0=>λ_=>none
 |m+1=>Li n mH depth e (zZ n mH depth e m)
def Lj(mH:Expr→Int→ap5)(e:Expr)(depth:Int):ap5:=(Ez n e depth).bind λah=>cond (!decide (ah=0)) ( some ah) ( zZ n mH depth e n 0)
def wQ:Nat→Expr→Int→ap5
 | 0=>λ_ _=>none
 |m+1=>Lj m (wQ m)
def z1(e:Expr):ap5:=(wQ n e 1).bind λah=>some ah
def wR(n:Nat)(e:Expr):ap4:=some (cond (cond (cond (decide (e.Op=0)) (decide (e.N=0)) false) (decide (e.S=([]:ap0))) false) (decide (((e.aw.length:Nat):Int)=0)) false)
def EA(s:Stmt)(u:kB):ap4:=Option.bind (cond ((!(cond (!u.name) (!(decide (s.Name=([]:ap0)))) false))&&(!u.a)) (wR n (⟨s.A.Op,s.A.N,s.A.S,s.A.aw⟩:Expr)) (some default)) λah=>Option.bind (cond ((!(cond (cond (!u.name) (!(decide (s.Name=([]:ap0)))) false) true (cond (!u.a) (!ah) false)))&&(!u.b)) (wR n (⟨s.B.Op,s.B.N,s.B.S,s.B.aw⟩:Expr)) (some default)) λao=>cond (cond (cond (cond (cond (cond (cond (!u.name) (!(decide (s.Name=([]:ap0)))) false) true (cond (!u.a) (!ah) false)) true (cond (!u.b) (!ao) false)) true (cond (!u.max) (!decide (s.Max=0)) false)) true (cond (!u.body) (decide (0<((s.Body.length:Nat):Int))) false)) true (cond (!u.other) (decide (0<((s.bX.length:Nat):Int))) false)) ( some false) ( cond (decide (s.Op=6)) ( some (cond (decide (1≤s.Max)) (decide (s.Max≤16)) false)) ( cond (decide (s.Op=8)) ( some (cond (decide (0≤s.Max)) (decide (s.Max≤999)) false)) ( some true)))
def Lk(n:Nat):Option (kB×Bool):=some ((⟨false,false,false,false,false,false⟩:kB),false)
def EB(op:Int)(v2:Bool):Option (kB×Bool):=cond v2 ( some ((⟨false,true,false,false,false,false⟩:kB),true)) ( cond (decide (op=5)) ( some ((⟨false,true,false,false,true,true⟩:kB),true)) ( cond (decide (op=6)) ( some ((⟨true,true,true,true,true,false⟩:kB),true)) ( cond (decide (op=8)) ( some ((⟨false,false,false,true,false,false⟩:kB),true)) ( Lk n))))
def EC(op:Int)(v1:Bool):Option (kB×Bool):=cond v1 ( some ((⟨true,true,false,false,false,false⟩:kB),true)) ( cond (decide (op=3)) ( some ((⟨false,true,true,false,false,false⟩:kB),true)) ( cond (decide (op=4)) ( EB n op (decide (op=4))) ( EB n op (decide (op=7)))))
def ED(op:Int):Option (kB×Bool):=cond (decide (op=1)) ( EC n op (decide (op=1))) ( EC n op (decide (op=2)))
def EE(n:Nat)(depth:Int):ap5:=cond (decide (12<depth)) ( some 2) ( some 0)
def EF(depth:Int)(s:Stmt)(ah:kB×Bool):ap5:=cond ah.1.b ( (z1 n (⟨s.B.Op,s.B.N,s.B.S,s.B.aw⟩:Expr)).bind λcA=>cond (!decide (cA=0)) ( some cA) ( EE n depth)) ( EE n depth)
def EG(s:Stmt)(depth:Int):ap5:=(ED n s.Op).bind λah=>Option.bind (cond (!(!ah.2)) (EA n (⟨s.Op,s.Name,s.Max,⟨s.A.Op,s.A.N,s.A.S,s.A.aw⟩,⟨s.B.Op,s.B.N,s.B.S,s.B.aw⟩,s.Body,s.bX⟩:Stmt) ah.1) (some default)) λao=>cond (cond (!ah.2) true (!ao)) ( some 1) ( Option.bind (cond ah.1.name (q6 n s.Name) (some default)) λaR=>cond (cond ah.1.name (!aR) false) ( some 7) ( cond ah.1.a ( (z1 n (⟨s.A.Op,s.A.N,s.A.S,s.A.aw⟩:Expr)).bind λbh=>cond (!decide (bh=0)) ( some bh) ( EF n depth s ah)) ( EF n depth s ah)))
def EH(s:Stmt)(depth:Int)(ai:Int):ap5:=cond (decide (ai=0)) ( (EG n (⟨s.Op,s.Name,s.Max,⟨s.A.Op,s.A.N,s.A.S,s.A.aw⟩,⟨s.B.Op,s.B.N,s.B.S,s.B.aw⟩,s.Body,s.bX⟩:Stmt) depth).bind λao=>some ao) ( some ai)
def Ll(n:Nat)(a0:Expr):Option Unit:=some ()
def Lm(n:Nat)(o1:Expr→Int→Int→ap5)(e:Expr)(fB:Int)(cS:Int→Int→ap5)(v6:Int)(bA:Int):ap5:=cond (decide (bA<((e.aw.length:Nat):Int))) ( av (aP bA e.aw.length)<|(o1 (ap3 e.aw bA) v6 fB).bind λcQ=>cS cQ (ap2 (bA+1))) ( some v6)
def z6(n:Nat)(o1:Expr→Int→Int→ap5)(e:Expr)(fB:Int):Nat→Int→Int→ap5
 | 0=>λ_ _=>none
 |m+1=>Lm n o1 e fB (z6 n o1 e fB m)
def Ln(o1:Expr→Int→Int→ap5)(e:Expr)(iV:Int)(fB:Int):ap5:=cond (decide (iV=0)) ( some iV) ( z6 n o1 e fB n (ap2 (iV-1)) 0)
def wS:Nat→Expr→Int→Int→ap5
 | 0=>λ_ _ _=>none
 |m+1=>Ln m (wS m)
def z7(e:Expr)(iV:Int)(fB:Int):ap5:=Option.bind (cond (!(decide (iV=0))) (wR n e) (some default)) λah=>cond (cond (decide (iV=0)) true ah) ( some iV) ( (Ll n e).bind λaB=>(wS n e iV fB).bind λaR=>some aR)
def Lo(n8:(List Stmt)→Int→Int→Int→Option (Int×Int))(depth:Int)(l:List Stmt)(cS:Int→Int→Int→Option (Int×Int))(v10:Int)(v11:Int)(v12:Int):Option (Int×Int):=cond (decide (v12<((l.length:Nat):Int))) ( av (aP v12 l.length)<|cond (decide (v10=0)) ( some (v10,v11)) ( (EH n (⟨(ap3 l v12).Op,(ap3 l v12).Name,(ap3 l v12).Max,⟨((ap3 l v12).A).Op,((ap3 l v12).A).N,((ap3 l v12).A).S,((ap3 l v12).A).aw⟩,⟨((ap3 l v12).B).Op,((ap3 l v12).B).N,((ap3 l v12).B).S,((ap3 l v12).B).aw⟩,(ap3 l v12).Body,(ap3 l v12).bX⟩:Stmt) depth v11).bind λeC=>(z7 n (⟨((ap3 l v12).A).Op,((ap3 l v12).A).N,((ap3 l v12).A).S,((ap3 l v12).A).aw⟩:Expr) (ap2 (v10-1)) eC).bind λdK=>(z7 n (⟨((ap3 l v12).B).Op,((ap3 l v12).B).N,((ap3 l v12).B).S,((ap3 l v12).B).aw⟩:Expr) dK eC).bind λdA=>(n8 ((ap3 l v12).Body) (ap2 (depth+1)) dA eC).bind λeR=>(n8 ((ap3 l v12).bX) (ap2 (depth+1)) eR.1 eR.2).bind λfJ=>cS fJ.1 fJ.2 (ap2 (v12+1)))) ( some (v10,v11))
def z8(n:Nat)(n8:(List Stmt)→Int→Int→Int→Option (Int×Int))(depth:Int)(l:List Stmt):Nat→Int→Int→Int→Option (Int×Int)
 | 0=>λ_ _ _=>none
 |m+1=>Lo n n8 depth l (z8 n n8 depth l m)
def Lp(n8:(List Stmt)→Int→Int→Int→Option (Int×Int))(l:List Stmt)(depth:Int)(iV:Int)(fB:Int):Option (Int×Int):=z8 n n8 depth l n iV fB 0
def ue:Nat→(List Stmt)→Int→Int→Int→Option (Int×Int)
 | 0=>λ_ _ _ _=>none
 |m+1=>Lp m (ue m)
def Lq(p:bi)(ai:Int):Option (Int×Int):=(ue n p.Body 1 401 ai).bind λah=>some ((ap2 (401-ah.1)),ah.2)
def z'(p:bi):ap5:=(q6 n p.Name).bind λah=>cond (!ah) ( some 7) ( (Ex n p.Params).bind λaB=>cond (!decide (aB=0)) ( some aB) ( (Lq n p aB).bind λb5=>cond (cond (decide (b5.2=0)) (decide (400<b5.1)) false) ( some 2) ( some b5.2)))
def EI(n:Nat)(ty:Int):Option ap0:=cond (decide (ty=1)) ( some ([105,110,116]:ap0)) ( cond (decide (ty=2)) ( some ([115,116,114]:ap0)) ( some ([98,111,111,108]:ap0)))
def p8(n:Nat)(op:Int):Option (Unit ⊕ Unit ⊕ Unit ⊕ Unit ⊕ Unit ⊕ Unit ⊕ Unit ⊕ Unit):=cond (decide (op=1)) ( some (.inl ())) ( cond (decide (op=2)) ( some (.inr (.inl ()))) ( cond (decide (op=3)) ( some (.inr (.inr (.inl ())))) ( cond (decide (op=4)) ( some (.inr (.inr (.inr (.inl ()))))) ( cond (decide (op=5)) ( some (.inr (.inr (.inr (.inr (.inl ())))))) ( cond (decide (op=6)) ( some (.inr (.inr (.inr (.inr (.inr (.inl ()))))))) ( cond (decide (op=7)) ( some (.inr (.inr (.inr (.inr (.inr (.inr (.inl ())))))))) ( some (.inr (.inr (.inr (.inr (.inr (.inr (.inr ()))))))))))))))
def uf(dZ:Int):Option ap0:=(Ec n dZ 10).bind λah=>some ah
def wT(n:Nat)(b7:List Int)(cm:Int):Option Unit:=some ()
def EJ(c:Int)(b7:List Int)(cm:Int):Option (List Int):=(wT n b7 cm).bind λah=>av (room (b7.length+([c]:List Int).length) 1)<|some (b7++([c]:List Int))
def z_(s:ap0)(b7:List Int)(cm:Int):Option (Int×(List Int)):=(wT n b7 cm).bind λah=>av (room (b7.length+s.length) 1)<|some (((s.length:Nat):Int),(b7++s.map λb=>(b.toNat:Int)))
def Lr(cm:Int)(v20:List Int):Option (List Int):=(EJ n 10 v20 cm).bind λfs=>some fs
def Ls(parts:List ap0)(cm:Int)(eP:(List Int)→Int→Option (List Int))(bS:List Int)(bD:Int):Option (List Int):=cond (decide (bD<((parts.length:Nat):Int))) ( av (aP bD parts.length)<|(z_ n (ap3 parts bD) bS cm).bind λeR=>eP eR.2 (ap2 (bD+1))) ( Lr n cm bS)
def Aa(n:Nat)(parts:List ap0)(cm:Int):Nat→(List Int)→Int→Option (List Int)
 | 0=>λ_ _=>none
 |m+1=>Ls n parts cm (Aa n parts cm m)
def Lt(parts:List ap0)(cm:Int)(v9:List Int):Option (List Int):=Aa n parts cm n v9 0
def Lu(parts:List ap0)(cm:Int)(dD:(List Int)→Int→Option (List Int))(v4:List Int)(v5:Int):Option (List Int):=cond (decide (v5<cm)) ( (z_ n ([32,32,32,32]:ap0) v4 cm).bind λbh=>dD bh.2 (ap2 (v5+1))) ( Lt n parts cm v4)
def Ac(n:Nat)(parts:List ap0)(cm:Int):Nat→(List Int)→Int→Option (List Int)
 | 0=>λ_ _=>none
 |m+1=>Lu n parts cm (Ac n parts cm m)
def lI(parts:List ap0)(b7:List Int)(cm:Int):Option (List Int):=Ac n parts cm n b7 0
def Lv(s:Stmt)(b7:List Int)(cm:Int):Option (List Int):=(uf n s.Max).bind λah=>(lI n ([([97,98,111,114,116,32]:ap0),ah,([59]:ap0)]:List ap0) b7 cm).bind λao=>some ao
def Lw(n:Nat):ap4:=some true
def Lx(s:ap0)(al:Int→ap4)(v4:Int):ap4:=cond (decide (v4<((s.length:Nat):Int))) ( av (aP v4 s.length)<|av ((decide ((((s.getD (v4).toNat 0).toNat:Nat):Int)<32))||aP v4 s.length)<|cond (cond (decide ((((s.getD (v4).toNat 0).toNat:Nat):Int)<32)) true (decide (126<(((s.getD (v4).toNat 0).toNat:Nat):Int)))) ( some false) ( al (ap2 (v4+1)))) ( Lw n)
def Ad(n:Nat)(s:ap0):Nat→Int→ap4
 | 0=>λ_=>none
 |m+1=>Lx n s (Ad n s m)
def Ly(s:ap0):ap4:=Ad n s n 0
def p9(n:Nat)(b7:List Int):Option (ap0×(List Int)):=av (lH b7&&decide (b7.length≤9223372036854775807))<|some (hL b7,b7)
def wU(n:Nat)(b7:List Int):Option Unit:=some ()
def p'(c:Int)(b7:List Int):Option (List Int):=(wU n b7).bind λah=>av (room (b7.length+([c]:List Int).length) 1)<|some (b7++([c]:List Int))
def Lz(v25:List Int):Option (ap0×Int):=(p' n 34 v25).bind λfi=>(p9 n fi).bind λdH=>some (dH.1,0)
def LA(n:Nat)(al:(List Int)→Int→Option (ap0×Int))(s:ap0)(bD:Int)(v22:List Int):Option (ap0×Int):=al v22 (ap2 (bD+1))
def EK(al:(List Int)→Int→Option (ap0×Int))(s:ap0)(bD:Int)(cZ:List Int):Option (ap0×Int):=av (aP bD s.length)<|(p' n (((s.getD (bD).toNat 0).toNat:Nat):Int) cZ).bind λfs=>LA n al s bD fs
def LB(s:ap0)(al:(List Int)→Int→Option (ap0×Int))(bS:List Int)(bD:Int):Option (ap0×Int):=cond (decide (bD<((s.length:Nat):Int))) ( av (aP bD s.length)<|av ((decide ((((s.getD (bD).toNat 0).toNat:Nat):Int)=34))||aP bD s.length)<|cond (cond (decide ((((s.getD (bD).toNat 0).toNat:Nat):Int)=34)) true (decide ((((s.getD (bD).toNat 0).toNat:Nat):Int)=92))) ( (p' n 92 bS).bind λfJ=>EK n al s bD fJ) ( EK n al s bD bS)) ( Lz n bS)
def Ae(n:Nat)(s:ap0):Nat→(List Int)→Int→Option (ap0×Int)
 | 0=>λ_ _=>none
 |m+1=>LB n s (Ae n s m)
def EL(s:ap0):Option (ap0×Int):=cond (decide (64<((s.length:Nat):Int))) ( some (([]:ap0),2)) ( (Ly n s).bind λao=>cond (!ao) ( some (([]:ap0),1)) ( (p' n 34 ([]:List Int)).bind λaR=>Ae n s n aR 0))
def LC(n:Nat):ap5:=some 9
def Af(op:Int)(v3:Bool):ap5:=cond v3 ( some 7) ( cond (decide (op=9)) ( some 8) ( LC n))
def EM(op:Int)(v2:Bool):ap5:=cond v2 ( some 6) ( cond (decide (op=6)) ( Af n op (decide (op=6))) ( cond (decide (op=7)) ( Af n op (decide (op=7))) ( Af n op (decide (op=8)))))
def sd(op:Int)(v1:Bool):ap5:=cond v1 ( some 4) ( cond (decide (op=19)) ( some 5) ( cond (decide (op=4)) ( EM n op (decide (op=4))) ( EM n op (decide (op=5)))))
def Ag(op:Int):ap5:=cond (decide (op=17)) ( some 1) ( cond (decide (op=16)) ( some 2) ( cond (decide (op=18)) ( some 3) ( cond (decide (op=10)) ( sd n op (decide (op=10))) ( cond (decide (op=11)) ( sd n op (decide (op=11))) ( cond (decide (op=12)) ( sd n op (decide (op=12))) ( cond (decide (op=13)) ( sd n op (decide (op=13))) ( cond (decide (op=14)) ( sd n op (decide (op=14))) ( sd n op (decide (op=15))))))))))
def EN(n:Nat)(op:Int):Option ap0:=cond (decide (op=17)) ( some ([111,114]:ap0)) ( cond (decide (op=16)) ( some ([97,110,100]:ap0)) ( cond (decide (op=10)) ( some ([61,61]:ap0)) ( cond (decide (op=11)) ( some ([33,61]:ap0)) ( cond (decide (op=12)) ( some ([60]:ap0)) ( cond (decide (op=13)) ( some ([60,61]:ap0)) ( cond (decide (op=14)) ( some ([62]:ap0)) ( cond (decide (op=15)) ( some ([62,61]:ap0)) ( cond (decide (op=19)) ( some ([43,43]:ap0)) ( cond (decide (op=4)) ( some ([43]:ap0)) ( cond (decide (op=5)) ( some ([45]:ap0)) ( cond (decide (op=6)) ( some ([42]:ap0)) ( cond (decide (op=7)) ( some ([47]:ap0)) ( some ([37]:ap0))))))))))))))
def EO(n:Nat)(op:Int):Option ap0:=cond (decide (op=20)) ( some ([116,101,120,116]:ap0)) ( cond (decide (op=21)) ( some ([108,101,110]:ap0)) ( cond (decide (op=22)) ( some ([103,101,116,105,110,116]:ap0)) ( cond (decide (op=23)) ( some ([103,101,116,115,116,114]:ap0)) ( cond (decide (op=24)) ( some ([104,97,115]:ap0)) ( cond (decide (op=25)) ( some ([110,111,119]:ap0)) ( cond (decide (op=26)) ( some ([114,97,110,100,111,109]:ap0)) ( cond (decide (op=27)) ( some ([110,111,100,101]:ap0)) ( some ([]:ap0)))))))))
def EP(p_:Expr→Option ap0)(nn:Expr→Int→Option ap0)(e:Expr):Option ap0:=(Ag n e.Op).bind λah=>cond (decide (e.Op=1)) ( (uf n e.N).bind λaB=>some aB) ( cond (decide (e.Op=2)) ( (EL n e.S).bind λb5=>some b5.1) ( cond (decide (e.Op=3)) ( some e.S) ( cond (decide (e.Op=18)) ( av (aP 0 e.aw.length)<|(nn (e.aw.getD 0 default) ah).bind λcQ=>av (bE (([110,111,116,32]:ap0).length+cQ.length))<|some (([110,111,116,32]:ap0)++cQ)) ( cond (decide (e.Op=9)) ( av (aP 0 e.aw.length)<|(nn (e.aw.getD 0 default) ah).bind λdz=>av (bE (([45]:ap0).length+dz.length))<|some (([45]:ap0)++dz)) ( cond (cond (decide (ah=9)) (decide (((e.aw.length:Nat):Int)=0)) false) ( (EO n e.Op).bind λdA=>av (bE (dA.length+([40,41]:ap0).length))<|some (dA++([40,41]:ap0))) ( cond (decide (ah=9)) ( (EO n e.Op).bind λeO=>av (bE (eO.length+([40]:ap0).length))<|av (aP 0 e.aw.length)<|(p_ (e.aw.getD 0 default)).bind λdG=>av (bE ((eO++([40]:ap0)).length+dG.length))<|av (bE (((eO++([40]:ap0))++dG).length+([41]:ap0).length))<|some (((eO++([40]:ap0))++dG)++([41]:ap0))) ( cond (decide (ah=4)) ( av (aP 0 e.aw.length)<|(nn (e.aw.getD 0 default) 5).bind λdH=>av (bE (dH.length+([32]:ap0).length))<|(EN n e.Op).bind λfC=>av (bE ((dH++([32]:ap0)).length+fC.length))<|av (bE (((dH++([32]:ap0))++fC).length+([32]:ap0).length))<|av (aP 1 e.aw.length)<|(nn (e.aw.getD 1 default) 5).bind λn9=>av (bE ((((dH++([32]:ap0))++fC)++([32]:ap0)).length+n9.length))<|some ((((dH++([32]:ap0))++fC)++([32]:ap0))++n9)) ( av (aP 0 e.aw.length)<|(nn (e.aw.getD 0 default) ah).bind λnp=>av (bE (np.length+([32]:ap0).length))<|(EN n e.Op).bind λo2=>av (bE ((np++([32]:ap0)).length+o2.length))<|av (bE (((np++([32]:ap0))++o2).length+([32]:ap0).length))<|av (aP 1 e.aw.length)<|(nn (e.aw.getD 1 default) (ap2 (ah+1))).bind λg'=>av (bE ((((np++([32]:ap0))++o2)++([32]:ap0)).length+g'.length))<|some ((((np++([32]:ap0))++o2)++([32]:ap0))++g')))))))))
def EQ(p_:Expr→Option ap0)(nn:Expr→Int→Option ap0)(e:Expr)(least:Int):Option ap0:=(Ag n e.Op).bind λah=>cond (decide (ah<least)) ( (p_ e).bind λaB=>av (bE (([40]:ap0).length+aB.length))<|av (bE ((([40]:ap0)++aB).length+([41]:ap0).length))<|some ((([40]:ap0)++aB)++([41]:ap0))) ( (p_ e).bind λbh=>some bh)
def wV:Nat→(Expr→Option ap0)×(Expr→Int→Option ap0)
 | 0=>(λ_=>none,λ_ _=>none)
 |m+1=>(EP m ((wV m).1) ((wV m).2),EQ m ((wV m).1) ((wV m).2))
def lm:Expr→Option ap0:=(wV n).1
def ug:Expr→Int→Option ap0:=(wV n).2
def LD(s:Stmt)(b7:List Int)(cm:Int):Option (List Int):=(lm n (⟨s.A.Op,s.A.N,s.A.S,s.A.aw⟩:Expr)).bind λah=>(lI n ([s.Name,([32,61,32]:ap0),ah,([59]:ap0)]:List ap0) b7 cm).bind λao=>some ao
def LE(s:Stmt)(b7:List Int)(cm:Int):Option (List Int):=(lm n (⟨s.A.Op,s.A.N,s.A.S,s.A.aw⟩:Expr)).bind λah=>(lI n ([([108,101,116,32]:ap0),s.Name,([32,61,32]:ap0),ah,([59]:ap0)]:List ap0) b7 cm).bind λao=>some ao
def LF(s:Stmt)(b7:List Int)(cm:Int):Option (List Int):=(lm n (⟨s.A.Op,s.A.N,s.A.S,s.A.aw⟩:Expr)).bind λah=>(lI n ([([101,109,105,116,32]:ap0),ah,([59]:ap0)]:List ap0) b7 cm).bind λao=>some ao
def LG(s:Stmt)(b7:List Int)(cm:Int):Option (List Int):=(lm n (⟨s.A.Op,s.A.N,s.A.S,s.A.aw⟩:Expr)).bind λah=>(lm n (⟨s.B.Op,s.B.N,s.B.S,s.B.aw⟩:Expr)).bind λao=>(lI n ([([112,117,116,32]:ap0),ah,([32,61,32]:ap0),ao,([59]:ap0)]:List ap0) b7 cm).bind λaB=>some aB
def LH(s:Stmt)(b7:List Int)(cm:Int):Option (List Int):=(lm n (⟨s.A.Op,s.A.N,s.A.S,s.A.aw⟩:Expr)).bind λah=>(lI n ([([100,101,108,101,116,101,32]:ap0),ah,([59]:ap0)]:List ap0) b7 cm).bind λao=>some ao
def LI(n:Nat)(hO:(List Stmt)→(List Int)→Int→Option ((List Int)×Int))(h8:Stmt→(List Int)→Int→Option ((List Int)×Int))(h9:Stmt→(List Int)→Int→Option ((List Int)×Int))(ka:List Int)(q8:Int):Option ((List Int)×Int):=some (ka,(ap2 (q8-1)))
def LJ(hO:(List Stmt)→(List Int)→Int→Option ((List Int)×Int))(h8:Stmt→(List Int)→Int→Option ((List Int)×Int))(h9:Stmt→(List Int)→Int→Option ((List Int)×Int))(l:List Stmt)(al:(List Int)→Int→Int→Option ((List Int)×Int))(bD:List Int)(cV:Int)(aX:Int):Option ((List Int)×Int):=cond (decide (aX<((l.length:Nat):Int))) ( av (aP aX l.length)<|(p8 n ((ap3 l aX).Op)).bind λeO=>hS.on eO (λagk=>(LE n (⟨(ap3 l aX).Op,(ap3 l aX).Name,(ap3 l aX).Max,⟨((ap3 l aX).A).Op,((ap3 l aX).A).N,((ap3 l aX).A).S,((ap3 l aX).A).aw⟩,⟨((ap3 l aX).B).Op,((ap3 l aX).B).N,((ap3 l aX).B).S,((ap3 l aX).B).aw⟩,(ap3 l aX).Body,(ap3 l aX).bX⟩:Stmt) bD cV).bind λfs=>al fs cV (ap2 (aX+1))) (λU9=>hS.on U9 (λagl=>(LD n (⟨(ap3 l aX).Op,(ap3 l aX).Name,(ap3 l aX).Max,⟨((ap3 l aX).A).Op,((ap3 l aX).A).N,((ap3 l aX).A).S,((ap3 l aX).A).aw⟩,⟨((ap3 l aX).B).Op,((ap3 l aX).B).N,((ap3 l aX).B).S,((ap3 l aX).B).aw⟩,(ap3 l aX).Body,(ap3 l aX).bX⟩:Stmt) bD cV).bind λdG=>al dG cV (ap2 (aX+1))) (λU'=>hS.on U' (λagm=>(LG n (⟨(ap3 l aX).Op,(ap3 l aX).Name,(ap3 l aX).Max,⟨((ap3 l aX).A).Op,((ap3 l aX).A).N,((ap3 l aX).A).S,((ap3 l aX).A).aw⟩,⟨((ap3 l aX).B).Op,((ap3 l aX).B).N,((ap3 l aX).B).S,((ap3 l aX).B).aw⟩,(ap3 l aX).Body,(ap3 l aX).bX⟩:Stmt) bD cV).bind λeh=>al eh cV (ap2 (aX+1))) (λU_=>hS.on U_ (λagn=>(LH n (⟨(ap3 l aX).Op,(ap3 l aX).Name,(ap3 l aX).Max,⟨((ap3 l aX).A).Op,((ap3 l aX).A).N,((ap3 l aX).A).S,((ap3 l aX).A).aw⟩,⟨((ap3 l aX).B).Op,((ap3 l aX).B).N,((ap3 l aX).B).S,((ap3 l aX).B).aw⟩,(ap3 l aX).Body,(ap3 l aX).bX⟩:Stmt) bD cV).bind λfz=>al fz cV (ap2 (aX+1))) (λVa=>hS.on Va (λago=>(h8 (⟨(ap3 l aX).Op,(ap3 l aX).Name,(ap3 l aX).Max,⟨((ap3 l aX).A).Op,((ap3 l aX).A).N,((ap3 l aX).A).S,((ap3 l aX).A).aw⟩,⟨((ap3 l aX).B).Op,((ap3 l aX).B).N,((ap3 l aX).B).S,((ap3 l aX).B).aw⟩,(ap3 l aX).Body,(ap3 l aX).bX⟩:Stmt) bD cV).bind λeQ=>al eQ.1 eQ.2 (ap2 (aX+1))) (λVb=>hS.on Vb (λagp=>(h9 (⟨(ap3 l aX).Op,(ap3 l aX).Name,(ap3 l aX).Max,⟨((ap3 l aX).A).Op,((ap3 l aX).A).N,((ap3 l aX).A).S,((ap3 l aX).A).aw⟩,⟨((ap3 l aX).B).Op,((ap3 l aX).B).N,((ap3 l aX).B).S,((ap3 l aX).B).aw⟩,(ap3 l aX).Body,(ap3 l aX).bX⟩:Stmt) bD cV).bind λfi=>al fi.1 fi.2 (ap2 (aX+1))) (λVc=>hS.on Vc (λagq=>(LF n (⟨(ap3 l aX).Op,(ap3 l aX).Name,(ap3 l aX).Max,⟨((ap3 l aX).A).Op,((ap3 l aX).A).N,((ap3 l aX).A).S,((ap3 l aX).A).aw⟩,⟨((ap3 l aX).B).Op,((ap3 l aX).B).N,((ap3 l aX).B).S,((ap3 l aX).B).aw⟩,(ap3 l aX).Body,(ap3 l aX).bX⟩:Stmt) bD cV).bind λdH=>al dH cV (ap2 (aX+1))) (λagr=>(Lv n (⟨(ap3 l aX).Op,(ap3 l aX).Name,(ap3 l aX).Max,⟨((ap3 l aX).A).Op,((ap3 l aX).A).N,((ap3 l aX).A).S,((ap3 l aX).A).aw⟩,⟨((ap3 l aX).B).Op,((ap3 l aX).B).N,((ap3 l aX).B).S,((ap3 l aX).B).aw⟩,(ap3 l aX).Body,(ap3 l aX).bX⟩:Stmt) bD cV).bind λlJ=>al lJ cV (ap2 (aX+1)))))))))) ( LI n hO h8 h9 bD cV)
def Ah(n:Nat)(hO:(List Stmt)→(List Int)→Int→Option ((List Int)×Int))(h8:Stmt→(List Int)→Int→Option ((List Int)×Int))(h9:Stmt→(List Int)→Int→Option ((List Int)×Int))(l:List Stmt):Nat→(List Int)→Int→Int→Option ((List Int)×Int)
 | 0=>λ_ _ _=>none
 |m+1=>LJ n hO h8 h9 l (Ah n hO h8 h9 l m)
def ER(hO:(List Stmt)→(List Int)→Int→Option ((List Int)×Int))(h8:Stmt→(List Int)→Int→Option ((List Int)×Int))(h9:Stmt→(List Int)→Int→Option ((List Int)×Int))(l:List Stmt)(b7:List Int)(cm:Int):Option ((List Int)×Int):=Ah n hO h8 h9 l n b7 (ap2 (cm+1)) 0
def ES(hO:(List Stmt)→(List Int)→Int→Option ((List Int)×Int))(h8:Stmt→(List Int)→Int→Option ((List Int)×Int))(h9:Stmt→(List Int)→Int→Option ((List Int)×Int))(v6:List Int)(bA:Int):Option ((List Int)×Int):=(lI n ([([125]:ap0)]:List ap0) v6 bA).bind λcy=>some (cy,bA)
def ET(hO:(List Stmt)→(List Int)→Int→Option ((List Int)×Int))(h8:Stmt→(List Int)→Int→Option ((List Int)×Int))(h9:Stmt→(List Int)→Int→Option ((List Int)×Int))(s:Stmt)(b7:List Int)(cm:Int):Option ((List Int)×Int):=(lm n (⟨s.A.Op,s.A.N,s.A.S,s.A.aw⟩:Expr)).bind λah=>(lI n ([([105,102,32]:ap0),ah,([32,123]:ap0)]:List ap0) b7 cm).bind λao=>(hO s.Body ao cm).bind λaB=>cond (decide (0<((s.bX.length:Nat):Int))) ( (lI n ([([125,32,101,108,115,101,32,123]:ap0)]:List ap0) aB.1 aB.2).bind λaR=>(hO s.bX aR aB.2).bind λb5=>ES n hO h8 h9 b5.1 b5.2) ( ES n hO h8 h9 aB.1 aB.2)
def EU(hO:(List Stmt)→(List Int)→Int→Option ((List Int)×Int))(h8:Stmt→(List Int)→Int→Option ((List Int)×Int))(h9:Stmt→(List Int)→Int→Option ((List Int)×Int))(s:Stmt)(b7:List Int)(cm:Int):Option ((List Int)×Int):=(lm n (⟨s.A.Op,s.A.N,s.A.S,s.A.aw⟩:Expr)).bind λah=>(lm n (⟨s.B.Op,s.B.N,s.B.S,s.B.aw⟩:Expr)).bind λao=>(uf n s.Max).bind λaB=>(lI n ([([102,111,114,32]:ap0),s.Name,([32,61,32]:ap0),ah,([32,116,111,32]:ap0),ao,([32,109,97,120,32]:ap0),aB,([32,123]:ap0)]:List ap0) b7 cm).bind λaR=>(hO s.Body aR cm).bind λb5=>(lI n ([([125]:ap0)]:List ap0) b5.1 b5.2).bind λbh=>some (bh,b5.2)
def n_:Nat→((List Stmt)→(List Int)→Int→Option ((List Int)×Int))×(Stmt→(List Int)→Int→Option ((List Int)×Int))×(Stmt→(List Int)→Int→Option ((List Int)×Int))
 | 0=>(λ_ _ _=>none,λ_ _ _=>none,λ_ _ _=>none)
 |m+1=>(ER m ((n_ m).1) ((n_ m).2.1) ((n_ m).2.2),ET m ((n_ m).1) ((n_ m).2.1) ((n_ m).2.2),EU m ((n_ m).1) ((n_ m).2.1) ((n_ m).2.2))
def qa:(List Stmt)→(List Int)→Int→Option ((List Int)×Int):=(n_ n).1
def uh:Stmt→(List Int)→Int→Option ((List Int)×Int):=(n_ n).2.1
def ui:Stmt→(List Int)→Int→Option ((List Int)×Int):=(n_ n).2.2
def EV(n:Nat)(b7:List Int)(cm:Int):Option (ap0×(List Int)):=av (lH b7&&decide (b7.length≤9223372036854775807))<|some (hL b7,b7)
def LK(p:bi)(cZ:List ap0):Option ap0:=(Ed n cZ ([44,32]:ap0)).bind λdP=>(lI n ([([112,114,111,99,32]:ap0),p.Name,([40]:ap0),dP,([41,32,123]:ap0)]:List ap0) ([]:List Int) 0).bind λfs=>(qa n p.Body fs 0).bind λdG=>(lI n ([([125]:ap0)]:List ap0) dG.1 dG.2).bind λeh=>(EV n eh dG.2).bind λfz=>some fz.1
def LL(p:bi)(al:Int→(List ap0)→Option ap0)(v10:Int)(v11:List ap0):Option ap0:=cond (decide (v10<((p.Params.length:Nat):Int))) ( av (aP v10 p.Params.length)<|av (bE (((ap3 p.Params v10).Name).length+([58,32]:ap0).length))<|(EI n ((ap3 p.Params v10).fP)).bind λeC=>av (bE ((((ap3 p.Params v10).Name)++([58,32]:ap0)).length+eC.length))<|av (room (v11.length+([((((ap3 p.Params v10).Name)++([58,32]:ap0))++eC)]:List ap0).length) 16)<|al (ap2 (v10+1)) (v11++([((((ap3 p.Params v10).Name)++([58,32]:ap0))++eC)]:List ap0))) ( LK n p v11)
def Ai(n:Nat)(p:bi):Nat→Int→(List ap0)→Option ap0
 | 0=>λ_ _=>none
 |m+1=>LL n p (Ai n p m)
def se(p:bi):Option ap0:=(z' n p).bind λah=>cond (!decide (ah=0)) ( some ([]:ap0)) ( Ai n p n 0 ([]:List ap0))
def EW(n:Nat)(next:Int):ap5:=some (cond (decide ((ap2 (next-1))<8)) (ap2 (next-1)) 8)
def LM(n:Nat):ap4:=some false
def LN(n:Nat):ap4:=some true
def EX(o:Outcome)(eP:Int→ap4)(v4:Int):ap4:=cond (decide (v4<((o.Out.length:Nat):Int))) ( av (aP v4 o.Out.length)<|(q7 n (ap3 o.Out v4)).bind λbh=>cond (cond (!bh) true (decide ((ap3 o.Out v4).Kind=0))) ( some false) ( eP (ap2 (v4+1)))) ( LN n)
def uj(n:Nat)(o:Outcome):Nat→Int→ap4
 | 0=>λ_=>none
 |m+1=>EX n o (uj n o m)
def Aj(o:Outcome):ap4:=cond (decide (o.Status=1)) ( cond (cond (!decide (o.Code=0)) true (decide (16<((o.Out.length:Nat):Int)))) ( some false) ( uj n o n 0)) ( cond (decide (o.Status=2)) ( some (cond (cond (decide (0≤o.Code)) (decide (o.Code≤1009)) false) (decide (((o.Out.length:Nat):Int)=0)) false)) ( LM n))
def LO(n:Nat):ap4:=some true
def EY(s:bV)(al:Int→ap4)(v6:Int):ap4:=cond (decide (v6<((s.b'.length:Nat):Int))) ( av (aP v6 s.b'.length)<|Option.bind (cond (!(!((decide ((ap3 s.b' v6).Client=s.Client))&&((decide ((ap3 s.b' v6).Seq=(ap2 ((ap2 (s.Next-((s.b'.length:Nat):Int)))+v6))))&&true)))) (Aj n (⟨((ap3 s.b' v6).Outcome).Status,((ap3 s.b' v6).Outcome).Code,((ap3 s.b' v6).Outcome).Out⟩:Outcome)) (some default)) λcy=>cond (cond (!((decide ((ap3 s.b' v6).Client=s.Client))&&((decide ((ap3 s.b' v6).Seq=(ap2 ((ap2 (s.Next-((s.b'.length:Nat):Int)))+v6))))&&true))) true (!cy)) ( some false) ( al (ap2 (v6+1)))) ( LO n)
def wW(n:Nat)(s:bV):Nat→Int→ap4
 | 0=>λ_=>none
 |m+1=>EY n s (wW n s m)
def EZ(s:bV):ap4:=Option.bind (cond (!(cond (cond (cond (decide (s.Client<1)) true (decide (32<s.Client))) true (decide (s.Next<1))) true (decide (1099511627776<s.Next)))) (EW n s.Next) (some default)) λah=>cond (cond (cond (cond (cond (decide (s.Client<1)) true (decide (32<s.Client))) true (decide (s.Next<1))) true (decide (1099511627776<s.Next))) true (!decide (((s.b'.length:Nat):Int)=ah))) ( some false) ( wW n s n 0)
def LP(n:Nat):ap4:=some true
def E0(l:List bV)(al:Int→ap4)(v5:Int):ap4:=cond (decide (v5<((l.length:Nat):Int))) ( av (aP v5 l.length)<|(EZ n (ap3 l v5)).bind λcA=>av ((!cA)||(!(decide (0<v5))||aP (ap2 (v5-1)) l.length))<|cond (cond (!cA) true (cond (decide (0<v5)) (decide ((ap3 l v5).Client≤(ap3 l (ap2 (v5-1))).Client)) false)) ( some false) ( al (ap2 (v5+1)))) ( LP n)
def wX(n:Nat)(l:List bV):Nat→Int→ap4
 | 0=>λ_=>none
 |m+1=>E0 n l (wX n l m)
def sf(l:List bV):ap4:=wX n l n 0
def iW(s:ap0)(b7:List Int):Option (Int×(List Int)):=(wU n b7).bind λah=>av (room (b7.length+s.length) 1)<|some (((s.length:Nat):Int),(b7++s.map λb=>(b.toNat:Int)))
def LQ(E1:List Int):Option ap0:=(p9 n E1).bind λVd=>some Vd.1
def LR(n:Nat)(al:(List Int)→Int→Option ap0)(l:List bV)(fj:Int)(E2:List Int):Option ap0:=al E2 (ap2 (fj+1))
def LS(n:Nat)(dD:(List Int)→Int→Option ap0)(al:(List Int)→Int→Option ap0)(l:List bV)(fj:Int)(h':Int)(v109:List Int):Option ap0:=dD v109 (ap2 (h'+1))
def E3(dD:(List Int)→Int→Option ap0)(al:(List Int)→Int→Option ap0)(l:List bV)(fj:Int)(h':Int)(qb:(List Int)→Int→Option ap0)(Ak:List Int)(uk:Int):Option ap0:=cond (decide (uk<(((((((ap3 l fj).b').getD (h').toNat default).Outcome).Out).length:Nat):Int))) ( av (aP uk (((((ap3 l fj).b').getD (h').toNat default).Outcome).Out).length)<|(uc n ((((((ap3 l fj).b').getD (h').toNat default).Outcome).Out).getD (uk).toNat default)).bind λsg=>(iW n sg Ak).bind λVe=>qb Ve.2 (ap2 (uk+1))) ( LS n dD al l fj h' Ak)
def ul(n:Nat)(dD:(List Int)→Int→Option ap0)(al:(List Int)→Int→Option ap0)(l:List bV)(fj:Int)(h':Int):Nat→(List Int)→Int→Option ap0
 | 0=>λ_ _=>none
 |m+1=>E3 n dD al l fj h' (ul n dD al l fj h' m)
def E4(al:(List Int)→Int→Option ap0)(l:List bV)(fj:Int)(dD:(List Int)→Int→Option ap0)(Al:List Int)(h':Int):Option ap0:=cond (decide (h'<((((ap3 l fj).b').length:Nat):Int))) ( av (aP h' ((ap3 l fj).b').length)<|(gZ n (IntKind.u64.wrap (((((ap3 l fj).b').getD (h').toNat default).Outcome).Status))).bind λwY=>(gZ n (IntKind.u64.wrap (((((ap3 l fj).b').getD (h').toNat default).Outcome).Code))).bind λum=>av (bE (wY.length+um.length))<|(gZ n (IntKind.u64.wrap (((((((ap3 l fj).b').getD (h').toNat default).Outcome).Out).length:Nat):Int))).bind λLT=>av (bE ((wY++um).length+LT.length))<|(iW n ((wY++um)++LT) Al).bind λE5=>ul n dD al l fj h' n E5.2 0) ( LR n al l fj Al)
def un(n:Nat)(al:(List Int)→Int→Option ap0)(l:List bV)(fj:Int):Nat→(List Int)→Int→Option ap0
 | 0=>λ_ _=>none
 |m+1=>E4 n al l fj (un n al l fj m)
def E6(l:List bV)(al:(List Int)→Int→Option ap0)(v59:List Int)(fj:Int):Option ap0:=cond (decide (fj<((l.length:Nat):Int))) ( av (aP fj l.length)<|(gZ n (IntKind.u64.wrap ((ap3 l fj).Client))).bind λLU=>(gZ n (IntKind.u64.wrap ((ap3 l fj).Next))).bind λAm=>av (bE (LU.length+Am.length))<|(iW n (LU++Am) v59).bind λsh=>un n al l fj n sh.2 0) ( LQ n v59)
def wZ(n:Nat)(l:List bV):Nat→(List Int)→Int→Option ap0
 | 0=>λ_ _=>none
 |m+1=>E6 n l (wZ n l m)
def An(l:List bV):Option ap0:=(sf n l).bind λah=>cond (!ah) ( some ([]:ap0)) ( (gZ n (IntKind.u64.wrap ((l.length:Nat):Int))).bind λaB=>(iW n aB ([]:List Int)).bind λaR=>wZ n l n aR.2 0)
def LV(cZ:List Int):Option ap0:=(p9 n cZ).bind λdP=>some dP.1
def E7(l:List aY)(al:(List Int)→Int→Option ap0)(v10:List Int)(v11:Int):Option ap0:=cond (decide (v11<((l.length:Nat):Int))) ( av (aP v11 l.length)<|(nm n ((ap3 l v11).Key)).bind λdz=>(iW n dz v10).bind λeC=>(uc n (⟨((ap3 l v11).bo).Kind,((ap3 l v11).bo).N,((ap3 l v11).bo).S⟩:bG)).bind λdK=>(iW n dK eC.2).bind λdA=>al dA.2 (ap2 (v11+1))) ( LV n v10)
def w0(n:Nat)(l:List aY):Nat→(List Int)→Int→Option ap0
 | 0=>λ_ _=>none
 |m+1=>E7 n l (w0 n l m)
def E8(l:List aY):Option ap0:=(gZ n (IntKind.u64.wrap ((l.length:Nat):Int))).bind λah=>(iW n ah ([]:List Int)).bind λao=>w0 n l n ao.2 0
def Ao(ab:bH)(oa:List Int):Option ap0:=(wI n ab.Queue).bind λAp=>(iW n Ap oa).bind λk1=>(gZ n ab.b2).bind λqc=>(iW n qc k1.2).bind λob=>(p9 n ob.2).bind λAq=>some Aq.1
def E9(ab:bH)(eP:(List Int)→Int→Option ap0)(oc:List Int)(v37:Int):Option ap0:=cond (decide (v37<((ab.bd.length:Nat):Int))) ( av (aP v37 ab.bd.length)<|(nm n ((ap3 ab.bd v37).Key)).bind λo3=>(iW n o3 oc).bind λuo=>(p7 n ((ap3 ab.bd v37).Count)).bind λkD=>(iW n kD uo.2).bind λg'=>eP g'.2 (ap2 (v37+1))) ( Ao n ab oc)
def w1(n:Nat)(ab:bH):Nat→(List Int)→Int→Option ap0
 | 0=>λ_ _=>none
 |m+1=>E9 n ab (w1 n ab m)
def w2(ab:bH)(v22:List Int):Option ap0:=(An n ab.bO).bind λeh=>(iW n eh v22).bind λfz=>(zY n ab.Place).bind λeQ=>(iW n eQ fz.2).bind λfi=>(gZ n (IntKind.u64.wrap ((ab.bd.length:Nat):Int))).bind λdH=>(iW n dH fi.2).bind λlJ=>w1 n ab n lJ.2 0
def E'(ab:bH)(dD:(List Int)→Int→Option ap0)(bS:List Int)(bD:Int):Option ap0:=cond (decide (bD<((ab.bI.length:Nat):Int))) ( av (aP bD ab.bI.length)<|(se n (ap3 ab.bI bD)).bind λeR=>(nm n eR).bind λfJ=>(iW n fJ bS).bind λeO=>dD eO.2 (ap2 (bD+1))) ( w2 n ab bS)
def w3(n:Nat)(ab:bH):Nat→(List Int)→Int→Option ap0
 | 0=>λ_ _=>none
 |m+1=>E' n ab (w3 n ab m)
def w4(ab:bH):Option ap0:=(wL n ab.ar ab.Pos).bind λah=>(p7 n ab.Pos).bind λao=>(iW n ao ([]:List Int)).bind λaB=>(E8 n ah.1).bind λaR=>(iW n aR aB.2).bind λb5=>(gZ n (IntKind.u64.wrap ((ab.bI.length:Nat):Int))).bind λbh=>(iW n bh b5.2).bind λcA=>w3 n ab n cA.2 0
def LW(n:Nat)(cf:Int):ap5:=some cf
def LX(n:Nat)(p:aY):ap4:=some (decide (p.bo.Kind=0))
def LY(n:Nat):ap5:=some (-1)
def E_(s:List aY)(al:Int→ap5)(v4:Int):ap5:=cond (decide (v4<((s.length:Nat):Int))) ( av (aP v4 s.length)<|(LX n (ap3 s v4)).bind λbh=>cond bh ( some v4) ( al (ap2 (v4+1)))) ( LY n)
def w5(n:Nat)(s:List aY):Nat→Int→ap5
 | 0=>λ_=>none
 |m+1=>E_ n s (w5 n s m)
def LZ(s:List aY):ap5:=w5 n s n 0
def L0(s:List aY):ap4:=(LZ n s).bind λah=>some (decide (0≤ah))
def L1(n:Nat):ap4:=some true
def Fa(l:List aY)(al:Int→ap4)(v6:Int):ap4:=cond (decide (v6<((l.length:Nat):Int))) ( av (aP v6 l.length)<|(ub n ((ap3 l v6).Key)).bind λcy=>Option.bind (cond (!(!cy)) (q7 n (⟨((ap3 l v6).bo).Kind,((ap3 l v6).bo).N,((ap3 l v6).bo).S⟩:bG)) (some default)) λcQ=>av ((cond (!cy) true (!cQ))||(!(decide (0<v6))||aP (ap2 (v6-1)) l.length))<|cond (cond (cond (!cy) true (!cQ)) true (cond (decide (0<v6)) (!(Op.bytesLess ((ap3 l (ap2 (v6-1))).Key) ((ap3 l v6).Key))) false)) ( some false) ( al (ap2 (v6+1)))) ( L1 n)
def w6(n:Nat)(l:List aY):Nat→Int→ap4
 | 0=>λ_=>none
 |m+1=>Fa n l (w6 n l m)
def Fb(l:List aY):ap4:=w6 n l n 0
def Ar(l:List aY):ap4:=(Fb n l).bind λah=>Option.bind (cond ah (L0 n l) (some default)) λao=>some (cond ah (!ao) false)
def Vf(n:Nat)(dZ:Int):Option bG:=some (⟨1,dZ,[]⟩:bG)
def L2(n:Nat)(s:ap0)(at_:Int):ap4:=some (cond (decide (at_<0)) true (decide (((s.length:Nat):Int)<at_)))
def Vg(n:Nat):Option (Int×Int×Int):=some (0,0,5)
def Vh(s:ap0)(at_:Int)(al:Int→Int→Option (Int×Int×Int))(bA:Int)(bC:Int):Option (Int×Int×Int):=cond (decide (bA<10)) ( cond (decide (((s.length:Nat):Int)≤(ap2 (at_+bA)))) ( some (0,0,6)) ( av (aP (ap2 (at_+bA)) s.length)<|cond (cond (cond (decide (bA=9)) (decide (1<(((s.getD ((ap2 (at_+bA))).toNat 0).toNat:Nat):Int))) false) true (cond (decide ((((s.getD ((ap2 (at_+bA))).toNat 0).toNat:Nat):Int)=0)) (decide (0<bA)) false)) ( some (0,0,5)) ( av (oA (ap2 (7*bA)))<|cond (decide ((((s.getD ((ap2 (at_+bA))).toNat 0).toNat:Nat):Int)<128)) ( some ((s3 .u64 bC (qF .u64 (IntKind.u64.wrap (vA .u8 (((s.getD ((ap2 (at_+bA))).toNat 0).toNat:Nat):Int) 127)) (ap2 (7*bA)))),(ap2 ((ap2 (at_+bA))+1)),0)) ( al (ap2 (bA+1)) (s3 .u64 bC (qF .u64 (IntKind.u64.wrap (vA .u8 (((s.getD ((ap2 (at_+bA))).toNat 0).toNat:Nat):Int) 127)) (ap2 (7*bA)))))))) ( Vg n)
def L3(n:Nat)(s:ap0)(at_:Int):Nat→Int→Int→Option (Int×Int×Int)
 | 0=>λ_ _=>none
 |m+1=>Vh n s at_ (L3 n s at_ m)
def uq(s:ap0)(at_:Int):Option (Int×Int×Int):=(L2 n s at_).bind λah=>cond ah ( some (0,0,1)) ( L3 n s at_ n 0 0)
def Fc(s:ap0)(at_:Int):Option (Int×Int×Int):=(uq n s at_).bind λah=>cond (!decide (ah.2.2=0)) ( some (0,0,ah.2.2)) ( some ((pC .i64 (ap2 (oz .u64 ah.1 1)) (ap2 (0-(ap2 (vA .u64 ah.1 1))))),ah.2.1,0))
def qd(s:ap0)(at_:Int)(cf:Int):Option (Int×Int×Int):=(uq n s at_).bind λah=>cond (!decide (ah.2.2=0)) ( some (0,0,ah.2.2)) ( cond (cond (decide (cf<0)) true (decide ((IntKind.u64.wrap cf)<ah.1))) ( some (0,0,2)) ( cond (decide ((IntKind.u64.wrap (ap2 (((s.length:Nat):Int)-ah.2.1)))<ah.1)) ( some (0,0,6)) ( some ((ap2 ah.1),ah.2.1,0))))
def ur(s:ap0)(at_:Int)(cf:Int):Option (ap0×Int×Int):=(qd n s at_ cf).bind λah=>cond (!decide (ah.2.2=0)) ( some (([]:ap0),0,ah.2.2)) ( av (nK ah.2.1 (ap2 (ah.2.1+ah.1)) s.length)<|some (((s.take ((ap2 (ah.2.1+ah.1))).toNat).drop (ah.2.1).toNat),(ap2 (ah.2.1+ah.1)),0))
def L4(n:Nat)(cQ:ap0×Int×Int)(v11:Int):Option (bG×Int×Int):=cond (!decide (v11=0)) ( some ((⟨0,0,[]⟩:bG),0,v11)) ( some ((⟨2,0,cQ.1⟩:bG),cQ.2.1,0))
def Fd(s:ap0)(at_:Int):Option (bG×Int×Int):=(uq n s at_).bind λah=>cond (!decide (ah.2.2=0)) ( some ((⟨0,0,[]⟩:bG),0,ah.2.2)) ( cond (decide (ah.1=0)) ( some ((⟨0,0,[]⟩:bG),ah.2.1,0)) ( cond (decide (ah.1=1)) ( (Fc n s ah.2.1).bind λb5=>cond (!decide (b5.2.2=0)) ( some ((⟨0,0,[]⟩:bG),0,b5.2.2)) ( (Vf n b5.1).bind λcA=>some (cA,b5.2.1,0))) ( cond (decide (ah.1=2)) ( (ur n s ah.2.1 64).bind λcQ=>Option.bind (cond (decide (cQ.2.2=0)) (zQ n cQ.1) (some default)) λeo=>cond (cond (decide (cQ.2.2=0)) (!eo) false) ( L4 n cQ 5) ( L4 n cQ cQ.2.2)) ( some ((⟨0,0,[]⟩:bG),0,5)))))
def Vi(cl:Int)(cZ:List aY):Option ((List aY)×Int×Int):=(Ar n cZ).bind λdP=>cond (!dP) ( some (([]:List aY),0,5)) ( some (cZ,cl,0))
def Vj(s:ap0)(ah:Int×Int×Int)(al:Int→Int→(List aY)→Option ((List aY)×Int×Int))(v9:Int)(v10:Int)(v11:List aY):Option ((List aY)×Int×Int):=cond (decide (v10<ah.1)) ( (ur n s v9 24).bind λfu=>cond (!decide (fu.2.2=0)) ( some (([]:List aY),0,fu.2.2)) ( (Fd n s fu.2.1).bind λdz=>cond (!decide (dz.2.2=0)) ( some (([]:List aY),0,dz.2.2)) ( av (room (v11.length+([(⟨fu.1,dz.1⟩:aY)]:List aY).length) 48)<|al dz.2.1 (ap2 (v10+1)) (v11++([(⟨fu.1,dz.1⟩:aY)]:List aY))))) ( Vi n v9 v11)
def L5(n:Nat)(s:ap0)(ah:Int×Int×Int):Nat→Int→Int→(List aY)→Option ((List aY)×Int×Int)
 | 0=>λ_ _ _=>none
 |m+1=>Vj n s ah (L5 n s ah m)
def Vk(s:ap0)(at_:Int):Option ((List aY)×Int×Int):=(qd n s at_ 2147483647).bind λah=>cond (!decide (ah.2.2=0)) ( some (([]:List aY),0,ah.2.2)) ( L5 n s ah n ah.2.1 0 ([]:List aY))
def Vl(ai:gc):Option ((List aY)×Int×Int):=cond (!decide (ai.e=0)) ( some (([]:List aY),ai.at_,ai.e)) ( (Vk n ai.s ai.at_).bind λao=>cond (!decide (ao.2.2=0)) ( some (([]:List aY),ai.at_,ao.2.2)) ( some (ao.1,ao.2.1,ao.2.2)))
def L6(n:Nat)(s:ap0):ap4:=some (decide (((s.length:Nat):Int)≤24))
def Fe(s:ap0)(al:Int→ap4)(v4:Int):ap4:=cond (decide (v4<((s.length:Nat):Int))) ( av (aP v4 s.length)<|av ((decide ((((s.getD (v4).toNat 0).toNat:Nat):Int)<33))||aP v4 s.length)<|cond (cond (decide ((((s.getD (v4).toNat 0).toNat:Nat):Int)<33)) true (decide (126<(((s.getD (v4).toNat 0).toNat:Nat):Int)))) ( some false) ( al (ap2 (v4+1)))) ( L6 n s)
def w7(n:Nat)(s:ap0):Nat→Int→ap4
 | 0=>λ_=>none
 |m+1=>Fe n s (w7 n s m)
def As(s:ap0):ap4:=w7 n s n 0
def L7(n:Nat)(x:Part)(ai:Int):ap4:=some (decide (x.Id=ai))
def L8(n:Nat)(ai:Int):ap5:=some (-1)
def Ff(s:List Part)(ai:Int)(al:Int→ap5)(v4:Int):ap5:=cond (decide (v4<((s.length:Nat):Int))) ( av (aP v4 s.length)<|(L7 n (ap3 s v4) ai).bind λbh=>cond bh ( some v4) ( al (ap2 (v4+1)))) ( L8 n ai)
def w8(n:Nat)(s:List Part)(ai:Int):Nat→Int→ap5
 | 0=>λ_=>none
 |m+1=>Ff n s ai (w8 n s ai m)
def L9(s:List Part)(ai:Int):ap5:=w8 n s ai n 0
def L'(l:List Part)(id:Int):ap5:=(L9 n l id).bind λah=>some ah
def At(n:Nat)(dZ:Int):ap4:=some (cond (decide (1≤dZ)) (decide (dZ≤16)) false)
def L_(n:Nat)(dZ:Int):ap4:=some (cond (decide (1≤dZ)) (decide (dZ≤1099511627776)) false)
def Fg(l:List Part)(i:Int):ap4:=av (aP i l.length)<|cond (decide ((ap3 l i).fy=0)) ( some (decide (((ap3 l i).dE)=([]:ap0)))) ( (At n ((ap3 l i).fy)).bind λaB=>Option.bind (cond (cond aB (!decide ((ap3 l i).fy=(ap3 l i).Node)) false) (As n ((ap3 l i).dE)) (some default)) λaR=>av (!(cond (cond (cond aB (!decide ((ap3 l i).fy=(ap3 l i).Node)) false) aR false) (!(Op.bytesLess ((ap3 l i).dE) ((ap3 l i).dO))) false)||((decide ((ap2 (i+1))=((l.length:Nat):Int)))||aP (ap2 (i+1)) l.length))<|some (cond (cond (cond (cond aB (!decide ((ap3 l i).fy=(ap3 l i).Node)) false) aR false) (!(Op.bytesLess ((ap3 l i).dE) ((ap3 l i).dO))) false) (cond (decide ((ap2 (i+1))=((l.length:Nat):Int))) true (Op.bytesLess ((ap3 l i).dE) ((ap3 l (ap2 (i+1))).dO))) false))
def Ma(n:Nat):ap4:=some true
def Fh(p:b1)(al:Int→ap4)(v12:Int):ap4:=cond (decide (v12<((p.aF.length:Nat):Int))) ( av (aP v12 p.aF.length)<|Option.bind (cond (decide (0<v12)) (As n ((ap3 p.aF v12).dO)) (some default)) λeC=>av (!(decide (0<v12))||((!eC)||aP (ap2 (v12-1)) p.aF.length))<|cond (cond (decide (0<v12)) (cond (!eC) true ((Op.bytesLess ((ap3 p.aF v12).dO) ((ap3 p.aF (ap2 (v12-1))).dO))||(decide (((ap3 p.aF v12).dO)=((ap3 p.aF (ap2 (v12-1))).dO))))) false) ( some false) ( (L_ n ((ap3 p.aF v12).Id)).bind λdA=>Option.bind (cond (!(!dA)) (At n ((ap3 p.aF v12).Node)) (some default)) λeR=>Option.bind (cond (!(cond (!dA) true (!eR))) (Fg n p.aF v12) (some default)) λfJ=>av ((cond (cond (!dA) true (!eR)) true (!fJ))||gP v12 p.aF.length)<|Option.bind (cond (!(cond (cond (!dA) true (!eR)) true (!fJ))) (L' n (p.aF.take (v12).toNat) ((ap3 p.aF v12).Id)) (some default)) λdP=>cond (cond (cond (cond (!dA) true (!eR)) true (!fJ)) true (decide (0≤dP))) ( some false) ( al (ap2 (v12+1))))) ( Ma n)
def ut(n:Nat)(p:b1):Nat→Int→ap4
 | 0=>λ_=>none
 |m+1=>Fh n p (ut n p m)
def Au(p:b1):ap4:=av ((cond (cond (cond (decide (p.Version<0)) true (decide (1099511627776<p.Version))) true (decide (((p.aF.length:Nat):Int)<1))) true (decide (16<((p.aF.length:Nat):Int))))||aP 0 p.aF.length)<|cond (cond (cond (cond (cond (decide (p.Version<0)) true (decide (1099511627776<p.Version))) true (decide (((p.aF.length:Nat):Int)<1))) true (decide (16<((p.aF.length:Nat):Int)))) true (!(decide (((p.aF.getD 0 default).dO)=([]:ap0))))) ( some false) ( ut n p n 0)
def Av(ai:n7):Option (Int×Int×Int):=cond (!decide (ai.e=0)) ( some (0,ai.at_,ai.e)) ( (Fc n ai.s ai.at_).bind λao=>some (ao.1,ao.2.1,ao.2.2))
def Mb(ai:n7):Option (ap0×Int×Int):=cond (!decide (ai.e=0)) ( some (([]:ap0),ai.at_,ai.e)) ( (ur n ai.s ai.at_ 24).bind λao=>some (ao.1,ao.2.1,ao.2.2))
def Mc(n:Nat)(s:ap0)(v28:Int)(ah:Int×Int×Int)(v30:List Part)(ka:Int):Option (b1×Int×Int):=cond (!decide (ka=0)) ( some ((⟨0,[]⟩:b1),0,ka)) ( some ((⟨ah.1,v30⟩:b1),v28,0))
def Vm(s:ap0)(ah:Int×Int×Int)(v28:Int)(fA:Int)(v30:List Part):Option (b1×Int×Int):=Option.bind (cond (decide (fA=0)) (Au n (⟨ah.1,v30⟩:b1)) (some default)) λgd=>cond (cond (decide (fA=0)) (!gd) false) ( Mc n s v28 ah v30 5) ( Mc n s v28 ah v30 fA)
def Vn(aB:Int×Int×Int)(s:ap0)(ah:Int×Int×Int)(eP:Int→Int→(List Part)→Int→Option (b1×Int×Int))(bS:Int)(bD:Int)(cV:List Part)(aX:Int):Option (b1×Int×Int):=cond (decide (aX<aB.1)) ( (Av n (⟨s,bS,bD⟩:n7)).bind λfJ=>(Mb n (⟨s,fJ.2.1,fJ.2.2⟩:n7)).bind λeO=>(Av n (⟨s,eO.2.1,eO.2.2⟩:n7)).bind λdP=>(Av n (⟨s,dP.2.1,dP.2.2⟩:n7)).bind λfs=>(Mb n (⟨s,fs.2.1,fs.2.2⟩:n7)).bind λdG=>av (room (cV.length+([(⟨fJ.1,eO.1,dP.1,fs.1,dG.1⟩:Part)]:List Part).length) 56)<|eP dG.2.1 dG.2.2 (cV++([(⟨fJ.1,eO.1,dP.1,fs.1,dG.1⟩:Part)]:List Part)) (ap2 (aX+1))) ( Vm n s ah bS bD cV)
def Md(n:Nat)(aB:Int×Int×Int)(s:ap0)(ah:Int×Int×Int):Nat→Int→Int→(List Part)→Int→Option (b1×Int×Int)
 | 0=>λ_ _ _ _=>none
 |m+1=>Vn n aB s ah (Md n aB s ah m)
def Vo(s:ap0)(at_:Int):Option (b1×Int×Int):=(Av n (⟨s,at_,0⟩:n7)).bind λah=>cond (!decide (ah.2.2=0)) ( some ((⟨0,[]⟩:b1),0,ah.2.2)) ( (qd n s ah.2.1 16).bind λaB=>Md n aB s ah n aB.2.1 aB.2.2 ([]:List Part) 0)
def Vp(ai:gc):Option (b1×Int×Int):=cond (!decide (ai.e=0)) ( some ((⟨0,[]⟩:b1),ai.at_,ai.e)) ( (Vo n ai.s ai.at_).bind λao=>cond (!decide (ao.2.2=0)) ( some ((⟨0,[]⟩:b1),ai.at_,ao.2.2)) ( some (ao.1,ao.2.1,ao.2.2)))
def w9(n:Nat)(next:Int)(e:Int)(ai:hM):Option (Int×Int):=some (next,e)
def Me(cf:Int)(ai:hM):Option (Int×Int×Int):=cond (!decide (ai.e=0)) ( some (0,ai.at_,ai.e)) ( (qd n ai.s ai.at_ cf).bind λao=>(w9 n ao.2.1 ao.2.2 ai).bind λaB=>some (ao.1,aB.1,aB.2))
def Vq(s:ap0)(at_:Int):Option (Bool×Int×Int):=(L2 n s at_).bind λah=>cond ah ( some (false,0,1)) ( cond (decide (at_=((s.length:Nat):Int))) ( some (false,0,6)) ( av (aP at_ s.length)<|cond (decide (1<(((s.getD (at_).toNat 0).toNat:Nat):Int))) ( some (false,0,5)) ( av (aP at_ s.length)<|some ((decide ((((s.getD (at_).toNat 0).toNat:Nat):Int)=1)),(ap2 (at_+1)),0))))
def Vr(ai:hM):Option (Bool×Int×Int):=cond (!decide (ai.e=0)) ( some (false,ai.at_,ai.e)) ( (Vq n ai.s ai.at_).bind λao=>(w9 n ao.2.1 ao.2.2 ai).bind λaB=>some (ao.1,aB.1,aB.2))
def Mf(cf:Int)(ai:hM):Option (ap0×Int×Int):=cond (!decide (ai.e=0)) ( some (([]:ap0),ai.at_,ai.e)) ( (ur n ai.s ai.at_ cf).bind λao=>(w9 n ao.2.1 ao.2.2 ai).bind λaB=>some (ao.1,aB.1,aB.2))
def Vs(n:Nat)(ai:hM)(cl:Int)(cZ:Int)(v20:List ap0):Option ((List ap0)×Int×Int):=some (v20,cl,cZ)
def Vt(ah:Int×Int×Int)(ai:hM)(al:Int→Int→(List ap0)→Int→Option ((List ap0)×Int×Int))(bC:Int)(v9:Int)(v10:List ap0)(v11:Int):Option ((List ap0)×Int×Int):=cond (decide (v11<ah.1)) ( (Mf n 24 (⟨ai.s,bC,v9⟩:hM)).bind λfu=>av (room (v10.length+([fu.1]:List ap0).length) 16)<|al fu.2.1 fu.2.2 (v10++([fu.1]:List ap0)) (ap2 (v11+1))) ( Vs n ai bC v9 v10)
def Mg(n:Nat)(ah:Int×Int×Int)(ai:hM):Nat→Int→Int→(List ap0)→Int→Option ((List ap0)×Int×Int)
 | 0=>λ_ _ _ _=>none
 |m+1=>Vt n ah ai (Mg n ah ai m)
def Mh(ai:hM):Option ((List ap0)×Int×Int):=(Me n 64 ai).bind λah=>Mg n ah ai n ah.2.1 ah.2.2 ([]:List ap0) 0
def Mi(ai:hM):Option (Int×Int×Int):=cond (!decide (ai.e=0)) ( some (0,ai.at_,ai.e)) ( (uq n ai.s ai.at_).bind λao=>(w9 n ao.2.1 ao.2.2 ai).bind λaB=>some (ao.1,aB.1,aB.2))
def Vu(ai:hM):Option (bG×Int×Int):=cond (!decide (ai.e=0)) ( some ((⟨0,0,[]⟩:bG),ai.at_,ai.e)) ( (Fd n ai.s ai.at_).bind λao=>(w9 n ao.2.1 ao.2.2 ai).bind λaB=>some (ao.1,aB.1,aB.2))
def Mj(ah:Int×Int×Int)(ao:Int×Int×Int)(s:ap0)(aB:ap0×Int×Int)(v23:List bG)(fz:Bool×Int×Int)(mI:Int)(v28:Int)(fA:List ap0)(v30:List ap0):Option (Request×Int×Int):=cond (!decide (v28=0)) ( some ((⟨0,0,[],[],false,⟨false,[],[]⟩⟩:Request),0,v28)) ( cond (cond (decide (32<ah.1)) true (decide (1099511627776<ao.1))) ( some ((⟨0,0,[],[],false,⟨false,[],[]⟩⟩:Request),0,5)) ( (o0 n (⟨(ap2 ah.1),(ap2 ao.1),aB.1,v23,fz.1,⟨false,fA,v30⟩⟩:Request)).bind λn9=>cond (!decide (n9=0)) ( some ((⟨0,0,[],[],false,⟨false,[],[]⟩⟩:Request),0,5)) ( some ((⟨(ap2 ah.1),(ap2 ao.1),aB.1,v23,fz.1,⟨false,fA,v30⟩⟩:Request),mI,0))))
def Vv(ah:Int×Int×Int)(ao:Int×Int×Int)(s:ap0)(aB:ap0×Int×Int)(v21:Int)(v22:Int)(v23:List bG):Option (Request×Int×Int):=(Vr n (⟨s,v21,v22⟩:hM)).bind λfz=>cond fz.1 ( (Mh n (⟨s,fz.2.1,fz.2.2⟩:hM)).bind λeQ=>(Mh n (⟨s,eQ.2.1,eQ.2.2⟩:hM)).bind λfi=>Mj n ah ao s aB v23 fz fi.2.1 fi.2.2 eQ.1 fi.1) ( Mj n ah ao s aB v23 fz fz.2.1 fz.2.2 ([]:List ap0) ([]:List ap0))
def Vw(ah:Int×Int×Int)(ao:Int×Int×Int)(aR:Int×Int×Int)(s:ap0)(aB:ap0×Int×Int)(eP:Int→Int→(List bG)→Int→Option (Request×Int×Int))(v11:Int)(v12:Int)(ch:List bG)(bS:Int):Option (Request×Int×Int):=cond (decide (bS<aR.1)) ( (Vu n (⟨s,v11,v12⟩:hM)).bind λdK=>av (room (ch.length+([dK.1]:List bG).length) 32)<|eP dK.2.1 dK.2.2 (ch++([dK.1]:List bG)) (ap2 (bS+1))) ( Vv n ah ao s aB v11 v12 ch)
def Mk(n:Nat)(ah:Int×Int×Int)(ao:Int×Int×Int)(aR:Int×Int×Int)(s:ap0)(aB:ap0×Int×Int):Nat→Int→Int→(List bG)→Int→Option (Request×Int×Int)
 | 0=>λ_ _ _ _=>none
 |m+1=>Vw n ah ao aR s aB (Mk n ah ao aR s aB m)
def Vx(s:ap0)(at_:Int):Option (Request×Int×Int):=(Mi n (⟨s,at_,0⟩:hM)).bind λah=>(Mi n (⟨s,ah.2.1,ah.2.2⟩:hM)).bind λao=>(Mf n 16 (⟨s,ao.2.1,ao.2.2⟩:hM)).bind λaB=>(Me n 6 (⟨s,aB.2.1,aB.2.2⟩:hM)).bind λaR=>Mk n ah ao aR s aB n aR.2.1 aR.2.2 ([]:List bG) 0
def Vy(n:Nat)(cV:List Request)(aX:Int):Option ((List Request)×Int×Int):=some (cV,aX,0)
def Vz(s:ap0)(ah:Int×Int×Int)(al:(List Request)→Int→Int→Option ((List Request)×Int×Int))(bC:List Request)(v9:Int)(v10:Int):Option ((List Request)×Int×Int):=cond (decide (v9<ah.1)) ( (Vx n s v10).bind λb6=>cond (!decide (b6.2.2=0)) ( some (([]:List Request),0,b6.2.2)) ( av (room (bC.length+([b6.1]:List Request).length) 120)<|al (bC++([b6.1]:List Request)) (ap2 (v9+1)) b6.2.1)) ( Vy n bC v10)
def Ml(n:Nat)(s:ap0)(ah:Int×Int×Int):Nat→(List Request)→Int→Int→Option ((List Request)×Int×Int)
 | 0=>λ_ _ _=>none
 |m+1=>Vz n s ah (Ml n s ah m)
def VA(s:ap0)(at_:Int):Option ((List Request)×Int×Int):=(qd n s at_ 64).bind λah=>cond (!decide (ah.2.2=0)) ( some (([]:List Request),0,ah.2.2)) ( Ml n s ah n ([]:List Request) 0 ah.2.1)
def VB(ai:gc):Option ((List Request)×Int×Int):=cond (!decide (ai.e=0)) ( some (([]:List Request),ai.at_,ai.e)) ( (VA n ai.s ai.at_).bind λao=>cond (!decide (ao.2.2=0)) ( some (([]:List Request),ai.at_,ao.2.2)) ( some (ao.1,ao.2.1,ao.2.2)))
def Mm(n:Nat)(ao:Int×Int×Int)(ai:kC)(v3:Int):Option (Int×Int×Int):=cond (!decide (v3=0)) ( some (0,ai.at_,v3)) ( some ((ap2 ao.1),ao.2.1,v3))
def Aw(least:Int)(cf:Int)(ai:kC):Option (Int×Int×Int):=cond (!decide (ai.e=0)) ( some (0,ai.at_,ai.e)) ( (uq n ai.s ai.at_).bind λao=>cond (cond (decide (ao.2.2=0)) (cond (decide (ao.1<least)) true (decide (cf<ao.1))) false) ( Mm n ao ai 5) ( Mm n ao ai ao.2.2))
def VC(n:Nat)(ai:kC)(ah:Int×Int×Int)(ao:Int×Int×Int)(v21:Int)(v22:Int)(v23:List bG):Option (Outcome×Int×Int):=some ((⟨ah.1,ao.1,v23⟩:Outcome),v21,v22)
def VD(aR:Int×Int×Int)(ai:kC)(ah:Int×Int×Int)(ao:Int×Int×Int)(al:Int→Int→(List bG)→Int→Option (Outcome×Int×Int))(v11:Int)(v12:Int)(ch:List bG)(bS:Int):Option (Outcome×Int×Int):=cond (cond (decide (bS<aR.1)) (decide (v12=0)) false) ( (Fd n ai.s v11).bind λdK=>av (room (ch.length+([dK.1]:List bG).length) 32)<|al dK.2.1 dK.2.2 (ch++([dK.1]:List bG)) (ap2 (bS+1))) ( VC n ai ah ao v11 v12 ch)
def Mn(n:Nat)(aR:Int×Int×Int)(ai:kC)(ah:Int×Int×Int)(ao:Int×Int×Int):Nat→Int→Int→(List bG)→Int→Option (Outcome×Int×Int)
 | 0=>λ_ _ _ _=>none
 |m+1=>VD n aR ai ah ao (Mn n aR ai ah ao m)
def VE(ai:kC):Option (Outcome×Int×Int):=(Aw n 0 9999 ai).bind λah=>(Aw n 0 9999 (⟨ai.s,ah.2.1,ah.2.2⟩:kC)).bind λao=>cond (!decide (ao.2.2=0)) ( some ((⟨ah.1,ao.1,[]⟩:Outcome),ao.2.1,ao.2.2)) ( (qd n ai.s ao.2.1 16).bind λaR=>Mn n aR ai ah ao n aR.2.1 aR.2.2 ([]:List bG) 0)
def VF(n:Nat)(ai:kC)(ah:Int×Int×Int)(ao:Int×Int×Int)(v21:Int)(v22:Int)(v23:List eI):Option (bV×Int×Int):=some ((⟨ah.1,ao.1,v23⟩:bV),v21,v22)
def VG(aR:Int)(ai:kC)(ah:Int×Int×Int)(ao:Int×Int×Int)(al:Int→Int→(List eI)→Int→Option (bV×Int×Int))(v11:Int)(v12:Int)(ch:List eI)(bS:Int):Option (bV×Int×Int):=cond (cond (decide (bS<aR)) (decide (v12=0)) false) ( (VE n (⟨ai.s,v11,v12⟩:kC)).bind λdK=>av (room (ch.length+([(⟨ah.1,(ap2 (ao.1-(ap2 (aR-bS)))),dK.1⟩:eI)]:List eI).length) 56)<|al dK.2.1 dK.2.2 (ch++([(⟨ah.1,(ap2 (ao.1-(ap2 (aR-bS)))),dK.1⟩:eI)]:List eI)) (ap2 (bS+1))) ( VF n ai ah ao v11 v12 ch)
def Mo(n:Nat)(aR:Int)(ai:kC)(ah:Int×Int×Int)(ao:Int×Int×Int):Nat→Int→Int→(List eI)→Int→Option (bV×Int×Int)
 | 0=>λ_ _ _ _=>none
 |m+1=>VG n aR ai ah ao (Mo n aR ai ah ao m)
def VH(ai:kC):Option (bV×Int×Int):=(Aw n 1 32 ai).bind λah=>(Aw n 1 1099511627776 (⟨ai.s,ah.2.1,ah.2.2⟩:kC)).bind λao=>cond (!decide (ao.2.2=0)) ( some ((⟨ah.1,ao.1,[]⟩:bV),ao.2.1,ao.2.2)) ( (EW n ao.1).bind λaR=>Mo n aR ai ah ao n ao.2.1 ao.2.2 ([]:List eI) 0)
def VI(s:ap0)(cZ:Int)(v20:Int)(v21:List bV):Option ((List bV)×Int×Int):=cond (!decide (v20=0)) ( some (([]:List bV),0,v20)) ( (sf n v21).bind λeh=>cond (!eh) ( some (([]:List bV),0,5)) ( some (v21,cZ,0)))
def VJ(ah:Int×Int×Int)(s:ap0)(al:Int→Int→(List bV)→Int→Option ((List bV)×Int×Int))(v9:Int)(v10:Int)(v11:List bV)(v12:Int):Option ((List bV)×Int×Int):=cond (cond (decide (v12<ah.1)) (decide (v10=0)) false) ( (VH n (⟨s,v9,v10⟩:kC)).bind λdz=>av (room (v11.length+([dz.1]:List bV).length) 40)<|al dz.2.1 dz.2.2 (v11++([dz.1]:List bV)) (ap2 (v12+1))) ( VI n s v9 v10 v11)
def Mp(n:Nat)(ah:Int×Int×Int)(s:ap0):Nat→Int→Int→(List bV)→Int→Option ((List bV)×Int×Int)
 | 0=>λ_ _ _ _=>none
 |m+1=>VJ n ah s (Mp n ah s m)
def VK(s:ap0)(at_:Int):Option ((List bV)×Int×Int):=(qd n s at_ 32).bind λah=>cond (!decide (ah.2.2=0)) ( some (([]:List bV),0,ah.2.2)) ( Mp n ah s n ah.2.1 0 ([]:List bV) 0)
def VL(ai:gc):Option ((List bV)×Int×Int):=cond (!decide (ai.e=0)) ( some (([]:List bV),ai.at_,ai.e)) ( (VK n ai.s ai.at_).bind λao=>cond (!decide (ao.2.2=0)) ( some (([]:List bV),ai.at_,ao.2.2)) ( some (ao.1,ao.2.1,ao.2.2)))
def VM(s:ap0)(at_:Int)(a2:Int):Option (Int×Int×Int):=(qd n s at_ a2).bind λah=>some (ah.1,ah.2.1,ah.2.2)
def Mq(p:Int)(ai:gc):Option (Int×Int×Int):=cond (!decide (ai.e=0)) ( some (0,ai.at_,ai.e)) ( (VM n ai.s ai.at_ p).bind λao=>cond (!decide (ao.2.2=0)) ( some (0,ai.at_,ao.2.2)) ( some (ao.1,ao.2.1,ao.2.2)))
def Mr(ai:gc):Option (Int×Int×Int):=cond (!decide (ai.e=0)) ( some (0,ai.at_,ai.e)) ( (Fc n ai.s ai.at_).bind λao=>cond (!decide (ao.2.2=0)) ( some (0,ai.at_,ao.2.2)) ( some (ao.1,ao.2.1,ao.2.2)))
def VN(s:ap0)(at_:Int)(a2:Int):Option (ap0×Int×Int):=(ur n s at_ a2).bind λah=>some (ah.1,ah.2.1,ah.2.2)
def Ms(p:Int)(ai:gc):Option (ap0×Int×Int):=cond (!decide (ai.e=0)) ( some (([]:ap0),ai.at_,ai.e)) ( (VN n ai.s ai.at_ p).bind λao=>cond (!decide (ao.2.2=0)) ( some (([]:ap0),ai.at_,ao.2.2)) ( some (ao.1,ao.2.1,ao.2.2)))
def VO(ai:gc):Option (Int×Int×Int):=cond (!decide (ai.e=0)) ( some (0,ai.at_,ai.e)) ( (uq n ai.s ai.at_).bind λao=>cond (!decide (ao.2.2=0)) ( some (0,ai.at_,ao.2.2)) ( some (ao.1,ao.2.1,ao.2.2)))
def Mt(n:Nat)(cf:Int):ap5:=some cf
def VP(ai:gc)(ah:Int×Int×Int)(fi:(List bV)×Int×Int)(dH:b1×Int×Int)(ao:(List aY)×Int×Int)(v25:List ap0)(Fj:Int)(v51:Int)(Fk:List bd):Option (n6×Int×Int):=(VB n (⟨ai.s,Fj,v51⟩:gc)).bind λw_=>(VO n (⟨ai.s,w_.2.1,w_.2.2⟩:gc)).bind λkE=>some ((⟨⟨ah.1,⟨0,0,[]⟩,[],fi.1,dH.1,Fk,w_.1,kE.1⟩,ao.1,v25⟩:n6),kE.2.1,kE.2.2)
def VQ(ai:gc)(ah:Int×Int×Int)(fi:(List bV)×Int×Int)(dH:b1×Int×Int)(ao:(List aY)×Int×Int)(v25:List ap0)(eP:Int→Int→(List bd)→Int→Option (n6×Int×Int))(h_:Int)(ln:Int)(v40:List bd)(jF:Int):Option (n6×Int×Int):=cond (cond (decide (0<jF)) (decide (ln=0)) false) ( (Mt n 24).bind λg'=>(Ms n g' (⟨ai.s,h_,ln⟩:gc)).bind λnq=>(Mr n (⟨ai.s,nq.2.1,nq.2.2⟩:gc)).bind λgp=>av (room (v40.length+([(⟨nq.1,gp.1⟩:bd)]:List bd).length) 24)<|eP gp.2.1 gp.2.2 (v40++([(⟨nq.1,gp.1⟩:bd)]:List bd)) (ap2 (jF-1))) ( VP n ai ah fi dH ao v25 h_ ln v40)
def Mu(n:Nat)(ai:gc)(ah:Int×Int×Int)(fi:(List bV)×Int×Int)(dH:b1×Int×Int)(ao:(List aY)×Int×Int)(v25:List ap0):Nat→Int→Int→(List bd)→Int→Option (n6×Int×Int)
 | 0=>λ_ _ _ _=>none
 |m+1=>VQ n ai ah fi dH ao v25 (Mu n ai ah fi dH ao v25 m)
def VR(ai:gc)(ah:Int×Int×Int)(ao:(List aY)×Int×Int)(v23:Int)(v24:Int)(v25:List ap0):Option (n6×Int×Int):=(VL n (⟨ai.s,v23,v24⟩:gc)).bind λfi=>(Vp n (⟨ai.s,fi.2.1,fi.2.2⟩:gc)).bind λdH=>(LW n 32).bind λlJ=>(Mq n lJ (⟨ai.s,dH.2.1,dH.2.2⟩:gc)).bind λfC=>Mu n ai ah fi dH ao v25 n fC.2.1 fC.2.2 ([]:List bd) fC.1
def VS(ai:gc)(ah:Int×Int×Int)(ao:(List aY)×Int×Int)(dD:Int→Int→(List ap0)→Int→Option (n6×Int×Int))(v12:Int)(ch:Int)(bS:List ap0)(bD:Int):Option (n6×Int×Int):=cond (cond (decide (0<bD)) (decide (ch=0)) false) ( (Mt n 16384).bind λdA=>(Ms n dA (⟨ai.s,v12,ch⟩:gc)).bind λeR=>av (room (bS.length+([eR.1]:List ap0).length) 16)<|dD eR.2.1 eR.2.2 (bS++([eR.1]:List ap0)) (ap2 (bD-1))) ( VR n ai ah ao v12 ch bS)
def Mv(n:Nat)(ai:gc)(ah:Int×Int×Int)(ao:(List aY)×Int×Int):Nat→Int→Int→(List ap0)→Int→Option (n6×Int×Int)
 | 0=>λ_ _ _ _=>none
 |m+1=>VS n ai ah ao (Mv n ai ah ao m)
def VT(ai:gc):Option (n6×Int×Int):=(Mr n ai).bind λah=>(Vl n (⟨ai.s,ah.2.1,ah.2.2⟩:gc)).bind λao=>(LW n 16).bind λaB=>(Mq n aB (⟨ai.s,ao.2.1,ao.2.2⟩:gc)).bind λaR=>Mv n ai ah ao n aR.2.1 aR.2.2 ([]:List ap0) aR.1
def Mw(n:Nat):Option (ap0×Int×Int):=some (([]:ap0),0,6)
def VU(n:Nat)(al:(List Int)→Int→Option (ap0×Int×Int))(s:ap0)(cZ:List Int)(v20:Int):Option (ap0×Int×Int):=al cZ (ap2 (v20+1))
def Mx(al:(List Int)→Int→Option (ap0×Int×Int))(s:ap0)(v11:List Int)(cV:Int)(aX:Int):Option (ap0×Int×Int):=cond (cond (decide (aX<32)) true (decide (126<aX))) ( some (([]:ap0),0,5)) ( cond (decide (((v11.length:Nat):Int)=64)) ( some (([]:ap0),0,2)) ( av (room (v11.length+([aX]:List Int).length) 1)<|VU n al s (v11++([aX]:List Int)) cV))
def VV(s:ap0)(al:(List Int)→Int→Option (ap0×Int×Int))(v11:List Int)(v12:Int):Option (ap0×Int×Int):=cond (decide (v12<((s.length:Nat):Int))) ( av (aP v12 s.length)<|cond (decide ((((s.getD (v12).toNat 0).toNat:Nat):Int)=34)) ( av (lH v11)<|some ((hL v11),(ap2 (v12+1)),0)) ( cond (decide ((((s.getD (v12).toNat 0).toNat:Nat):Int)=92)) ( cond (decide ((ap2 (v12+1))=((s.length:Nat):Int))) ( Mw n) ( av (aP (ap2 (v12+1)) s.length)<|cond (cond (!decide ((((s.getD ((ap2 (v12+1))).toNat 0).toNat:Nat):Int)=34)) (!decide ((((s.getD ((ap2 (v12+1))).toNat 0).toNat:Nat):Int)=92)) false) ( some (([]:ap0),0,5)) ( Mx n al s v11 (ap2 (v12+1)) (((s.getD ((ap2 (v12+1))).toNat 0).toNat:Nat):Int)))) ( Mx n al s v11 v12 (((s.getD (v12).toNat 0).toNat:Nat):Int)))) ( Mw n)
def My(n:Nat)(s:ap0):Nat→(List Int)→Int→Option (ap0×Int×Int)
 | 0=>λ_ _=>none
 |m+1=>VV n s (My n s m)
def VW(s:ap0):Option (ap0×Int×Int):=My n s n ([]:List Int) 1
def VX(s:ap0)(c:Int):ap5:=(KL n s c).bind λah=>some ah
def Mz(s:ap0):Option ap0:=av (!(!(decide (s=([]:ap0))))||aP 0 s.length)<|Option.bind (cond (!(decide (s=([]:ap0)))) (VX n ([40,41,123,125,44,59,58,61,60,62,43,45,42,47,37]:ap0) (((s.getD 0 0).toNat:Nat):Int)) (some default)) λb5=>cond (cond (!(decide (s=([]:ap0)))) (decide (0≤b5)) false) ( av (gP 1 s.length)<|some (s.take 1)) ( some ([]:ap0))
def xa(s:ap0)(v2:Bool):Option ap0:=cond v2 ( av (gP 2 s.length)<|some (s.take 2)) ( Mz n s)
def VY(s:ap0):Option ap0:=cond (decide (2≤((s.length:Nat):Int))) ( av (gP 2 s.length)<|cond (decide ((s.take 2)=([61,61]:ap0))) ( xa n s (decide ((s.take 2)=([61,61]:ap0)))) ( cond (decide ((s.take 2)=([33,61]:ap0))) ( xa n s (decide ((s.take 2)=([33,61]:ap0)))) ( cond (decide ((s.take 2)=([60,61]:ap0))) ( xa n s (decide ((s.take 2)=([60,61]:ap0)))) ( cond (decide ((s.take 2)=([62,61]:ap0))) ( xa n s (decide ((s.take 2)=([62,61]:ap0)))) ( xa n s (decide ((s.take 2)=([43,43]:ap0)))))))) ( Mz n s)
def MA(s:ap0)(v3:ap0)(v4:Bool)(v10:Int):Option (Int×Int):=av ((cond (decide (v10=0)) true (decide (v10<((v3.length:Nat):Int))))||aP 0 v3.length)<|cond (cond (cond (decide (v10=0)) true (decide (v10<((v3.length:Nat):Int)))) true (cond (decide ((((v3.getD 0 0).toNat:Nat):Int)=48)) (cond (decide (1<v10)) true v4) false)) ( some (0,5)) ( (KM n s 10 64).bind λdz=>hS.on dz (λVZ=>cond (!true) ( some (0,3)) ( some (VZ,0))) (λV0=>cond (!false) ( some (0,3)) ( some (V0,0))))
def V1(s:ap0)(v3:ap0)(v4:Bool)(eP:Int→Option (Int×Int))(bA:Int):Option (Int×Int):=cond (decide (bA<((v3.length:Nat):Int))) ( av (aP bA v3.length)<|cond (cond (decide (48≤(((v3.getD (bA).toNat 0).toNat:Nat):Int))) (decide ((((v3.getD (bA).toNat 0).toNat:Nat):Int)≤57)) false) ( eP (ap2 (bA+1))) ( MA n s v3 v4 bA)) ( MA n s v3 v4 bA)
def MB(n:Nat)(s:ap0)(v3:ap0)(v4:Bool):Nat→Int→Option (Int×Int)
 | 0=>λ_=>none
 |m+1=>V1 n s v3 v4 (MB n s v3 v4 m)
def MC(s:ap0)(v3:ap0)(v4:Bool):Option (Int×Int):=MB n s v3 v4 n 0
def V2(s:ap0):Option (Int×Int):=av (!(decide (0<((s.length:Nat):Int)))||aP 0 s.length)<|cond (cond (decide (0<((s.length:Nat):Int))) (decide ((((s.getD 0 0).toNat:Nat):Int)=45)) false) ( av (gP 1 s.length)<|MC n s (s.drop 1) true) ( MC n s s false)
def V3(w:ap0):Option (Token×Int):=av (aP 0 w.length)<|cond (decide ((((w.getD 0 0).toNat:Nat):Int)=95)) ( some ((⟨0,[],0,0⟩:Token),5)) ( av (aP 0 w.length)<|(zO n (IntKind.i32.wrap (((w.getD 0 0).toNat:Nat):Int))).bind λaR=>cond aR ( (zN n w).bind λbh=>cond bh ( some ((⟨2,w,0,0⟩:Token),0)) ( (q6 n w).bind λcy=>cond (!cy) ( some ((⟨0,[],0,0⟩:Token),2)) ( some ((⟨1,w,0,0⟩:Token),0)))) ( (V2 n w).bind λeo=>cond (!decide (eo.2=0)) ( some ((⟨0,[],0,0⟩:Token),eo.2)) ( some ((⟨3,[],eo.1,0⟩:Token),0))))
def V4(s:ap0):Option (Token×Int×Int):=(wA n s).bind λah=>cond (decide (0<ah)) ( av (gP ah s.length)<|(V3 n (s.take (ah).toNat)).bind λaR=>some (aR.1,ah,aR.2)) ( av (aP 0 s.length)<|cond (decide ((((s.getD 0 0).toNat:Nat):Int)=34)) ( (VW n s).bind λcA=>some ((⟨4,cA.1,0,0⟩:Token),cA.2.1,cA.2.2)) ( (VY n s).bind λcy=>cond (decide (cy=([]:ap0))) ( some ((⟨0,[],0,0⟩:Token),0,5)) ( some ((⟨5,cy,0,0⟩:Token),((cy.length:Nat):Int),0))))
def Fl(s:ap0):Option ap0:=(Ea n s).bind λah=>some ah
def V5(n:Nat)(Fm:List Token):Option ((List Token)×Int×Int):=some (Fm,0,0)
def V6(al:(List Token)→Int→Int→Option ((List Token)×Int×Int))(src:ap0)(aX:List Token)(cl:Int)(cZ:Int):Option ((List Token)×Int×Int):=av (gP cZ src.length)<|(V4 n (src.drop (cZ).toNat)).bind λfC=>cond (!decide (fC.2.2=0)) ( some (([]:List Token),cl,fC.2.2)) ( (Fl n fC.1.Text).bind λhX=>av (room (aX.length+([(⟨fC.1.Kind,hX,fC.1.N,cl⟩:Token)]:List Token).length) 40)<|al (aX++([(⟨fC.1.Kind,hX,fC.1.N,cl⟩:Token)]:List Token)) cl (ap2 (cZ+fC.2.1)))
def V7(n:Nat)(al:(List Token)→Int→Int→Option ((List Token)×Int×Int))(src:ap0)(aX:List Token)(cl:Int)(mI:Int):Option ((List Token)×Int×Int):=al aX cl mI
def V8(al:(List Token)→Int→Int→Option ((List Token)×Int×Int))(src:ap0)(aX:List Token)(cl:Int)(qb:Int→Option ((List Token)×Int×Int))(v24:Int):Option ((List Token)×Int×Int):=av (!(decide (v24<((src.length:Nat):Int)))||aP v24 src.length)<|cond (cond (decide (v24<((src.length:Nat):Int))) (!decide ((((src.getD (v24).toNat 0).toNat:Nat):Int)=10)) false) ( qb (ap2 (v24+1))) ( V7 n al src aX cl v24)
def MD(n:Nat)(al:(List Token)→Int→Int→Option ((List Token)×Int×Int))(src:ap0)(aX:List Token)(cl:Int):Nat→Int→Option ((List Token)×Int×Int)
 | 0=>λ_=>none
 |m+1=>V8 n al src aX cl (MD n al src aX cl m)
def ME(al:(List Token)→Int→Int→Option ((List Token)×Int×Int))(src:ap0)(aX:List Token)(cl:Int)(cZ:Int)(v21:Bool):Option ((List Token)×Int×Int):=cond v21 ( al aX cl (ap2 (cZ+1))) ( cond (decide ((((src.getD (cZ).toNat 0).toNat:Nat):Int)=35)) ( MD n al src aX cl n cZ) ( V6 n al src aX cl cZ))
def V9(src:ap0)(al:(List Token)→Int→Int→Option ((List Token)×Int×Int))(aX:List Token)(cl:Int)(cZ:Int):Option ((List Token)×Int×Int):=cond (decide (cZ<((src.length:Nat):Int))) ( av (aP cZ src.length)<|cond (decide ((((src.getD (cZ).toNat 0).toNat:Nat):Int)=10)) ( al aX (ap2 (cl+1)) (ap2 (cZ+1))) ( cond (decide ((((src.getD (cZ).toNat 0).toNat:Nat):Int)=32)) ( ME n al src aX cl cZ (decide ((((src.getD (cZ).toNat 0).toNat:Nat):Int)=32))) ( ME n al src aX cl cZ (decide ((((src.getD (cZ).toNat 0).toNat:Nat):Int)=9))))) ( V5 n aX)
def MF(n:Nat)(src:ap0):Nat→(List Token)→Int→Int→Option ((List Token)×Int×Int)
 | 0=>λ_ _ _=>none
 |m+1=>V9 n src (MF n src m)
def V'(src:ap0):Option ((List Token)×Int×Int):=cond (decide (16384<((src.length:Nat):Int))) ( some (([]:List Token),0,2)) ( MF n src n ([]:List Token) 1 0)
def si(n:Nat)(text:ap0)(ai:ba):ap4:=cond (decide (((ai.tokens.length:Nat):Int)≤ai.at_)) ( some false) ( av (aP ai.at_ ai.tokens.length)<|some (cond (cond (decide ((ap3 ai.tokens (ai.at_)).Kind=2)) true (decide ((ap3 ai.tokens (ai.at_)).Kind=5))) (decide (((ap3 ai.tokens (ai.at_)).Text)=text)) false))
def k2(text:ap0)(ai:ba):Option (Bool×Int):=(si n text ai).bind λah=>cond (!ah) ( some (false,ai.at_)) ( some (true,(ap2 (ai.at_+1))))
def MG(n:Nat)(ai:ba):Option (aV Unit Unit):=av (aP (ap2 (((ai.tokens.length:Nat):Int)-1)) ai.tokens.length)<|some (.bl (.iface 379 (.agg [.int .i64 ((ap3 ai.tokens (ap2 (((ai.tokens.length:Nat):Int)-1))).ma),.int .i64 6])) ())
def MH(ai:ba):Option (aV Unit Unit):=cond (decide (((ai.tokens.length:Nat):Int)=0)) ( some (.bl (.iface 379 (.agg [.int .i64 1,.int .i64 6])) ())) ( MG n ai)
def q9(code:Int)(ai:ba):Option (aV Unit Unit):=cond (decide (ai.at_<((ai.tokens.length:Nat):Int))) ( av (aP ai.at_ ai.tokens.length)<|some (.bl (.iface 379 (.agg [.int .i64 ((ap3 ai.tokens (ai.at_)).ma),.int .i64 code])) ())) ( MH n ai)
def kF(text:ap0)(ai:ba):Option (aV Unit Int):=(k2 n text ai).bind λah=>cond (!ah.1) ( (q9 n 5 (⟨ai.tokens,ah.2⟩:ba)).bind λaB=>aV.on aB (λaR b5=>some (.ret () ah.2)) (λo4 b5=>some (.bl o4 ah.2))) ( some (.ret () ah.2))
def uu(s:Stmt)(ai:ba):Option (aV Stmt Int):=(kF n ([59]:ap0) ai).bind λah=>aV.on ah (λao aB=>some (.ret (⟨s.Op,s.Name,s.Max,⟨s.A.Op,s.A.N,s.A.S,s.A.aw⟩,⟨s.B.Op,s.B.N,s.B.S,s.B.aw⟩,s.Body,s.bX⟩:Stmt) aB)) (λfk aB=>some (.bl fk aB))
def Fn(n:Nat)(ai:ba):Option (Int×Int):=cond (decide (((ai.tokens.length:Nat):Int)≤ai.at_)) ( some (0,0)) ( av (aP ai.at_ ai.tokens.length)<|cond (cond (!decide ((ap3 ai.tokens (ai.at_)).Kind=2)) (!decide ((ap3 ai.tokens (ai.at_)).Kind=5)) false) ( some (0,0)) ( cond (decide (((ap3 ai.tokens (ai.at_)).Text)=([111,114]:ap0))) ( some (1,17)) ( cond (decide (((ap3 ai.tokens (ai.at_)).Text)=([97,110,100]:ap0))) ( some (2,16)) ( cond (decide (((ap3 ai.tokens (ai.at_)).Text)=([61,61]:ap0))) ( some (4,10)) ( cond (decide (((ap3 ai.tokens (ai.at_)).Text)=([33,61]:ap0))) ( some (4,11)) ( cond (decide (((ap3 ai.tokens (ai.at_)).Text)=([60]:ap0))) ( some (4,12)) ( cond (decide (((ap3 ai.tokens (ai.at_)).Text)=([60,61]:ap0))) ( some (4,13)) ( cond (decide (((ap3 ai.tokens (ai.at_)).Text)=([62]:ap0))) ( some (4,14)) ( cond (decide (((ap3 ai.tokens (ai.at_)).Text)=([62,61]:ap0))) ( some (4,15)) ( cond (decide (((ap3 ai.tokens (ai.at_)).Text)=([43,43]:ap0))) ( some (5,19)) ( cond (decide (((ap3 ai.tokens (ai.at_)).Text)=([43]:ap0))) ( some (6,4)) ( cond (decide (((ap3 ai.tokens (ai.at_)).Text)=([45]:ap0))) ( some (6,5)) ( cond (decide (((ap3 ai.tokens (ai.at_)).Text)=([42]:ap0))) ( some (7,6)) ( cond (decide (((ap3 ai.tokens (ai.at_)).Text)=([47]:ap0))) ( some (7,7)) ( cond (decide (((ap3 ai.tokens (ai.at_)).Text)=([37]:ap0))) ( some (7,8)) ( some (0,0)))))))))))))))))
def Fo(n:Nat)(depth:Int)(ai:ba):Option (aV Int Unit):=some (.ret (ap2 (depth+1)) ())
def xb(depth:Int)(ai:ba):Option (aV Int Unit):=cond (decide (24≤depth)) ( (q9 n 2 ai).bind λah=>aV.on ah (λao aB=>Fo n depth ai) (λfk aB=>some (.bl fk ()))) ( Fo n depth ai)
def Fp(n:Nat)(ai:ba):ap5:=av ((decide (((ai.tokens.length:Nat):Int)≤ai.at_))||aP ai.at_ ai.tokens.length)<|cond (cond (decide (((ai.tokens.length:Nat):Int)≤ai.at_)) true (!decide ((ap3 ai.tokens (ai.at_)).Kind=2))) ( some 0) ( av (aP ai.at_ ai.tokens.length)<|cond (decide (((ap3 ai.tokens (ai.at_)).Text)=([116,101,120,116]:ap0))) ( some 20) ( cond (decide (((ap3 ai.tokens (ai.at_)).Text)=([108,101,110]:ap0))) ( some 21) ( cond (decide (((ap3 ai.tokens (ai.at_)).Text)=([103,101,116,105,110,116]:ap0))) ( some 22) ( cond (decide (((ap3 ai.tokens (ai.at_)).Text)=([103,101,116,115,116,114]:ap0))) ( some 23) ( cond (decide (((ap3 ai.tokens (ai.at_)).Text)=([104,97,115]:ap0))) ( some 24) ( cond (decide (((ap3 ai.tokens (ai.at_)).Text)=([110,111,119]:ap0))) ( some 25) ( cond (decide (((ap3 ai.tokens (ai.at_)).Text)=([114,97,110,100,111,109]:ap0))) ( some 26) ( cond (decide (((ap3 ai.tokens (ai.at_)).Text)=([110,111,100,101]:ap0))) ( some 27) ( some 0)))))))))
def MI(fD:Int→Int→ba→Option (aV Expr Int))(fT:Int→Int→Int→ba→Option (aV Expr Int))(f6:Int→ba→Option (aV Expr Int))(fU:Int→ba→Option (aV Expr Int))(level:Int)(depth:Int)(ai:ba)(cS:Int→Int→Int→ap0→(List Expr)→Option (aV Expr Int))(v37:Int)(h_:Int)(ln:Int)(v40:ap0)(jF:List Expr):Option (aV Expr Int):=(Fn n (⟨ai.tokens,v37⟩:ba)).bind λg'=>cond (!decide (g'.1=level)) ( some (.ret (⟨h_,ln,v40,jF⟩:Expr) v37)) ( (fD (ap2 (level+1)) depth (⟨ai.tokens,(ap2 (v37+1))⟩:ba)).bind λnq=>aV.on nq (λgp iL=>cond (decide (level=4)) ( some (.ret (⟨g'.2,0,[],[⟨h_,ln,v40,jF⟩,gp]⟩:Expr) iL)) ( cS iL g'.2 0 ([]:ap0) ([(⟨h_,ln,v40,jF⟩:Expr),gp]:List Expr))) (λuv iL=>some (.bl uv iL)))
def Fq(n:Nat)(fD:Int→Int→ba→Option (aV Expr Int))(fT:Int→Int→Int→ba→Option (aV Expr Int))(f6:Int→ba→Option (aV Expr Int))(fU:Int→ba→Option (aV Expr Int))(level:Int)(depth:Int)(ai:ba):Nat→Int→Int→Int→ap0→(List Expr)→Option (aV Expr Int)
 | 0=>λ_ _ _ _ _=>none
 |m+1=>MI n fD fT f6 fU level depth ai (Fq n fD fT f6 fU level depth ai m)
def Ax(fD:Int→Int→ba→Option (aV Expr Int))(fT:Int→Int→Int→ba→Option (aV Expr Int))(f6:Int→ba→Option (aV Expr Int))(fU:Int→ba→Option (aV Expr Int))(level:Int)(depth:Int)(ai:ba):Option (aV Expr Int):=cond (decide (level=3)) ( (si n ([110,111,116]:ap0) ai).bind λao=>cond ao ( (fT 18 level depth ai).bind λaR=>aV.on aR (λb5 bh=>some (.ret b5 bh)) (λAy bh=>some (.bl Ay bh))) ( (fD 4 depth ai).bind λcy=>aV.on cy (λcQ eo=>some (.ret cQ eo)) (λMJ eo=>some (.bl MJ eo)))) ( cond (decide (level=8)) ( (si n ([45]:ap0) ai).bind λdz=>cond dz ( (fT 9 level depth ai).bind λdK=>aV.on dK (λdA eR=>some (.ret dA eR)) (λuw eR=>some (.bl uw eR))) ( (f6 depth ai).bind λeO=>aV.on eO (λdP fs=>some (.ret dP fs)) (λMK fs=>some (.bl MK fs)))) ( (fD (ap2 (level+1)) depth ai).bind λeh=>aV.on eh (λfz eQ=>Fq n fD fT f6 fU level depth ai n eQ fz.Op fz.N fz.S fz.aw) (λML eQ=>some (.bl ML eQ))))
def V_(fD:Int→Int→ba→Option (aV Expr Int))(fT:Int→Int→Int→ba→Option (aV Expr Int))(f6:Int→ba→Option (aV Expr Int))(fU:Int→ba→Option (aV Expr Int))(op:Int)(level:Int)(depth:Int)(ai:ba):Option (aV Expr Int):=(xb n depth ai).bind λah=>aV.on ah (λao aB=>(fD level ao (⟨ai.tokens,(ap2 (ai.at_+1))⟩:ba)).bind λb5=>aV.on b5 (λbh cA=>some (.ret (⟨op,0,[],[bh]⟩:Expr) cA)) (λiX cA=>some (.bl iX cA))) (λfk aB=>some (.bl fk ai.at_))
def MM(fD:Int→Int→ba→Option (aV Expr Int))(fT:Int→Int→Int→ba→Option (aV Expr Int))(f6:Int→ba→Option (aV Expr Int))(fU:Int→ba→Option (aV Expr Int))(depth:Int)(aB:Int)(ai:ba)(v2:Int):Option (aV Expr Int):=(xb n depth (⟨ai.tokens,v2⟩:ba)).bind λfi=>aV.on fi (λdH lJ=>(fU dH (⟨ai.tokens,(ap2 (v2+1))⟩:ba)).bind λhX=>aV.on hX (λgd jG=>some (.ret (⟨aB,0,[],[gd]⟩:Expr) jG)) (λux jG=>some (.bl ux jG))) (λMN lJ=>some (.bl MN v2))
def MO(fD:Int→Int→ba→Option (aV Expr Int))(fT:Int→Int→Int→ba→Option (aV Expr Int))(f6:Int→ba→Option (aV Expr Int))(fU:Int→ba→Option (aV Expr Int))(depth:Int)(ai:ba)(v2:Int):Option (aV Expr Int):=(xb n depth (⟨ai.tokens,v2⟩:ba)).bind λcQ=>aV.on cQ (λeo b6=>(fU eo (⟨ai.tokens,v2⟩:ba)).bind λdz=>aV.on dz (λeC dK=>some (.ret eC dK)) (λuy dK=>some (.bl uy dK))) (λmc b6=>some (.bl mc v2))
def Az(fD:Int→Int→ba→Option (aV Expr Int))(fT:Int→Int→Int→ba→Option (aV Expr Int))(f6:Int→ba→Option (aV Expr Int))(fU:Int→ba→Option (aV Expr Int))(depth:Int)(aB:Int)(ai:ba)(v2:Int)(aX:Bool):Option (aV Expr Int):=cond aX ( (kF n ([40]:ap0) (⟨ai.tokens,(ap2 (v2+1))⟩:ba)).bind λfJ=>aV.on fJ (λeO dP=>(kF n ([41]:ap0) (⟨ai.tokens,dP⟩:ba)).bind λdG=>aV.on dG (λeh fz=>some (.ret (⟨aB,0,[],[]⟩:Expr) fz)) (λMP fz=>some (.bl MP fz))) (λMQ dP=>some (.bl MQ dP))) ( MM n fD fT f6 fU depth aB ai v2)
def AA(fD:Int→Int→ba→Option (aV Expr Int))(fT:Int→Int→Int→ba→Option (aV Expr Int))(f6:Int→ba→Option (aV Expr Int))(fU:Int→ba→Option (aV Expr Int))(depth:Int)(ai:ba)(v2:Int):Option (aV Expr Int):=(Fp n (⟨ai.tokens,v2⟩:ba)).bind λaB=>cond (decide (aB=0)) ( (si n ([40]:ap0) (⟨ai.tokens,v2⟩:ba)).bind λaR=>cond (!aR) ( (q9 n 5 (⟨ai.tokens,v2⟩:ba)).bind λb5=>aV.on b5 (λbh cA=>MO n fD fT f6 fU depth ai v2) (λiX cA=>some (.bl iX v2))) ( MO n fD fT f6 fU depth ai v2)) ( cond (decide (aB=25)) ( Az n fD fT f6 fU depth aB ai v2 (decide (aB=25))) ( cond (decide (aB=26)) ( Az n fD fT f6 fU depth aB ai v2 (decide (aB=26))) ( Az n fD fT f6 fU depth aB ai v2 (decide (aB=27)))))
def Fr(fD:Int→Int→ba→Option (aV Expr Int))(fT:Int→Int→Int→ba→Option (aV Expr Int))(f6:Int→ba→Option (aV Expr Int))(fU:Int→ba→Option (aV Expr Int))(depth:Int)(ai:ba):Option (aV Expr Int):=cond (decide (ai.at_<((ai.tokens.length:Nat):Int))) ( av (aP ai.at_ ai.tokens.length)<|cond (decide ((ap3 ai.tokens (ai.at_)).Kind=3)) ( some (.ret (⟨1,(ap3 ai.tokens (ai.at_)).N,[],[]⟩:Expr) (ap2 (ai.at_+1)))) ( cond (decide ((ap3 ai.tokens (ai.at_)).Kind=4)) ( some (.ret (⟨2,0,(ap3 ai.tokens (ai.at_)).Text,[]⟩:Expr) (ap2 (ai.at_+1)))) ( cond (decide ((ap3 ai.tokens (ai.at_)).Kind=1)) ( some (.ret (⟨3,0,(ap3 ai.tokens (ai.at_)).Text,[]⟩:Expr) (ap2 (ai.at_+1)))) ( AA n fD fT f6 fU depth ai (ap2 ((ap2 (ai.at_+1))-1)))))) ( AA n fD fT f6 fU depth ai ai.at_)
def Fs(fD:Int→Int→ba→Option (aV Expr Int))(fT:Int→Int→Int→ba→Option (aV Expr Int))(f6:Int→ba→Option (aV Expr Int))(fU:Int→ba→Option (aV Expr Int))(depth:Int)(ai:ba):Option (aV Expr Int):=(kF n ([40]:ap0) ai).bind λah=>aV.on ah (λao aB=>(fD 1 depth (⟨ai.tokens,aB⟩:ba)).bind λb5=>aV.on b5 (λbh cA=>(kF n ([41]:ap0) (⟨ai.tokens,cA⟩:ba)).bind λcQ=>aV.on cQ (λeo b6=>some (.ret bh b6)) (λmc b6=>some (.bl mc b6))) (λiX cA=>some (.bl iX cA))) (λfk aB=>some (.bl fk aB))
def kb:Nat→(Int→Int→ba→Option (aV Expr Int))×(Int→Int→Int→ba→Option (aV Expr Int))×(Int→ba→Option (aV Expr Int))×(Int→ba→Option (aV Expr Int))
 | 0=>(λ_ _ _=>none,λ_ _ _ _=>none,λ_ _=>none,λ_ _=>none)
 |m+1=>(Ax m ((kb m).1) ((kb m).2.1) ((kb m).2.2.1) ((kb m).2.2.2),V_ m ((kb m).1) ((kb m).2.1) ((kb m).2.2.1) ((kb m).2.2.2),Fr m ((kb m).1) ((kb m).2.1) ((kb m).2.2.1) ((kb m).2.2.2),Fs m ((kb m).1) ((kb m).2.1) ((kb m).2.2.1) ((kb m).2.2.2))
def kG:Int→Int→ba→Option (aV Expr Int):=(kb n).1
def AB:Int→Int→Int→ba→Option (aV Expr Int):=(kb n).2.1
def sj:Int→ba→Option (aV Expr Int):=(kb n).2.2.1
def uz:Int→ba→Option (aV Expr Int):=(kb n).2.2.2
def MR(n:Nat)(ai:ba):Option (aV Token Int):=av (aP (ap2 ((ap2 (ai.at_+1))-1)) ai.tokens.length)<|some (.ret (ap3 ai.tokens (ap2 ((ap2 (ai.at_+1))-1))) (ap2 (ai.at_+1)))
def sk(kind:Int)(ai:ba):Option (aV Token Int):=av ((decide (((ai.tokens.length:Nat):Int)≤ai.at_))||aP ai.at_ ai.tokens.length)<|cond (cond (decide (((ai.tokens.length:Nat):Int)≤ai.at_)) true (!decide ((ap3 ai.tokens (ai.at_)).Kind=kind))) ( (q9 n 5 ai).bind λao=>aV.on ao (λaB aR=>MR n ai) (λjH aR=>some (.bl jH ai.at_))) ( MR n ai)
def Wa(n:Nat)(gK:Int→ba→Option (aV (List Stmt) Int))(g_:Int→ba→Option (aV Stmt Int))(hf:Int→ba→Option (aV Stmt Int))(ai:ba)(v28:Int)(fA:List Stmt):Option (aV (List Stmt) Int):=some (.ret fA v28)
def Wb(gK:Int→ba→Option (aV (List Stmt) Int))(g_:Int→ba→Option (aV Stmt Int))(hf:Int→ba→Option (aV Stmt Int))(depth:Int)(ai:ba)(eP:Int→(List Stmt)→Option (aV (List Stmt) Int))(cl:Int)(cZ:List Stmt):Option (aV (List Stmt) Int):=(k2 n ([125]:ap0) (⟨ai.tokens,cl⟩:ba)).bind λdP=>cond (!dP.1) ( (g_ (ap2 (depth+1)) (⟨ai.tokens,dP.2⟩:ba)).bind λfs=>aV.on fs (λdG eh=>av (room (cZ.length+([dG]:List Stmt).length) 192)<|eP eh (cZ++([dG]:List Stmt))) (λo5 eh=>some (.bl o5 eh))) ( Wa n gK g_ hf ai dP.2 cZ)
def MS(n:Nat)(gK:Int→ba→Option (aV (List Stmt) Int))(g_:Int→ba→Option (aV Stmt Int))(hf:Int→ba→Option (aV Stmt Int))(depth:Int)(ai:ba):Nat→Int→(List Stmt)→Option (aV (List Stmt) Int)
 | 0=>λ_ _=>none
 |m+1=>Wb n gK g_ hf depth ai (MS n gK g_ hf depth ai m)
def MT(gK:Int→ba→Option (aV (List Stmt) Int))(g_:Int→ba→Option (aV Stmt Int))(hf:Int→ba→Option (aV Stmt Int))(depth:Int)(ai:ba):Option (aV (List Stmt) Int):=(kF n ([123]:ap0) ai).bind λbh=>aV.on bh (λcA cy=>MS n gK g_ hf depth ai n cy ([]:List Stmt)) (λMU cy=>some (.bl MU cy))
def Wc(gK:Int→ba→Option (aV (List Stmt) Int))(g_:Int→ba→Option (aV Stmt Int))(hf:Int→ba→Option (aV Stmt Int))(depth:Int)(ai:ba):Option (aV (List Stmt) Int):=(si n ([123]:ap0) ai).bind λah=>cond (cond ah (decide (12<depth)) false) ( (q9 n 2 ai).bind λao=>aV.on ao (λaB aR=>MT n gK g_ hf depth ai) (λjH aR=>some (.bl jH ai.at_))) ( MT n gK g_ hf depth ai)
def MV(n:Nat)(gK:Int→ba→Option (aV (List Stmt) Int))(g_:Int→ba→Option (aV Stmt Int))(hf:Int→ba→Option (aV Stmt Int))(ai:ba)(md:Expr)(uA:(List Stmt))(Ft:Int)(Fu:List Stmt):Option (aV Stmt Int):=some (.ret (⟨5,[],0,md,⟨0,0,[],[]⟩,uA,Fu⟩:Stmt) Ft)
def Wd(gK:Int→ba→Option (aV (List Stmt) Int))(g_:Int→ba→Option (aV Stmt Int))(hf:Int→ba→Option (aV Stmt Int))(depth:Int)(ai:ba):Option (aV Stmt Int):=(k2 n ([108,101,116]:ap0) ai).bind λah=>cond ah.1 ( (sk n 1 (⟨ai.tokens,ah.2⟩:ba)).bind λaB=>aV.on aB (λaR b5=>(kF n ([61]:ap0) (⟨ai.tokens,b5⟩:ba)).bind λcA=>aV.on cA (λcy cQ=>(kG n 1 0 (⟨ai.tokens,cQ⟩:ba)).bind λb6=>aV.on b6 (λfu dz=>(uu n (⟨1,aR.Text,0,fu,⟨0,0,[],[]⟩,[],[]⟩:Stmt) (⟨ai.tokens,dz⟩:ba)).bind λdK=>aV.on dK (λdA eR=>some (.ret (⟨dA.Op,dA.Name,dA.Max,⟨dA.A.Op,dA.A.N,dA.A.S,dA.A.aw⟩,⟨dA.B.Op,dA.B.N,dA.B.S,dA.B.aw⟩,dA.Body,dA.bX⟩:Stmt) eR)) (λuw eR=>some (.bl uw eR))) (λMW dz=>some (.bl MW dz))) (λMX cQ=>some (.bl MX cQ))) (λo4 b5=>some (.bl o4 b5))) ( (k2 n ([112,117,116]:ap0) (⟨ai.tokens,ah.2⟩:ba)).bind λeO=>cond eO.1 ( (kG n 1 0 (⟨ai.tokens,eO.2⟩:ba)).bind λfs=>aV.on fs (λdG eh=>(kF n ([61]:ap0) (⟨ai.tokens,eh⟩:ba)).bind λeQ=>aV.on eQ (λfi dH=>(kG n 1 0 (⟨ai.tokens,dH⟩:ba)).bind λfC=>aV.on fC (λhX gd=>(uu n (⟨3,[],0,dG,hX,[],[]⟩:Stmt) (⟨ai.tokens,gd⟩:ba)).bind λn9=>aV.on n9 (λmJ iY=>some (.ret (⟨mJ.Op,mJ.Name,mJ.Max,⟨mJ.A.Op,mJ.A.N,mJ.A.S,mJ.A.aw⟩,⟨mJ.B.Op,mJ.B.N,mJ.B.S,mJ.B.aw⟩,mJ.Body,mJ.bX⟩:Stmt) iY)) (λMY iY=>some (.bl MY iY))) (λuB gd=>some (.bl uB gd))) (λuC dH=>some (.bl uC dH))) (λo5 eh=>some (.bl o5 eh))) ( (k2 n ([100,101,108,101,116,101]:ap0) (⟨ai.tokens,eO.2⟩:ba)).bind λnr=>cond nr.1 ( (kG n 1 0 (⟨ai.tokens,nr.2⟩:ba)).bind λo3=>aV.on o3 (λuo kD=>(uu n (⟨4,[],0,uo,⟨0,0,[],[]⟩,[],[]⟩:Stmt) (⟨ai.tokens,kD⟩:ba)).bind λnq=>aV.on nq (λgp iL=>some (.ret (⟨gp.Op,gp.Name,gp.Max,⟨gp.A.Op,gp.A.N,gp.A.S,gp.A.aw⟩,⟨gp.B.Op,gp.B.N,gp.B.S,gp.B.aw⟩,gp.Body,gp.bX⟩:Stmt) iL)) (λuv iL=>some (.bl uv iL))) (λuD kD=>some (.bl uD kD))) ( (k2 n ([101,109,105,116]:ap0) (⟨ai.tokens,nr.2⟩:ba)).bind λk1=>cond k1.1 ( (kG n 1 0 (⟨ai.tokens,k1.2⟩:ba)).bind λob=>aV.on ob (λAq o6=>(uu n (⟨7,[],0,Aq,⟨0,0,[],[]⟩,[],[]⟩:Stmt) (⟨ai.tokens,o6⟩:ba)).bind λw_=>aV.on w_ (λkE AC=>some (.ret (⟨kE.Op,kE.Name,kE.Max,⟨kE.A.Op,kE.A.N,kE.A.S,kE.A.aw⟩,⟨kE.B.Op,kE.B.N,kE.B.S,kE.B.aw⟩,kE.Body,kE.bX⟩:Stmt) AC)) (λMZ AC=>some (.bl MZ AC))) (λM0 o6=>some (.bl M0 o6))) ( (k2 n ([97,98,111,114,116]:ap0) (⟨ai.tokens,k1.2⟩:ba)).bind λFv=>cond Fv.1 ( (sk n 3 (⟨ai.tokens,Fv.2⟩:ba)).bind λod=>aV.on od (λWe AD=>(uu n (⟨8,[],We.N,⟨0,0,[],[]⟩,⟨0,0,[],[]⟩,[],[]⟩:Stmt) (⟨ai.tokens,AD⟩:ba)).bind λAm=>aV.on Am (λkc sh=>some (.ret (⟨kc.Op,kc.Name,kc.Max,⟨kc.A.Op,kc.A.N,kc.A.S,kc.A.aw⟩,⟨kc.B.Op,kc.B.N,kc.B.S,kc.B.aw⟩,kc.Body,kc.bX⟩:Stmt) sh)) (λM1 sh=>some (.bl M1 sh))) (λM3 AD=>some (.bl M3 AD))) ( (k2 n ([105,102]:ap0) (⟨ai.tokens,Fv.2⟩:ba)).bind λFw=>cond Fw.1 ( (kG n 1 0 (⟨ai.tokens,Fw.2⟩:ba)).bind λags=>aV.on ags (λmd AE=>(gK depth (⟨ai.tokens,AE⟩:ba)).bind λagt=>aV.on agt (λuA AF=>(k2 n ([101,108,115,101]:ap0) (⟨ai.tokens,AF⟩:ba)).bind λFx=>cond Fx.1 ( (gK depth (⟨ai.tokens,Fx.2⟩:ba)).bind λagu=>aV.on agu (λWf AG=>MV n gK g_ hf ai md uA AG Wf) (λM4 AG=>some (.bl M4 AG))) ( MV n gK g_ hf ai md uA Fx.2 ([]:List Stmt))) (λM5 AF=>some (.bl M5 AF))) (λM6 AE=>some (.bl M6 AE))) ( (k2 n ([102,111,114]:ap0) (⟨ai.tokens,Fw.2⟩:ba)).bind λFy=>cond Fy.1 ( (hf depth (⟨ai.tokens,Fy.2⟩:ba)).bind λagv=>aV.on agv (λmK AH=>some (.ret (⟨mK.Op,mK.Name,mK.Max,⟨mK.A.Op,mK.A.N,mK.A.S,mK.A.aw⟩,⟨mK.B.Op,mK.B.N,mK.B.S,mK.B.aw⟩,mK.Body,mK.bX⟩:Stmt) AH)) (λM7 AH=>some (.bl M7 AH))) ( (sk n 1 (⟨ai.tokens,Fy.2⟩:ba)).bind λwY=>aV.on wY (λum AI=>(kF n ([61]:ap0) (⟨ai.tokens,AI⟩:ba)).bind λagw=>aV.on agw (λE5 AJ=>(kG n 1 0 (⟨ai.tokens,AJ⟩:ba)).bind λagx=>aV.on agx (λWg AK=>(uu n (⟨2,um.Text,0,Wg,⟨0,0,[],[]⟩,[],[]⟩:Stmt) (⟨ai.tokens,AK⟩:ba)).bind λagy=>aV.on agy (λmL sg=>some (.ret (⟨mL.Op,mL.Name,mL.Max,⟨mL.A.Op,mL.A.N,mL.A.S,mL.A.aw⟩,⟨mL.B.Op,mL.B.N,mL.B.S,mL.B.aw⟩,mL.Body,mL.bX⟩:Stmt) sg)) (λM8 sg=>some (.bl M8 sg))) (λM9 AK=>some (.bl M9 AK))) (λM_ AJ=>some (.bl M_ AJ))) (λNa AI=>some (.bl Na AI)))))))))
def Wh(gK:Int→ba→Option (aV (List Stmt) Int))(g_:Int→ba→Option (aV Stmt Int))(hf:Int→ba→Option (aV Stmt Int))(depth:Int)(ai:ba):Option (aV Stmt Int):=(sk n 1 ai).bind λah=>aV.on ah (λao aB=>(kF n ([61]:ap0) (⟨ai.tokens,aB⟩:ba)).bind λb5=>aV.on b5 (λbh cA=>(kG n 1 0 (⟨ai.tokens,cA⟩:ba)).bind λcQ=>aV.on cQ (λeo b6=>(kF n ([116,111]:ap0) (⟨ai.tokens,b6⟩:ba)).bind λdz=>aV.on dz (λeC dK=>(kG n 1 0 (⟨ai.tokens,dK⟩:ba)).bind λeR=>aV.on eR (λfJ eO=>(kF n ([109,97,120]:ap0) (⟨ai.tokens,eO⟩:ba)).bind λfs=>aV.on fs (λdG eh=>(sk n 3 (⟨ai.tokens,eh⟩:ba)).bind λeQ=>aV.on eQ (λfi dH=>(gK depth (⟨ai.tokens,dH⟩:ba)).bind λfC=>aV.on fC (λhX gd=>some (.ret (⟨6,ao.Text,fi.N,eo,fJ,hX,[]⟩:Stmt) gd)) (λuB gd=>some (.bl uB gd))) (λuC dH=>some (.bl uC dH))) (λo5 eh=>some (.bl o5 eh))) (λNb eO=>some (.bl Nb eO))) (λuy dK=>some (.bl uy dK))) (λmc b6=>some (.bl mc b6))) (λiX cA=>some (.bl iX cA))) (λfk aB=>some (.bl fk aB))
def oe:Nat→(Int→ba→Option (aV (List Stmt) Int))×(Int→ba→Option (aV Stmt Int))×(Int→ba→Option (aV Stmt Int))
 | 0=>(λ_ _=>none,λ_ _=>none,λ_ _=>none)
 |m+1=>(Wc m ((oe m).1) ((oe m).2.1) ((oe m).2.2),Wd m ((oe m).1) ((oe m).2.1) ((oe m).2.2),Wh m ((oe m).1) ((oe m).2.1) ((oe m).2.2))
def Nc:Int→ba→Option (aV (List Stmt) Int):=(oe n).1
def agz:Int→ba→Option (aV Stmt Int):=(oe n).2.1
def agA:Int→ba→Option (aV Stmt Int):=(oe n).2.2
def AL(n:Nat)(ai:ba)(ao:Token)(cV:Int)(aX:Int):Option (aV Param Int):=some (.ret (⟨ao.Text,aX⟩:Param) cV)
def Nd(ai:ba):Option (aV Param Int):=(sk n 1 ai).bind λah=>aV.on ah (λao aB=>(kF n ([58]:ap0) (⟨ai.tokens,aB⟩:ba)).bind λb5=>aV.on b5 (λbh cA=>(k2 n ([105,110,116]:ap0) (⟨ai.tokens,cA⟩:ba)).bind λcQ=>cond cQ.1 ( AL n ai ao cQ.2 1) ( (k2 n ([115,116,114]:ap0) (⟨ai.tokens,cQ.2⟩:ba)).bind λeo=>cond eo.1 ( AL n ai ao eo.2 2) ( (k2 n ([98,111,111,108]:ap0) (⟨ai.tokens,eo.2⟩:ba)).bind λb6=>cond b6.1 ( AL n ai ao b6.2 3) ( (q9 n 5 (⟨ai.tokens,b6.2⟩:ba)).bind λfu=>aV.on fu (λdz eC=>AL n ai ao b6.2 0) (λNf eC=>some (.bl Nf b6.2)))))) (λiX cA=>some (.bl iX cA))) (λfk aB=>some (.bl fk aB))
def Ng(ai:ba)(bh:Token)(Fz:Int)(o7:List Param):Option (aV bi Int):=(Nc n 0 (⟨ai.tokens,Fz⟩:ba)).bind λiL=>aV.on iL (λAp k1=>some (.ret (⟨bh.Text,o7,Ap⟩:bi) k1)) (λNh k1=>some (.bl Nh k1))
def Wi(ai:ba)(bh:Token)(v37:Int)(h_:List Param):Option (aV bi Int):=(kF n ([41]:ap0) (⟨ai.tokens,v37⟩:ba)).bind λo3=>aV.on o3 (λuo kD=>Ng n ai bh kD h_) (λuD kD=>some (.bl uD kD))
def Wj(ai:ba)(bh:Token)(eP:Int→(List Param)→Option (aV bi Int))(mI:Int)(v28:List Param):Option (aV bi Int):=(k2 n ([44]:ap0) (⟨ai.tokens,mI⟩:ba)).bind λfC=>cond fC.1 ( (Nd n (⟨ai.tokens,fC.2⟩:ba)).bind λhX=>aV.on hX (λgd jG=>av (room (v28.length+([gd]:List Param).length) 24)<|eP jG (v28++([gd]:List Param))) (λux jG=>some (.bl ux jG))) ( Wi n ai bh fC.2 v28)
def Ni(n:Nat)(ai:ba)(bh:Token):Nat→Int→(List Param)→Option (aV bi Int)
 | 0=>λ_ _=>none
 |m+1=>Wj n ai bh (Ni n ai bh m)
def Wk(ai:ba):Option (aV bi Int):=(kF n ([112,114,111,99]:ap0) ai).bind λah=>aV.on ah (λao aB=>(sk n 1 (⟨ai.tokens,aB⟩:ba)).bind λb5=>aV.on b5 (λbh cA=>(kF n ([40]:ap0) (⟨ai.tokens,cA⟩:ba)).bind λcQ=>aV.on cQ (λeo b6=>(k2 n ([41]:ap0) (⟨ai.tokens,b6⟩:ba)).bind λdz=>cond (!dz.1) ( (Nd n (⟨ai.tokens,dz.2⟩:ba)).bind λeC=>aV.on eC (λdK dA=>av (room (([]:List Param).length+([dK]:List Param).length) 24)<|Ni n ai bh n dA (([]:List Param)++([dK]:List Param))) (λNj dA=>some (.bl Nj dA))) ( Ng n ai bh dz.2 ([]:List Param))) (λmc b6=>some (.bl mc b6))) (λiX cA=>some (.bl iX cA))) (λfk aB=>some (.bl fk aB))
def Wl(ai:ba)(fB:bi):Option (aV Unit (Int×ap0×(List Param)×(List Stmt))):=(Wk n ai).bind λah=>aV.on ah (λao aB=>some (.ret () (aB,ao.Name,ao.Params,ao.Body))) (λfk aB=>some (.bl fk (aB,fB.Name,fB.Params,fB.Body)))
def Wm(n:Nat)(ai:ba):Option (aV Unit Unit):=av (aP (ap2 (((ai.tokens.length:Nat):Int)-1)) ai.tokens.length)<|some (.bl (.iface 379 (.agg [.int .i64 ((ap3 ai.tokens (ap2 (((ai.tokens.length:Nat):Int)-1))).ma),.int .i64 6])) ())
def Wn(ai:ba):Option (aV Unit Unit):=cond (decide (((ai.tokens.length:Nat):Int)=0)) ( some (.bl (.iface 379 (.agg [.int .i64 1,.int .i64 6])) ())) ( Wm n ai)
def Wo(code:Int)(ai:ba):Option (aV Unit Unit):=cond (decide (ai.at_<((ai.tokens.length:Nat):Int))) ( av (aP ai.at_ ai.tokens.length)<|some (.bl (.iface 379 (.agg [.int .i64 ((ap3 ai.tokens (ai.at_)).ma),.int .i64 code])) ())) ( Wn n ai)
def Nk(src:ap0)(ai:bi):Option (Int×Int×ap0×(List Param)×(List Stmt)):=(V' n src).bind λah=>cond (!decide (ah.2.2=0)) (some (ah.2.1,ah.2.2,ai.Name,ai.Params,ai.Body)) ((Wl n (⟨ah.1,0⟩:ba) ai).bind λao=>aV.on ao (λcP mM=>cond (decide (mM.1<((ah.1.length:Nat):Int))) ((Wo n 5 (⟨ah.1,mM.1⟩:ba)).bind λaB=>aV.on aB (λcT Nl=>none) (λeS Nl=>(DT 379 eS).bind λlc=>some (lc.1,lc.2,mM.2.1,mM.2.2.1,mM.2.2.2))) (some (0,0,mM.2.1,mM.2.2.1,mM.2.2.2))) (λeS mM=>(DT 379 eS).bind λlc=>some (lc.1,lc.2,mM.2.1,mM.2.2.1,mM.2.2.2)))
def Nn(n:Nat)(ah:Int×Int×ap0×(List Param)×(List Stmt))(v3:Int):Option (bi×Int×Int):=cond (!decide (v3=0)) ( some ((⟨[],[],[]⟩:bi),ah.1,v3)) ( some ((⟨ah.2.2.1,ah.2.2.2.1,ah.2.2.2.2⟩:bi),0,0))
def Wp(src:ap0):Option (bi×Int×Int):=(Nk n src (⟨[],[],[]⟩:bi)).bind λah=>cond (decide (ah.2.1=0)) ( (z' n (⟨ah.2.2.1,ah.2.2.2.1,ah.2.2.2.2⟩:bi)).bind λao=>Nn n ah ao) ( Nn n ah ah.2.1)
def Wq(n:Nat)(bD:List bi):Option ((List bi)×Bool):=some (bD,true)
def Wr(l:List ap0)(al:Int→(List bi)→Option ((List bi)×Bool))(bA:Int)(bC:List bi):Option ((List bi)×Bool):=cond (decide (bA<((l.length:Nat):Int))) ( av (aP bA l.length)<|(Wp n (ap3 l bA)).bind λeo=>Option.bind (cond (!(!decide (eo.2.2=0))) (se n eo.1) (some default)) λb6=>cond (cond (!decide (eo.2.2=0)) true (!(decide (b6=(ap3 l bA))))) ( some (([]:List bi),false)) ( av (room (bC.length+([eo.1]:List bi).length) 64)<|al (ap2 (bA+1)) (bC++([eo.1]:List bi)))) ( Wq n bC)
def No(n:Nat)(l:List ap0):Nat→Int→(List bi)→Option ((List bi)×Bool)
 | 0=>λ_ _=>none
 |m+1=>Wr n l (No n l m)
def Ws(l:List ap0):Option ((List bi)×Bool):=No n l n 0 ([]:List bi)
def Np(n:Nat)(l:List bd):ap4:=some (decide (((l.length:Nat):Int)≤32))
def FA(l:List bd)(al:Int→ap4)(v5:Int):ap4:=cond (decide (v5<((l.length:Nat):Int))) ( av (aP v5 l.length)<|(ub n ((ap3 l v5).Key)).bind λcA=>av ((cond (cond (!cA) true (decide ((ap3 l v5).Count<1))) true (decide (1099511627776<(ap3 l v5).Count)))||(!(decide (0<v5))||aP (ap2 (v5-1)) l.length))<|cond (cond (cond (cond (!cA) true (decide ((ap3 l v5).Count<1))) true (decide (1099511627776<(ap3 l v5).Count))) true (cond (decide (0<v5)) (!(Op.bytesLess ((ap3 l (ap2 (v5-1))).Key) ((ap3 l v5).Key))) false)) ( some false) ( al (ap2 (v5+1)))) ( Np n l)
def xc(n:Nat)(l:List bd):Nat→Int→ap4
 | 0=>λ_=>none
 |m+1=>FA n l (xc n l m)
def FB(l:List bd):ap4:=xc n l n 0
def Nq(n:Nat):ap4:=some true
def FC(l:List bi)(al:Int→ap4)(v6:Int):ap4:=cond (decide (v6<((l.length:Nat):Int))) ( av (aP v6 l.length)<|(se n (ap3 l v6)).bind λcy=>av ((cond (decide (cy=([]:ap0))) true (decide (16384<((cy.length:Nat):Int))))||(!(decide (0<v6))||aP (ap2 (v6-1)) l.length))<|cond (cond (cond (decide (cy=([]:ap0))) true (decide (16384<((cy.length:Nat):Int)))) true (cond (decide (0<v6)) ((Op.bytesLess ((ap3 l v6).Name) ((ap3 l (ap2 (v6-1))).Name))||(decide (((ap3 l v6).Name)=((ap3 l (ap2 (v6-1))).Name)))) false)) ( some false) ( al (ap2 (v6+1)))) ( Nq n)
def xd(n:Nat)(l:List bi):Nat→Int→ap4
 | 0=>λ_=>none
 |m+1=>FC n l (xd n l m)
def FD(l:List bi):ap4:=cond (decide (16<((l.length:Nat):Int))) ( some false) ( xd n l n 0)
def Nr(ab:bH):ap4:=(sf n ab.bO).bind λb6=>Option.bind (cond b6 (Au n ab.Place) (some default)) λfu=>Option.bind (cond (cond b6 fu false) (FB n ab.bd) (some default)) λdz=>some (cond (cond b6 fu false) dz false)
def FE(ab:bH)(al:Int→ap4)(bA:Int):ap4:=cond (decide (bA<((ab.Queue.length:Nat):Int))) ( av (aP bA ab.Queue.length)<|(o0 n (⟨(ap3 ab.Queue bA).Client,(ap3 ab.Queue bA).Seq,(ap3 ab.Queue bA).bi,(ap3 ab.Queue bA).aw,(ap3 ab.Queue bA).dX,⟨((ap3 ab.Queue bA).bp).dV,((ap3 ab.Queue bA).bp).Reads,((ap3 ab.Queue bA).bp).co⟩⟩:Request)).bind λcQ=>cond (!decide (cQ=0)) ( some false) ( al (ap2 (bA+1)))) ( Nr n ab)
def uE(n:Nat)(ab:bH):Nat→Int→ap4
 | 0=>λ_=>none
 |m+1=>FE n ab (uE n ab m)
def xe(ab:bH):ap4:=Option.bind (cond (!(cond (decide (ab.Pos<0)) true (decide (1099511627776<ab.Pos)))) (ud n ab.ar) (some default)) λah=>Option.bind (cond (!(cond (cond (cond (decide (ab.Pos<0)) true (decide (1099511627776<ab.Pos))) true (!ah)) true (!decide (ab.ar.bq=ab.Pos)))) (FD n ab.bI) (some default)) λao=>cond (cond (cond (cond (cond (cond (decide (ab.Pos<0)) true (decide (1099511627776<ab.Pos))) true (!ah)) true (!decide (ab.ar.bq=ab.Pos))) true (!ao)) true (decide (64<((ab.Queue.length:Nat):Int)))) ( some false) ( uE n ab n 0)
def Ns(n:Nat)(at_:Int)(ch:List Row):Option (ar×Int):=some ((⟨at_,at_,ch⟩:ar),0)
def FF(at_:Int)(l:List aY)(al:(List Row)→Int→Option (ar×Int))(bA:List Row)(bC:Int):Option (ar×Int):=cond (decide (bC<((l.length:Nat):Int))) ( av (aP bC l.length)<|av (room (bA.length+([(⟨(ap3 l bC).Key,[⟨at_,⟨((ap3 l bC).bo).Kind,((ap3 l bC).bo).N,((ap3 l bC).bo).S⟩⟩]⟩:Row)]:List Row).length) 40)<|al (bA++([(⟨(ap3 l bC).Key,[⟨at_,⟨((ap3 l bC).bo).Kind,((ap3 l bC).bo).N,((ap3 l bC).bo).S⟩⟩]⟩:Row)]:List Row)) (ap2 (bC+1))) ( Ns n at_ bA)
def xf(n:Nat)(at_:Int)(l:List aY):Nat→(List Row)→Int→Option (ar×Int)
 | 0=>λ_ _=>none
 |m+1=>FF n at_ l (xf n at_ l m)
def AM(l:List aY)(at_:Int):Option (ar×Int):=(Ar n l).bind λah=>cond (cond (cond (!ah) true (decide (at_<0))) true (decide (1099511627776<at_))) ( some ((⟨0,0,[]⟩:ar),1)) ( xf n at_ l n ([]:List Row) 0)
def Nt(s:ap0):Option (bH×Int):=(VT n (⟨s,0,0⟩:gc)).bind λah=>cond (!decide (ah.2.2=0)) ( some ((⟨0,⟨0,0,[]⟩,[],[],⟨0,[]⟩,[],[],0⟩:bH),ah.2.2)) ( cond (cond (cond (!decide (ah.2.1=((s.length:Nat):Int))) true (decide (ah.1.f0.Pos<0))) true (decide (1099511627776<ah.1.f0.Pos))) ( some ((⟨0,⟨0,0,[]⟩,[],[],⟨0,[]⟩,[],[],0⟩:bH),5)) ( (Ws n ah.1.sources).bind λaR=>cond (!aR.2) ( some ((⟨0,⟨0,0,[]⟩,[],[],⟨0,[]⟩,[],[],0⟩:bH),5)) ( (AM n ah.1.KK ah.1.f0.Pos).bind λbh=>cond (!decide (bh.2=0)) ( some ((⟨0,⟨0,0,[]⟩,[],[],⟨0,[]⟩,[],[],0⟩:bH),5)) ( (xe n (⟨ah.1.f0.Pos,bh.1,aR.1,ah.1.f0.bO,ah.1.f0.Place,ah.1.f0.bd,ah.1.f0.Queue,ah.1.f0.b2⟩:bH)).bind λcy=>cond (!cy) ( some ((⟨0,⟨0,0,[]⟩,[],[],⟨0,[]⟩,[],[],0⟩:bH),5)) ( some ((⟨ah.1.f0.Pos,bh.1,aR.1,ah.1.f0.bO,ah.1.f0.Place,ah.1.f0.bd,ah.1.f0.Queue,ah.1.f0.b2⟩:bH),0))))))
def Wt(ab:bH):Option (bH×Int):=(xe n ab).bind λah=>cond (!ah) ( some ((⟨0,⟨0,0,[]⟩,[],[],⟨0,[]⟩,[],[],0⟩:bH),1)) ( (w4 n ab).bind λaB=>(Nt n aB).bind λaR=>some (aR.1,aR.2))
def Wu(ab:bH):Option (dY×Int):=(Wt n ab).bind λah=>cond (!decide (ah.2=0)) ( some ((⟨0,⟨0,⟨0,0,[]⟩,[],[],⟨0,[]⟩,[],[],0⟩,[],false,[],[]⟩:dY),1)) ( some ((⟨ab.Pos,⟨ab.Pos,⟨0,0,[]⟩,ab.bI,ab.bO,ab.Place,ab.bd,ab.Queue,ab.b2⟩,[],false,[],[]⟩:dY),0))
def Nu(n:Nat):ap4:=some true
def FG(s:ar)(al:Int→ap4)(v4:Int):ap4:=cond (decide (v4<((s.Rows.length:Nat):Int))) ( av (aP v4 s.Rows.length)<|cond (decide (40<((((ap3 s.Rows v4).br).length:Nat):Int))) ( some false) ( al (ap2 (v4+1)))) ( Nu n)
def xg(n:Nat)(s:ar):Nat→Int→ap4
 | 0=>λ_=>none
 |m+1=>FG n s (xg n s m)
def AN(s:ar):ap4:=cond (decide (60<((s.Rows.length:Nat):Int))) ( some false) ( xg n s n 0)
def FH(n:Nat)(mN:Expr→Int→ap5)(v11:Int):ap5:=some v11
def FI(mN:Expr→Int→ap5)(cf:Int)(e:Expr)(al:Int→Int→ap5)(v5:Int)(v6:Int):ap5:=cond (cond (decide (v6<((e.aw.length:Nat):Int))) (decide (v5≤cf)) false) ( av (aP v6 e.aw.length)<|(mN (ap3 e.aw v6) (ap2 (cf-v5))).bind λcy=>al (ap2 (v5+cy)) (ap2 (v6+1))) ( FH n mN v5)
def xh(n:Nat)(mN:Expr→Int→ap5)(cf:Int)(e:Expr):Nat→Int→Int→ap5
 | 0=>λ_ _=>none
 |m+1=>FI n mN cf e (xh n mN cf e m)
def FJ(mN:Expr→Int→ap5)(e:Expr)(cf:Int):ap5:=xh n mN cf e n (ap2 (1+(ap2 (Int.tdiv ((e.S.length:Nat):Int) 64)))) 0
def qe:Nat→Expr→Int→ap5
 | 0=>λ_ _=>none
 |m+1=>FJ m (qe m)
def Nv(n:Nat)(me:(List Stmt)→Int→ap5)(v25:Int):ap5:=some v25
def Nw(me:(List Stmt)→Int→ap5)(l:List Stmt)(cf:Int)(al:Int→Int→ap5)(v12:Int)(ch:Int):ap5:=cond (cond (decide (ch<((l.length:Nat):Int))) (decide (v12≤cf)) false) ( av (aP ch l.length)<|av (aP ch l.length)<|(qe n ((ap3 l ch).A) (ap2 (cf-(ap2 ((ap2 (v12+1))+(ap2 (Int.tdiv ((((ap3 l ch).Name).length:Nat):Int) 64))))))).bind λdA=>av (aP ch l.length)<|(qe n ((ap3 l ch).B) (ap2 (cf-(ap2 ((ap2 ((ap2 (v12+1))+(ap2 (Int.tdiv ((((ap3 l ch).Name).length:Nat):Int) 64))))+dA))))).bind λfJ=>av (aP ch l.length)<|(me ((ap3 l ch).Body) (ap2 (cf-(ap2 ((ap2 ((ap2 ((ap2 (v12+1))+(ap2 (Int.tdiv ((((ap3 l ch).Name).length:Nat):Int) 64))))+dA))+fJ))))).bind λdP=>av (aP ch l.length)<|(me ((ap3 l ch).bX) (ap2 (cf-(ap2 ((ap2 ((ap2 ((ap2 ((ap2 (v12+1))+(ap2 (Int.tdiv ((((ap3 l ch).Name).length:Nat):Int) 64))))+dA))+fJ))+dP))))).bind λdG=>al (ap2 ((ap2 ((ap2 ((ap2 ((ap2 ((ap2 (v12+1))+(ap2 (Int.tdiv ((((ap3 l ch).Name).length:Nat):Int) 64))))+dA))+fJ))+dP))+dG)) (ap2 (ch+1))) ( Nv n me v12)
def AO(n:Nat)(me:(List Stmt)→Int→ap5)(l:List Stmt)(cf:Int):Nat→Int→Int→ap5
 | 0=>λ_ _=>none
 |m+1=>Nw n me l cf (AO n me l cf m)
def Nx(me:(List Stmt)→Int→ap5)(l:List Stmt)(cf:Int):ap5:=AO n me l cf n 0 0
def xi:Nat→(List Stmt)→Int→ap5
 | 0=>λ_ _=>none
 |m+1=>Nx m (xi m)
def Ny(cf:Int)(p:bi):ap4:=(xi n p.Body cf).bind λcA=>some (decide (cA≤cf))
def Nz(cf:Int)(p:bi)(al:Int→ap4)(v4:Int):ap4:=cond (decide (v4<((p.Params.length:Nat):Int))) ( av (aP v4 p.Params.length)<|cond (decide (200<((((ap3 p.Params v4).Name).length:Nat):Int))) ( some false) ( al (ap2 (v4+1)))) ( Ny n cf p)
def AP(n:Nat)(cf:Int)(p:bi):Nat→Int→ap4
 | 0=>λ_=>none
 |m+1=>Nz n cf p (AP n cf p m)
def AQ(p:bi)(cf:Int):ap4:=cond (cond (decide (40<((p.Params.length:Nat):Int))) true (decide (200<((p.Name.length:Nat):Int)))) ( some false) ( AP n cf p n 0)
def NA(n:Nat):ap4:=some true
def FK(f:e9)(eP:Int→ap4)(v9:Int):ap4:=cond (decide (v9<((f.co.length:Nat):Int))) ( av (aP v9 f.co.length)<|cond (decide (100<(((ap3 f.co v9).length:Nat):Int))) ( some false) ( eP (ap2 (v9+1)))) ( NA n)
def uF(n:Nat)(f:e9):Nat→Int→ap4
 | 0=>λ_=>none
 |m+1=>FK n f (uF n f m)
def NB(f:e9):ap4:=uF n f n 0
def FL(f:e9)(dD:Int→ap4)(v4:Int):ap4:=cond (decide (v4<((f.Reads.length:Nat):Int))) ( av (aP v4 f.Reads.length)<|cond (decide (100<(((ap3 f.Reads v4).length:Nat):Int))) ( some false) ( dD (ap2 (v4+1)))) ( NB n f)
def xj(n:Nat)(f:e9):Nat→Int→ap4
 | 0=>λ_=>none
 |m+1=>FL n f (xj n f m)
def uG(f:e9)(cf:Int):ap4:=cond (cond (decide (cf<((f.Reads.length:Nat):Int))) true (decide (cf<((f.co.length:Nat):Int)))) ( some false) ( xj n f n 0)
def NC(n:Nat):ap4:=some true
def FM(ab:Request)(al:Int→ap4)(v5:Int):ap4:=cond (decide (v5<((ab.aw.length:Nat):Int))) ( av (aP v5 ab.aw.length)<|cond (decide (300<((((ap3 ab.aw v5).S).length:Nat):Int))) ( some false) ( al (ap2 (v5+1)))) ( NC n)
def xk(n:Nat)(ab:Request):Nat→Int→ap4
 | 0=>λ_=>none
 |m+1=>FM n ab (xk n ab m)
def AR(ab:Request):ap4:=Option.bind (cond (!(cond (decide (300<((ab.bi.length:Nat):Int))) true (decide (40<((ab.aw.length:Nat):Int))))) (uG n ab.bp 100) (some default)) λah=>cond (cond (cond (decide (300<((ab.bi.length:Nat):Int))) true (decide (40<((ab.aw.length:Nat):Int)))) true (!ah)) ( some false) ( xk n ab n 0)
def ND(n:Nat):ap4:=some true
def FN(ab:bH)(dD:Int→ap4)(cl:Int):ap4:=cond (decide (cl<((ab.Queue.length:Nat):Int))) ( av (aP cl ab.Queue.length)<|(AR n (ap3 ab.Queue cl)).bind λdP=>cond (!dP) ( some false) ( dD (ap2 (cl+1)))) ( ND n)
def uH(n:Nat)(ab:bH):Nat→Int→ap4
 | 0=>λ_=>none
 |m+1=>FN n ab (uH n ab m)
def NE(ab:bH):ap4:=uH n ab n 0
def FO(ab:bH)(o8:Int→ap4)(v12:Int):ap4:=cond (decide (v12<((ab.bO.length:Nat):Int))) ( av (aP v12 ab.bO.length)<|cond (decide (20<((((ap3 ab.bO v12).b').length:Nat):Int))) ( some false) ( o8 (ap2 (v12+1)))) ( NE n ab)
def uI(n:Nat)(ab:bH):Nat→Int→ap4
 | 0=>λ_=>none
 |m+1=>FO n ab (uI n ab m)
def NF(ab:bH):ap4:=uI n ab n 0
def FP(ab:bH)(qb:Int→ap4)(v6:Int):ap4:=cond (decide (v6<((ab.bI.length:Nat):Int))) ( av (aP v6 ab.bI.length)<|(AQ n (ap3 ab.bI v6) 600).bind λcy=>cond (!cy) ( some false) ( qb (ap2 (v6+1)))) ( NF n ab)
def xl(n:Nat)(ab:bH):Nat→Int→ap4
 | 0=>λ_=>none
 |m+1=>FP n ab (xl n ab m)
def AS(ab:bH):ap4:=(AN n ab.ar).bind λah=>cond (cond (cond (cond (cond (cond (!ah) true (decide (16<((ab.bI.length:Nat):Int)))) true (decide (10<((ab.bO.length:Nat):Int)))) true (decide (40<((ab.bd.length:Nat):Int)))) true (decide (70<((ab.Queue.length:Nat):Int)))) true (decide (40<((ab.Place.aF.length:Nat):Int)))) ( some false) ( xl n ab n 0)
def AT(ab:bH):Option (ap0×Int):=(xe n ab).bind λah=>cond (!ah) ( some (([]:ap0),1)) ( (w4 n ab).bind λaB=>cond (decide (16384<((aB.length:Nat):Int))) ( some (([]:ap0),2)) ( some (aB,0)))
def AU(n:Nat)(b7:List Int):ap5:=some ((b7.length:Nat):Int)
def NG(c:dY)(v24:List Int):Option (ap0×Int×Int):=(AU n v24).bind λeQ=>cond (cond (decide (16384<eQ)) true (decide ((ap2 (1099511627776-c.cd))<((c.cq.length:Nat):Int)))) ( some (([]:ap0),0,2)) ( (p9 n v24).bind λdH=>some (dH.1,(ap2 (c.cd+((c.cq.length:Nat):Int))),0))
def NH(c:dY)(al:(List Int)→Int→Option (ap0×Int×Int))(cV:List Int)(aX:Int):Option (ap0×Int×Int):=cond (decide (aX<((c.cq.length:Nat):Int))) ( av (aP aX c.cq.length)<|Option.bind (cond (!(decide (4096<(((ap3 c.cq aX).length:Nat):Int)))) (AU n cV) (some default)) λeO=>cond (cond (decide (4096<(((ap3 c.cq aX).length:Nat):Int))) true (decide (16384<eO))) ( some (([]:ap0),0,2)) ( (nm n (ap3 c.cq aX)).bind λdP=>(iW n dP cV).bind λfs=>al fs.2 (ap2 (aX+1)))) ( NG n c cV)
def AV(n:Nat)(c:dY):Nat→(List Int)→Int→Option (ap0×Int×Int)
 | 0=>λ_ _=>none
 |m+1=>NH n c (AV n c m)
def xm(c:dY):Option (ap0×Int×Int):=cond (!c.dE) ( some (([]:ap0),0,16)) ( (AM n c.eg c.cd).bind λao=>cond (!decide (ao.2=0)) ( some (([]:ap0),0,ao.2)) ( (AT n (⟨c.Rest.Pos,ao.1,c.Rest.bI,c.Rest.bO,c.Rest.Place,c.Rest.bd,c.Rest.Queue,c.Rest.b2⟩:bH)).bind λaR=>cond (!decide (aR.2=0)) ( some (([]:ap0),0,aR.2)) ( (nm n aR.1).bind λbh=>(gZ n (IntKind.u64.wrap ((c.cq.length:Nat):Int))).bind λcA=>av (bE (bh.length+cA.length))<|(iW n (bh++cA) ([]:List Int)).bind λcQ=>AV n c n cQ.2 0)))
def NI(n:Nat)(s:List aY):Option (List aY):=av (room (([]:List aY).length+s.length) 48)<|some (([]:List aY)++s)
def NJ(n:Nat)(s:List ap0):Option (List ap0):=av (room (([]:List ap0).length+s.length) 16)<|some (([]:List ap0)++s)
def NK(c:dY):Option dY:=(NI n c.eg).bind λah=>(NJ n c.cq).bind λao=>some (⟨c.cd,c.Rest,c.Next,c.dE,ah,ao⟩:dY)
def Wv(c:dY)(data:ap0):Option dY:=(NK n c).bind λah=>av (room (ah.cq.length+([data]:List ap0).length) 16)<|some (⟨ah.cd,ah.Rest,ah.Next,ah.dE,ah.eg,(ah.cq++([data]:List ap0))⟩:dY)
def NL(n:Nat)(ah:ap0×Int×Int)(ai:ap0)(v2:Int):Option (ap0×Int×Int):=some (ah.1,ah.2.2,v2)
def NM(cf:Int)(ai:ap0)(fB:Int):Option (ap0×Int×Int):=(ur n ai fB cf).bind λah=>cond (decide (ah.2.2=0)) ( NL n ah ai ah.2.1) ( NL n ah ai fB)
def Ww(s:ap0):Option (bH×Int):=cond (decide (16384<((s.length:Nat):Int))) ( some ((⟨0,⟨0,0,[]⟩,[],[],⟨0,[]⟩,[],[],0⟩:bH),2)) ( (Nt n s).bind λao=>some (ao.1,ao.2))
def Wx(n:Nat)(bh:Int×Int×Int)(s:ap0)(aR:bH×Int)(v21:Int)(v22:List ap0):Option (bH×(List ap0)×Int):=cond (cond (!decide (v21=((s.length:Nat):Int))) true (decide ((ap2 (1099511627776-aR.1.Pos))<bh.1))) ( some ((⟨0,⟨0,0,[]⟩,[],[],⟨0,[]⟩,[],[],0⟩:bH),([]:List ap0),5)) ( some (aR.1,v22,0))
def Wy(bh:Int×Int×Int)(s:ap0)(aR:bH×Int)(al:Int→(List ap0)→Int→Option (bH×(List ap0)×Int))(ch:Int)(bS:List ap0)(bD:Int):Option (bH×(List ap0)×Int):=cond (decide (bD<bh.1)) ( (NM n 4096 s ch).bind λdA=>cond (!decide (dA.2.1=0)) ( some ((⟨0,⟨0,0,[]⟩,[],[],⟨0,[]⟩,[],[],0⟩:bH),([]:List ap0),dA.2.1)) ( av (room (bS.length+([dA.1]:List ap0).length) 16)<|al dA.2.2 (bS++([dA.1]:List ap0)) (ap2 (bD+1)))) ( Wx n bh s aR ch bS)
def NN(n:Nat)(bh:Int×Int×Int)(s:ap0)(aR:bH×Int):Nat→Int→(List ap0)→Int→Option (bH×(List ap0)×Int)
 | 0=>λ_ _ _=>none
 |m+1=>Wy n bh s aR (NN n bh s aR m)
def Wz(s:ap0):Option (bH×(List ap0)×Int):=cond (decide (16384<((s.length:Nat):Int))) ( some ((⟨0,⟨0,0,[]⟩,[],[],⟨0,[]⟩,[],[],0⟩:bH),([]:List ap0),2)) ( (NM n 16384 s 0).bind λao=>cond (!decide (ao.2.1=0)) ( some ((⟨0,⟨0,0,[]⟩,[],[],⟨0,[]⟩,[],[],0⟩:bH),([]:List ap0),ao.2.1)) ( (Ww n ao.1).bind λaR=>cond (!decide (aR.2=0)) ( some ((⟨0,⟨0,0,[]⟩,[],[],⟨0,[]⟩,[],[],0⟩:bH),([]:List ap0),aR.2)) ( (qd n s ao.2.2 16384).bind λbh=>cond (!decide (bh.2.2=0)) ( some ((⟨0,⟨0,0,[]⟩,[],[],⟨0,[]⟩,[],[],0⟩:bH),([]:List ap0),bh.2.2)) ( NN n bh s aR n bh.2.1 ([]:List ap0) 0))))
def WA(n:Nat)(c:Int):ap4:=some (cond (decide (33≤c)) (decide (c≤126)) false)
def WB(n:Nat):ap4:=some true
def WC(s:ap0)(al:Int→ap4)(v5:Int):ap4:=cond (decide (v5<((s.length:Nat):Int))) ( av (aP v5 s.length)<|(WA n (((s.getD (v5).toNat 0).toNat:Nat):Int)).bind λcA=>cond (!cA) ( some false) ( al (ap2 (v5+1)))) ( WB n)
def NO(n:Nat)(s:ap0):Nat→Int→ap4
 | 0=>λ_=>none
 |m+1=>WC n s (NO n s m)
def WD(s:ap0):ap4:=cond (decide (24<((s.length:Nat):Int))) ( some false) ( NO n s n 0)
def NP(s:ap0):ap4:=(WD n s).bind λah=>some ah
def FQ(ab:Range):ap4:=(NP n ab.dO).bind λah=>Option.bind (cond ah (NP n ab.n5) (some default)) λao=>some (cond (cond ah ao false) (cond (decide (ab.n5=([]:ap0))) true (!((Op.bytesLess ab.n5 ab.dO)||(decide (ab.n5=ab.dO))))) false)
def WE(ab:Range)(k:ap0):ap4:=(FQ n ab).bind λah=>some (cond (cond ah ((Op.bytesLess ab.dO k)||(decide (ab.dO=k))) false) (cond (decide (ab.n5=([]:ap0))) true (Op.bytesLess k ab.n5)) false)
def WF(n:Nat)(cZ:List aY):Option ((List aY)×ap0×Int):=some (cZ,([]:ap0),0)
def NQ(n:Nat)(al:(List aY)→Int→Option ((List aY)×ap0×Int))(cf:Int)(aB:(List aY)×Int)(v12:Int)(ab:Range)(cV:List aY):Option ((List aY)×ap0×Int):=al cV (ap2 (v12+1))
def WG(cf:Int)(aB:(List aY)×Int)(ab:Range)(al:(List aY)→Int→Option ((List aY)×ap0×Int))(v11:List aY)(v12:Int):Option ((List aY)×ap0×Int):=cond (decide (v12<((aB.1.length:Nat):Int))) ( av (aP v12 aB.1.length)<|(WE n ab ((ap3 aB.1 v12).Key)).bind λeC=>cond (!eC) ( NQ n al cf aB v12 ab v11) ( cond (decide (cf≤((v11.length:Nat):Int))) ( some (v11,(ap3 aB.1 v12).Key,0)) ( av (room (v11.length+([(⟨(ap3 aB.1 v12).Key,⟨((ap3 aB.1 v12).bo).Kind,((ap3 aB.1 v12).bo).N,((ap3 aB.1 v12).bo).S⟩⟩:aY)]:List aY).length) 48)<|NQ n al cf aB v12 ab (v11++([(⟨(ap3 aB.1 v12).Key,⟨((ap3 aB.1 v12).bo).Kind,((ap3 aB.1 v12).bo).N,((ap3 aB.1 v12).bo).S⟩⟩:aY)]:List aY))))) ( WF n v11)
def NR(n:Nat)(cf:Int)(aB:(List aY)×Int)(ab:Range):Nat→(List aY)→Int→Option ((List aY)×ap0×Int)
 | 0=>λ_ _=>none
 |m+1=>WG n cf aB ab (NR n cf aB ab m)
def WH(s:ar)(at_:Int)(ab:Range)(cf:Int):Option ((List aY)×ap0×Int):=(FQ n ab).bind λah=>cond (!ah) ( some (([]:List aY),([]:ap0),1)) ( (wL n s at_).bind λaB=>cond (!decide (aB.2=0)) ( some (([]:List aY),([]:ap0),aB.2)) ( NR n cf aB ab n ([]:List aY) 0))
def NS(c:dY)(s:ar)(dZ:Int):Option (dY×Int):=Option.bind (cond (!(decide (dZ<1))) (ud n s) (some default)) λah=>Option.bind (cond (!(cond (decide (dZ<1)) true (!ah))) (FQ n (⟨c.Next,[]⟩:Range)) (some default)) λao=>cond (cond (cond (decide (dZ<1)) true (!ah)) true (!ao)) ( some ((⟨0,⟨0,⟨0,0,[]⟩,[],[],⟨0,[]⟩,[],[],0⟩,[],false,[],[]⟩:dY),1)) ( (NK n c).bind λaR=>cond c.dE ( some (aR,0)) ( (WH n s c.cd (⟨c.Next,[]⟩:Range) dZ).bind λbh=>cond (!decide (bh.2.2=0)) ( some ((⟨0,⟨0,⟨0,0,[]⟩,[],[],⟨0,[]⟩,[],[],0⟩,[],false,[],[]⟩:dY),bh.2.2)) ( av (room (aR.eg.length+bh.1.length) 48)<|some ((⟨aR.cd,aR.Rest,bh.2.1,(decide (bh.2.1=([]:ap0))),(aR.eg++bh.1),aR.cq⟩:dY),0))))
def FR(n:Nat)(k:ap0):Option aY:=some (⟨k,⟨1,1,[]⟩⟩:aY)
def WI(n:Nat):ap4:=some true
def NT(s:ap0)(al:Int→ap4)(v5:Int):ap4:=cond (decide (v5<((s.length:Nat):Int))) ( av (aP v5 s.length)<|av ((decide ((((s.getD (v5).toNat 0).toNat:Nat):Int)<32))||aP v5 s.length)<|cond (cond (decide ((((s.getD (v5).toNat 0).toNat:Nat):Int)<32)) true (decide (126<(((s.getD (v5).toNat 0).toNat:Nat):Int)))) ( some false) ( al (ap2 (v5+1)))) ( WI n)
def AW(n:Nat)(s:ap0):Nat→Int→ap4
 | 0=>λ_=>none
 |m+1=>NT n s (AW n s m)
def FSb(s:ap0):ap4:=cond (decide (64<((s.length:Nat):Int))) ( some false) ( AW n s n 0)
def sl(v:bG):ap4:=cond (decide (v.Kind=0)) ( some (cond (decide (v.N=0)) (decide (v.S=([]:ap0))) false)) ( cond (decide (v.Kind=1)) ( some (decide (v.S=([]:ap0)))) ( Option.bind (cond (cond (decide (v.Kind=2)) (decide (v.N=0)) false) (FSb n v.S) (some default)) λaB=>some (cond (cond (decide (v.Kind=2)) (decide (v.N=0)) false) aB false)))
def NU(n:Nat)(k:ap0):ap4:=some (cond (decide (1≤((k.length:Nat):Int))) (decide (((k.length:Nat):Int)≤24)) false)
def FT(k:ap0)(al:Int→ap4)(v3:Int):ap4:=cond (decide (v3<((k.length:Nat):Int))) ( av (aP v3 k.length)<|cond (cond (cond (cond (cond (cond (cond (decide ((((k.getD (v3).toNat 0).toNat:Nat):Int)<97)) true (decide (122<(((k.getD (v3).toNat 0).toNat:Nat):Int)))) (cond (decide ((((k.getD (v3).toNat 0).toNat:Nat):Int)<48)) true (decide (57<(((k.getD (v3).toNat 0).toNat:Nat):Int)))) false) (!decide ((((k.getD (v3).toNat 0).toNat:Nat):Int)=47)) false) (!decide ((((k.getD (v3).toNat 0).toNat:Nat):Int)=46)) false) (!decide ((((k.getD (v3).toNat 0).toNat:Nat):Int)=95)) false) (!decide ((((k.getD (v3).toNat 0).toNat:Nat):Int)=45)) false) ( some false) ( al (ap2 (v3+1)))) ( NU n k)
def xn(n:Nat)(k:ap0):Nat→Int→ap4
 | 0=>λ_=>none
 |m+1=>FT n k (xn n k m)
def uJ(k:ap0):ap4:=xn n k n 0
def NV(n:Nat):ap4:=some true
def FU(l:List aY)(al:Int→ap4)(v6:Int):ap4:=cond (decide (v6<((l.length:Nat):Int))) ( av (aP v6 l.length)<|(uJ n ((ap3 l v6).Key)).bind λcy=>av ((!cy)||(!(decide (0<v6))||aP v6 l.length))<|av ((!cy)||(!(decide (0<v6))||aP (ap2 (v6-1)) l.length))<|cond (cond (!cy) true (cond (decide (0<v6)) ((Op.bytesLess ((ap3 l v6).Key) ((ap3 l (ap2 (v6-1))).Key))||(decide (((ap3 l v6).Key)=((ap3 l (ap2 (v6-1))).Key)))) false)) ( some false) ( al (ap2 (v6+1)))) ( NV n)
def xo(n:Nat)(l:List aY):Nat→Int→ap4
 | 0=>λ_=>none
 |m+1=>FU n l (xo n l m)
def FV(l:List aY):ap4:=xo n l n 0
def NW(l:List aY):ap4:=(FV n l).bind λcy=>some cy
def FW(l:List aY)(al:Int→ap4)(v4:Int):ap4:=cond (decide (v4<((l.length:Nat):Int))) ( av (aP v4 l.length)<|(sl n ((ap3 l v4).bo)).bind λbh=>cond (!bh) ( some false) ( al (ap2 (v4+1)))) ( NW n l)
def xp(n:Nat)(l:List aY):Nat→Int→ap4
 | 0=>λ_=>none
 |m+1=>FW n l (xp n l m)
def AX(l:List aY):ap4:=xp n l n 0
def NX(l:List aY):ap4:=(AX n l).bind λbh=>some bh
def FX(l:List aY)(al:Int→ap4)(v3:Int):ap4:=cond (decide (v3<((l.length:Nat):Int))) ( av (aP v3 l.length)<|cond (decide (((ap3 l v3).bo).Kind=0)) ( some false) ( al (ap2 (v3+1)))) ( NX n l)
def xq(n:Nat)(l:List aY):Nat→Int→ap4
 | 0=>λ_=>none
 |m+1=>FX n l (xq n l m)
def FY(l:List aY):ap4:=xq n l n 0
def NY(n:Nat)(at_:Int)(bD:List Row):Option (ar×Int):=some ((⟨at_,at_,bD⟩:ar),0)
def FZ(l:List aY)(at_:Int)(al:(List Row)→Int→Option (ar×Int))(bC:List Row)(v9:Int):Option (ar×Int):=cond (decide (v9<((l.length:Nat):Int))) ( av (aP v9 l.length)<|av (aP v9 l.length)<|av (room (bC.length+([(⟨(ap3 l v9).Key,[⟨at_,⟨((ap3 l v9).bo).Kind,((ap3 l v9).bo).N,((ap3 l v9).bo).S⟩⟩]⟩:Row)]:List Row).length) 40)<|al (bC++([(⟨(ap3 l v9).Key,[⟨at_,⟨((ap3 l v9).bo).Kind,((ap3 l v9).bo).N,((ap3 l v9).bo).S⟩⟩]⟩:Row)]:List Row)) (ap2 (v9+1))) ( NY n at_ bC)
def xr(n:Nat)(l:List aY)(at_:Int):Nat→(List Row)→Int→Option (ar×Int)
 | 0=>λ_ _=>none
 |m+1=>FZ n l at_ (xr n l at_ m)
def xt(l:List aY)(at_:Int):Option (ar×Int):=(FY n l).bind λah=>cond (cond (cond (!ah) true (decide (at_<0))) true (decide (1099511627776<at_))) ( some ((⟨0,0,[]⟩:ar),1)) ( xr n l at_ n ([]:List Row) 0)
def WJ:Option bH:=(FR n ([97]:ap0)).bind λah=>(FR n ([98]:ap0)).bind λao=>(FR n ([99]:ap0)).bind λaB=>(xt n ([ah,ao,aB]:List aY) 5).bind λaR=>some (⟨5,aR.1,[],[],⟨0,[⟨1,[],1,0,[]⟩]⟩,[],[],0⟩:bH)
def WK(n:Nat):ap4:=some true
def WL(a:List ap0)(b:List ap0)(al:Int→ap4)(v5:Int):ap4:=cond (decide (v5<((a.length:Nat):Int))) ( av (aP v5 a.length)<|av (aP v5 b.length)<|cond (!(decide ((ap3 a v5)=(ap3 b v5)))) ( some false) ( al (ap2 (v5+1)))) ( WK n)
def NZ(n:Nat)(a:List ap0)(b:List ap0):Nat→Int→ap4
 | 0=>λ_=>none
 |m+1=>WL n a b (NZ n a b m)
def F0(a:List ap0)(b:List ap0):ap4:=cond (!decide (((a.length:Nat):Int)=((b.length:Nat):Int))) ( some false) ( NZ n a b n 0)
def WM(n:Nat)(l:List ap0)(k:ap0)(v6:Int):Option (List ap0):=av (!(decide (v6<((l.length:Nat):Int)))||aP v6 l.length)<|cond (cond (decide (v6<((l.length:Nat):Int))) (decide ((ap3 l v6)=k)) false) ( some l) ( av (gP v6 l.length)<|av (room (([]:List ap0).length+(l.take (v6).toNat).length) 16)<|av (room ((([]:List ap0)++(l.take (v6).toNat)).length+([k]:List ap0).length) 16)<|av (gP v6 l.length)<|av (room (((([]:List ap0)++(l.take (v6).toNat))++([k]:List ap0)).length+(l.drop (v6).toNat).length) 16)<|some (((([]:List ap0)++(l.take (v6).toNat))++([k]:List ap0))++(l.drop (v6).toNat)))
def WN(l:List ap0)(k:ap0)(al:Int→Option (List ap0))(v3:Int):Option (List ap0):=av (!(decide (v3<((l.length:Nat):Int)))||aP v3 l.length)<|cond (cond (decide (v3<((l.length:Nat):Int))) (Op.bytesLess (ap3 l v3) k) false) ( al (ap2 (v3+1))) ( WM n l k v3)
def N0(n:Nat)(l:List ap0)(k:ap0):Nat→Int→Option (List ap0)
 | 0=>λ_=>none
 |m+1=>WN n l k (N0 n l k m)
def WO(l:List ap0)(k:ap0):Option (List ap0):=N0 n l k n 0
def N1(v:bG):ap4:=(sl n v).bind λah=>some ah
def N2(n:Nat):ap4:=some true
def F1(floor:Int)(last:Int)(ab:Row)(al:Int→ap4)(v9:Int):ap4:=cond (decide (v9<((ab.br.length:Nat):Int))) ( av (aP v9 ab.br.length)<|(N1 n (⟨((ap3 ab.br v9).bo).Kind,((ap3 ab.br v9).bo).N,((ap3 ab.br v9).bo).S⟩:bG)).bind λb6=>cond (cond (cond (!b6) true (decide ((ap3 ab.br v9).cd<floor))) true (decide (last<(ap3 ab.br v9).cd))) ( some false) ( av (!(decide (0<v9))||aP (ap2 (v9-1)) ab.br.length)<|av (!(decide (0<v9))||((decide ((ap3 ab.br v9).cd≤(ap3 ab.br (ap2 (v9-1))).cd))||aP (ap2 (v9-1)) ab.br.length))<|cond (cond (decide (0<v9)) (cond (decide ((ap3 ab.br v9).cd≤(ap3 ab.br (ap2 (v9-1))).cd)) true ((decide (((ap3 ab.br v9).bo).Kind=((ap3 ab.br (ap2 (v9-1))).bo).Kind))&&((decide (((ap3 ab.br v9).bo).N=((ap3 ab.br (ap2 (v9-1))).bo).N))&&((decide (((ap3 ab.br v9).bo).S=((ap3 ab.br (ap2 (v9-1))).bo).S))&&true)))) false) ( some false) ( al (ap2 (v9+1))))) ( N2 n)
def xu(n:Nat)(floor:Int)(last:Int)(ab:Row):Nat→Int→ap4
 | 0=>λ_=>none
 |m+1=>F1 n floor last ab (xu n floor last ab m)
def F2(ab:Row)(floor:Int)(last:Int):ap4:=(uJ n ab.Key).bind λah=>av ((cond (!ah) true (decide (((ab.br.length:Nat):Int)=0)))||aP 0 ab.br.length)<|cond (cond (cond (!ah) true (decide (((ab.br.length:Nat):Int)=0))) true (decide (((ab.br.getD 0 default).bo).Kind=0))) ( some false) ( xu n floor last ab n 0)
def N3(n:Nat):ap4:=some true
def F3(s:ar)(al:Int→ap4)(bA:Int):ap4:=cond (decide (bA<((s.Rows.length:Nat):Int))) ( av (aP bA s.Rows.length)<|(F2 n (ap3 s.Rows bA) s.bw s.bq).bind λcQ=>av ((!cQ)||(!(decide (0<bA))||aP (ap2 (bA-1)) s.Rows.length))<|av ((!cQ)||(!(decide (0<bA))||aP bA s.Rows.length))<|cond (cond (!cQ) true (cond (decide (0<bA)) (!(Op.bytesLess ((ap3 s.Rows (ap2 (bA-1))).Key) ((ap3 s.Rows bA).Key))) false)) ( some false) ( al (ap2 (bA+1)))) ( N3 n)
def xv(n:Nat)(s:ar):Nat→Int→ap4
 | 0=>λ_=>none
 |m+1=>F3 n s (xv n s m)
def uK(s:ar):ap4:=cond (cond (cond (decide (s.bw<0)) true (decide (s.bq<s.bw))) true (decide (1099511627776<s.bq))) ( some false) ( xv n s n 0)
def WP(n:Nat)(key:ap0):Option Row:=some (⟨key,[]⟩:Row)
def WQ(key:ap0)(s:ar)(al:Int→Option Row)(v4:Int):Option Row:=cond (decide (v4<((s.Rows.length:Nat):Int))) ( av (aP v4 s.Rows.length)<|cond (decide (((ap3 s.Rows v4).Key)=key)) ( av (aP v4 s.Rows.length)<|some (ap3 s.Rows v4)) ( al (ap2 (v4+1)))) ( WP n key)
def N4(n:Nat)(key:ap0)(s:ar):Nat→Int→Option Row
 | 0=>λ_=>none
 |m+1=>WQ n key s (N4 n key s m)
def WR(s:ar)(key:ap0):Option Row:=N4 n key s n 0
def N5(n:Nat)(v23:Int)(v24:Int)(v25:ap0):Option bG:=some (⟨v23,v24,v25⟩:bG)
def F4(n:Nat)(al:Int→Int→ap0→Int→Option bG)(at_:Int)(ch:Int)(ab:Row)(cV:Int)(aX:Int)(cl:ap0):Option bG:=al cV aX cl (ap2 (ch+1))
def N6(at_:Int)(ab:Row)(al:Int→Int→ap0→Int→Option bG)(v10:Int)(v11:Int)(v12:ap0)(ch:Int):Option bG:=cond (decide (ch<((ab.br.length:Nat):Int))) ( av (aP ch ab.br.length)<|cond (decide ((ap3 ab.br ch).cd≤at_)) ( av (aP ch ab.br.length)<|F4 n al at_ ch ab (((ap3 ab.br ch).bo).Kind) (((ap3 ab.br ch).bo).N) (((ap3 ab.br ch).bo).S)) ( F4 n al at_ ch ab v10 v11 v12)) ( N5 n v10 v11 v12)
def AY(n:Nat)(at_:Int)(ab:Row):Nat→Int→Int→ap0→Int→Option bG
 | 0=>λ_ _ _ _=>none
 |m+1=>N6 n at_ ab (AY n at_ ab m)
def AZ(ab:Row)(at_:Int):Option bG:=AY n at_ ab n 0 0 ([]:ap0) 0
def WS(n:Nat)(s:ar)(at_:Int)(F5:List Row):Option (ar×Int):=some ((⟨s.bw,at_,F5⟩:ar),0)
def N7(n:Nat)(dD:(List Row)→Int→Option (ar×Int))(at_:Int)(writes:List aY)(v26:List ap0)(hB:Int)(s:ar)(F6:List Row):Option (ar×Int):=dD F6 (ap2 (hB+1))
def WT(dD:(List Row)→Int→Option (ar×Int))(at_:Int)(writes:List aY)(v26:List ap0)(hB:Int)(s:ar)(v53:List Row)(e_:Row)(v76:List Version):Option (ar×Int):=cond (decide (0<((v76.length:Nat):Int))) ( av (room (v53.length+([(⟨e_.Key,v76⟩:Row)]:List Row).length) 40)<|N7 n dD at_ writes v26 hB s (v53++([(⟨e_.Key,v76⟩:Row)]:List Row))) ( N7 n dD at_ writes v26 hB s v53)
def N8(n:Nat)(q_:(List Version)→Int→Option (ar×Int))(dD:(List Row)→Int→Option (ar×Int))(at_:Int)(writes:List aY)(v26:List ap0)(hB:Int)(ge:Int)(s:ar)(v53:List Row)(e_:Row)(F7:List Version):Option (ar×Int):=q_ F7 (ap2 (ge+1))
def WU(dD:(List Row)→Int→Option (ar×Int))(at_:Int)(writes:List aY)(v26:List ap0)(hB:Int)(s:ar)(v53:List Row)(e_:Row)(q_:(List Version)→Int→Option (ar×Int))(ra:List Version)(ge:Int):Option (ar×Int):=cond (decide (ge<((writes.length:Nat):Int))) ( av (aP ge writes.length)<|av (!(decide (((ap3 writes ge).Key)=e_.Key))||aP ge writes.length)<|Option.bind (cond (decide (((ap3 writes ge).Key)=e_.Key)) (AZ n e_ s.bq) (some default)) λmd=>cond (cond (decide (((ap3 writes ge).Key)=e_.Key)) (!((decide (((ap3 writes ge).bo).Kind=md.Kind))&&((decide (((ap3 writes ge).bo).N=md.N))&&((decide (((ap3 writes ge).bo).S=md.S))&&true)))) false) ( av (aP ge writes.length)<|av (room (ra.length+([(⟨at_,⟨((ap3 writes ge).bo).Kind,((ap3 writes ge).bo).N,((ap3 writes ge).bo).S⟩⟩:Version)]:List Version).length) 40)<|N8 n q_ dD at_ writes v26 hB ge s v53 e_ (ra++([(⟨at_,⟨((ap3 writes ge).bo).Kind,((ap3 writes ge).bo).N,((ap3 writes ge).bo).S⟩⟩:Version)]:List Version))) ( N8 n q_ dD at_ writes v26 hB ge s v53 e_ ra)) ( WT n dD at_ writes v26 hB s v53 e_ ra)
def N9(n:Nat)(dD:(List Row)→Int→Option (ar×Int))(at_:Int)(writes:List aY)(v26:List ap0)(hB:Int)(s:ar)(v53:List Row)(e_:Row):Nat→(List Version)→Int→Option (ar×Int)
 | 0=>λ_ _=>none
 |m+1=>WU n dD at_ writes v26 hB s v53 e_ (N9 n dD at_ writes v26 hB s v53 e_ m)
def WV(at_:Int)(writes:List aY)(v26:List ap0)(s:ar)(dD:(List Row)→Int→Option (ar×Int))(v53:List Row)(hB:Int):Option (ar×Int):=cond (decide (hB<((v26.length:Nat):Int))) ( av (aP hB v26.length)<|(WR n s (ap3 v26 hB)).bind λe_=>av (room (([]:List Version).length+e_.br.length) 40)<|N9 n dD at_ writes v26 hB s v53 e_ n (([]:List Version)++e_.br) 0) ( WS n s at_ v53)
def N'(n:Nat)(at_:Int)(writes:List aY)(v26:List ap0)(s:ar):Nat→(List Row)→Int→Option (ar×Int)
 | 0=>λ_ _=>none
 |m+1=>WV n at_ writes v26 s (N' n at_ writes v26 s m)
def WW(at_:Int)(writes:List aY)(s:ar)(v26:List ap0):Option (ar×Int):=N' n at_ writes v26 s n ([]:List Row) 0
def WX(at_:Int)(writes:List aY)(s:ar)(WY:Int→(List ap0)→Option (ar×Int))(v20:Int)(v21:List ap0):Option (ar×Int):=cond (decide (v20<((writes.length:Nat):Int))) ( av (aP v20 writes.length)<|(WO n v21 ((ap3 writes v20).Key)).bind λeh=>WY (ap2 (v20+1)) eh) ( WW n at_ writes s v21)
def N_(n:Nat)(at_:Int)(writes:List aY)(s:ar):Nat→Int→(List ap0)→Option (ar×Int)
 | 0=>λ_ _=>none
 |m+1=>WX n at_ writes s (N_ n at_ writes s m)
def WZ(at_:Int)(writes:List aY)(s:ar)(bD:List ap0):Option (ar×Int):=N_ n at_ writes s n 0 bD
def W0(at_:Int)(writes:List aY)(s:ar)(W1:(List ap0)→Int→Option (ar×Int))(v9:List ap0)(v10:Int):Option (ar×Int):=cond (decide (v10<((s.Rows.length:Nat):Int))) ( av (aP v10 s.Rows.length)<|av (room (v9.length+([(ap3 s.Rows v10).Key]:List ap0).length) 16)<|W1 (v9++([(ap3 s.Rows v10).Key]:List ap0)) (ap2 (v10+1))) ( WZ n at_ writes s v9)
def Oa(n:Nat)(at_:Int)(writes:List aY)(s:ar):Nat→(List ap0)→Int→Option (ar×Int)
 | 0=>λ_ _=>none
 |m+1=>W0 n at_ writes s (Oa n at_ writes s m)
def W2(s:ar)(at_:Int)(writes:List aY):Option (ar×Int):=(uK n s).bind λah=>Option.bind (cond (!(!ah)) (AX n writes) (some default)) λao=>cond (cond (!ah) true (!ao)) ( some ((⟨0,0,[]⟩:ar),1)) ( cond (cond (decide (at_≤s.bq)) true (decide (1099511627776<at_))) ( some ((⟨0,0,[]⟩:ar),16)) ( Oa n at_ writes s n ([]:List ap0) 0))
def W3(n:Nat)(mO:Expr→Expr→ap4):ap4:=some true
def W4(mO:Expr→Expr→ap4)(a:Expr)(b:Expr)(al:Int→ap4)(v6:Int):ap4:=cond (decide (v6<((a.aw.length:Nat):Int))) ( av (aP v6 a.aw.length)<|av (aP v6 b.aw.length)<|(mO (ap3 a.aw v6) (ap3 b.aw v6)).bind λcQ=>cond (!cQ) ( some false) ( al (ap2 (v6+1)))) ( W3 n mO)
def Ob(n:Nat)(mO:Expr→Expr→ap4)(a:Expr)(b:Expr):Nat→Int→ap4
 | 0=>λ_=>none
 |m+1=>W4 n mO a b (Ob n mO a b m)
def W5(mO:Expr→Expr→ap4)(a:Expr)(b:Expr):ap4:=cond (cond (cond (cond (!decide (a.Op=b.Op)) true (!decide (a.N=b.N))) true (!(decide (a.S=b.S)))) true (!decide (((a.aw.length:Nat):Int)=((b.aw.length:Nat):Int)))) ( some false) ( Ob n mO a b n 0)
def F8:Nat→Expr→Expr→ap4
 | 0=>λ_ _=>none
 |m+1=>W5 m (F8 m)
def W6(n:Nat)(mf:(List Stmt)→(List Stmt)→ap4):ap4:=some true
def W7(mf:(List Stmt)→(List Stmt)→ap4)(a:List Stmt)(b:List Stmt)(al:Int→ap4)(v9:Int):ap4:=cond (decide (v9<((a.length:Nat):Int))) ( av (aP v9 a.length)<|av (aP v9 b.length)<|Option.bind (cond (!(cond (cond (!decide ((ap3 a v9).Op=(ap3 b v9).Op)) true (!(decide (((ap3 a v9).Name)=((ap3 b v9).Name))))) true (!decide ((ap3 a v9).Max=(ap3 b v9).Max)))) (F8 n (⟨((ap3 a v9).A).Op,((ap3 a v9).A).N,((ap3 a v9).A).S,((ap3 a v9).A).aw⟩:Expr) (⟨((ap3 b v9).A).Op,((ap3 b v9).A).N,((ap3 b v9).A).S,((ap3 b v9).A).aw⟩:Expr)) (some default)) λfu=>Option.bind (cond (!(cond (cond (cond (!decide ((ap3 a v9).Op=(ap3 b v9).Op)) true (!(decide (((ap3 a v9).Name)=((ap3 b v9).Name))))) true (!decide ((ap3 a v9).Max=(ap3 b v9).Max))) true (!fu))) (F8 n (⟨((ap3 a v9).B).Op,((ap3 a v9).B).N,((ap3 a v9).B).S,((ap3 a v9).B).aw⟩:Expr) (⟨((ap3 b v9).B).Op,((ap3 b v9).B).N,((ap3 b v9).B).S,((ap3 b v9).B).aw⟩:Expr)) (some default)) λdz=>Option.bind (cond (!(cond (cond (cond (cond (!decide ((ap3 a v9).Op=(ap3 b v9).Op)) true (!(decide (((ap3 a v9).Name)=((ap3 b v9).Name))))) true (!decide ((ap3 a v9).Max=(ap3 b v9).Max))) true (!fu)) true (!dz))) (mf ((ap3 a v9).Body) ((ap3 b v9).Body)) (some default)) λeC=>Option.bind (cond (!(cond (cond (cond (cond (cond (!decide ((ap3 a v9).Op=(ap3 b v9).Op)) true (!(decide (((ap3 a v9).Name)=((ap3 b v9).Name))))) true (!decide ((ap3 a v9).Max=(ap3 b v9).Max))) true (!fu)) true (!dz)) true (!eC))) (mf ((ap3 a v9).bX) ((ap3 b v9).bX)) (some default)) λdK=>cond (cond (cond (cond (cond (cond (cond (!decide ((ap3 a v9).Op=(ap3 b v9).Op)) true (!(decide (((ap3 a v9).Name)=((ap3 b v9).Name))))) true (!decide ((ap3 a v9).Max=(ap3 b v9).Max))) true (!fu)) true (!dz)) true (!eC)) true (!dK)) ( some false) ( al (ap2 (v9+1)))) ( W6 n mf)
def Oc(n:Nat)(mf:(List Stmt)→(List Stmt)→ap4)(a:List Stmt)(b:List Stmt):Nat→Int→ap4
 | 0=>λ_=>none
 |m+1=>W7 n mf a b (Oc n mf a b m)
def W8(mf:(List Stmt)→(List Stmt)→ap4)(a:List Stmt)(b:List Stmt):ap4:=cond (!decide (((a.length:Nat):Int)=((b.length:Nat):Int))) ( some false) ( Oc n mf a b n 0)
def Od:Nat→(List Stmt)→(List Stmt)→ap4
 | 0=>λ_ _=>none
 |m+1=>W8 m (Od m)
def W9(a:bi)(b:bi):ap4:=(Od n a.Body b.Body).bind λcQ=>some cQ
def W'(a:bi)(b:bi)(al:Int→ap4)(v5:Int):ap4:=cond (decide (v5<((a.Params.length:Nat):Int))) ( av (aP v5 a.Params.length)<|av (aP v5 b.Params.length)<|cond (!((decide ((ap3 a.Params v5).Name=(ap3 b.Params v5).Name))&&((decide ((ap3 a.Params v5).fP=(ap3 b.Params v5).fP))&&true))) ( some false) ( al (ap2 (v5+1)))) ( W9 n a b)
def Oe(n:Nat)(a:bi)(b:bi):Nat→Int→ap4
 | 0=>λ_=>none
 |m+1=>W' n a b (Oe n a b m)
def W_(a:bi)(b:bi):ap4:=cond (cond (!(decide (a.Name=b.Name))) true (!decide (((a.Params.length:Nat):Int)=((b.Params.length:Nat):Int)))) ( some false) ( Oe n a b n 0)
def Xa(n:Nat):ap4:=some true
def Xb(a:List bi)(b:List bi)(al:Int→ap4)(v6:Int):ap4:=cond (decide (v6<((a.length:Nat):Int))) ( av (aP v6 a.length)<|av (aP v6 b.length)<|(W_ n (ap3 a v6) (ap3 b v6)).bind λcQ=>cond (!cQ) ( some false) ( al (ap2 (v6+1)))) ( Xa n)
def Of(n:Nat)(a:List bi)(b:List bi):Nat→Int→ap4
 | 0=>λ_=>none
 |m+1=>Xb n a b (Of n a b m)
def Xc(a:List bi)(b:List bi):ap4:=cond (!decide (((a.length:Nat):Int)=((b.length:Nat):Int))) ( some false) ( Of n a b n 0)
def Xd(n:Nat):ap4:=some true
def Xe(n:Nat)(al:Int→ap4)(v12:Int)(a:ar)(b:ar):ap4:=al (ap2 (v12+1))
def Xf(al:Int→ap4)(v12:Int)(a:ar)(b:ar)(dD:Int→ap4)(cl:Int):ap4:=cond (decide (cl<((((ap3 a.Rows v12).br).length:Nat):Int))) ( av (aP cl ((ap3 a.Rows v12).br).length)<|av (aP cl ((ap3 b.Rows v12).br).length)<|cond (!((decide ((((ap3 a.Rows v12).br).getD (cl).toNat default).cd=(((ap3 b.Rows v12).br).getD (cl).toNat default).cd))&&((decide (((((ap3 a.Rows v12).br).getD (cl).toNat default).bo).Kind=((((ap3 b.Rows v12).br).getD (cl).toNat default).bo).Kind))&&((decide (((((ap3 a.Rows v12).br).getD (cl).toNat default).bo).N=((((ap3 b.Rows v12).br).getD (cl).toNat default).bo).N))&&((decide (((((ap3 a.Rows v12).br).getD (cl).toNat default).bo).S=((((ap3 b.Rows v12).br).getD (cl).toNat default).bo).S))&&true))))) ( some false) ( dD (ap2 (cl+1)))) ( Xe n al v12 a b)
def Og(n:Nat)(al:Int→ap4)(v12:Int)(a:ar)(b:ar):Nat→Int→ap4
 | 0=>λ_=>none
 |m+1=>Xf n al v12 a b (Og n al v12 a b m)
def Xg(a:ar)(b:ar)(al:Int→ap4)(v12:Int):ap4:=cond (decide (v12<((a.Rows.length:Nat):Int))) ( av (aP v12 a.Rows.length)<|av (aP v12 b.Rows.length)<|cond (cond (!(decide (((ap3 a.Rows v12).Key)=((ap3 b.Rows v12).Key)))) true (!decide (((((ap3 a.Rows v12).br).length:Nat):Int)=((((ap3 b.Rows v12).br).length:Nat):Int)))) ( some false) ( Og n al v12 a b n 0)) ( Xd n)
def Oh(n:Nat)(a:ar)(b:ar):Nat→Int→ap4
 | 0=>λ_=>none
 |m+1=>Xg n a b (Oh n a b m)
def Xh(a:ar)(b:ar):ap4:=cond (cond (cond (!decide (a.bw=b.bw)) true (!decide (a.bq=b.bq))) true (!decide (((a.Rows.length:Nat):Int)=((b.Rows.length:Nat):Int)))) ( some false) ( Oh n a b n 0)
def Xi(n:Nat):ap4:=some true
def Xj(a:b1)(b:b1)(al:Int→ap4)(v5:Int):ap4:=cond (decide (v5<((a.aF.length:Nat):Int))) ( av (aP v5 a.aF.length)<|av (aP v5 b.aF.length)<|cond (!((decide ((ap3 a.aF v5).Id=(ap3 b.aF v5).Id))&&((decide ((ap3 a.aF v5).dO=(ap3 b.aF v5).dO))&&((decide ((ap3 a.aF v5).Node=(ap3 b.aF v5).Node))&&((decide ((ap3 a.aF v5).fy=(ap3 b.aF v5).fy))&&((decide ((ap3 a.aF v5).dE=(ap3 b.aF v5).dE))&&true)))))) ( some false) ( al (ap2 (v5+1)))) ( Xi n)
def Oi(n:Nat)(a:b1)(b:b1):Nat→Int→ap4
 | 0=>λ_=>none
 |m+1=>Xj n a b (Oi n a b m)
def Xk(a:b1)(b:b1):ap4:=cond (cond (!decide (a.Version=b.Version)) true (!decide (((a.aF.length:Nat):Int)=((b.aF.length:Nat):Int)))) ( some false) ( Oi n a b n 0)
def Xl(n:Nat):ap4:=some true
def Xm(a:List bd)(b:List bd)(al:Int→ap4)(v5:Int):ap4:=cond (decide (v5<((a.length:Nat):Int))) ( av (aP v5 a.length)<|av (aP v5 b.length)<|cond (!((decide ((ap3 a v5).Key=(ap3 b v5).Key))&&((decide ((ap3 a v5).Count=(ap3 b v5).Count))&&true))) ( some false) ( al (ap2 (v5+1)))) ( Xl n)
def Oj(n:Nat)(a:List bd)(b:List bd):Nat→Int→ap4
 | 0=>λ_=>none
 |m+1=>Xm n a b (Oj n a b m)
def Xn(a:List bd)(b:List bd):ap4:=cond (!decide (((a.length:Nat):Int)=((b.length:Nat):Int))) ( some false) ( Oj n a b n 0)
def Xo(a:e9)(b:e9):ap4:=Option.bind (cond (a.dV == b.dV) (F0 n a.Reads b.Reads) (some default)) λah=>Option.bind (cond (cond (a.dV == b.dV) ah false) (F0 n a.co b.co) (some default)) λao=>some (cond (cond (a.dV == b.dV) ah false) ao false)
def Xp(n:Nat):ap4:=some true
def Xq(a:Request)(b:Request)(al:Int→ap4)(v6:Int):ap4:=cond (decide (v6<((a.aw.length:Nat):Int))) ( av (aP v6 a.aw.length)<|av (aP v6 b.aw.length)<|cond (!((decide ((ap3 a.aw v6).Kind=(ap3 b.aw v6).Kind))&&((decide ((ap3 a.aw v6).N=(ap3 b.aw v6).N))&&((decide ((ap3 a.aw v6).S=(ap3 b.aw v6).S))&&true)))) ( some false) ( al (ap2 (v6+1)))) ( Xp n)
def Ok(n:Nat)(a:Request)(b:Request):Nat→Int→ap4
 | 0=>λ_=>none
 |m+1=>Xq n a b (Ok n a b m)
def Xr(a:Request)(b:Request):ap4:=Option.bind (cond (!(cond (cond (cond (cond (!decide (a.Client=b.Client)) true (!decide (a.Seq=b.Seq))) true (!(decide (a.bi=b.bi)))) true (!(a.dX == b.dX))) true (!decide (((a.aw.length:Nat):Int)=((b.aw.length:Nat):Int))))) (Xo n a.bp b.bp) (some default)) λah=>cond (cond (cond (cond (cond (cond (!decide (a.Client=b.Client)) true (!decide (a.Seq=b.Seq))) true (!(decide (a.bi=b.bi)))) true (!(a.dX == b.dX))) true (!decide (((a.aw.length:Nat):Int)=((b.aw.length:Nat):Int)))) true (!ah)) ( some false) ( Ok n a b n 0)
def Xs(n:Nat):ap4:=some true
def Xt(a:Outcome)(b:Outcome)(al:Int→ap4)(v5:Int):ap4:=cond (decide (v5<((a.Out.length:Nat):Int))) ( av (aP v5 a.Out.length)<|av (aP v5 b.Out.length)<|cond (!((decide ((ap3 a.Out v5).Kind=(ap3 b.Out v5).Kind))&&((decide ((ap3 a.Out v5).N=(ap3 b.Out v5).N))&&((decide ((ap3 a.Out v5).S=(ap3 b.Out v5).S))&&true)))) ( some false) ( al (ap2 (v5+1)))) ( Xs n)
def Ol(n:Nat)(a:Outcome)(b:Outcome):Nat→Int→ap4
 | 0=>λ_=>none
 |m+1=>Xt n a b (Ol n a b m)
def Xu(a:Outcome)(b:Outcome):ap4:=cond (cond (cond (!decide (a.Status=b.Status)) true (!decide (a.Code=b.Code))) true (!decide (((a.Out.length:Nat):Int)=((b.Out.length:Nat):Int)))) ( some false) ( Ol n a b n 0)
def Xv(a:eI)(b:eI):ap4:=Option.bind (cond (cond (decide (a.Client=b.Client)) (decide (a.Seq=b.Seq)) false) (Xu n a.Outcome b.Outcome) (some default)) λah=>some (cond (cond (decide (a.Client=b.Client)) (decide (a.Seq=b.Seq)) false) ah false)
def Xw(n:Nat):ap4:=some true
def Xx(a:List eI)(b:List eI)(al:Int→ap4)(v6:Int):ap4:=cond (decide (v6<((a.length:Nat):Int))) ( av (aP v6 a.length)<|av (aP v6 b.length)<|(Xv n (ap3 a v6) (ap3 b v6)).bind λcQ=>cond (!cQ) ( some false) ( al (ap2 (v6+1)))) ( Xw n)
def Om(n:Nat)(a:List eI)(b:List eI):Nat→Int→ap4
 | 0=>λ_=>none
 |m+1=>Xx n a b (Om n a b m)
def Xy(a:List eI)(b:List eI):ap4:=cond (!decide (((a.length:Nat):Int)=((b.length:Nat):Int))) ( some false) ( Om n a b n 0)
def Xz(n:Nat):ap4:=some true
def XA(a:List bV)(b:List bV)(al:Int→ap4)(v10:Int):ap4:=cond (decide (v10<((a.length:Nat):Int))) ( av (aP v10 a.length)<|av (aP v10 b.length)<|av ((!decide ((ap3 a v10).Client=(ap3 b v10).Client))||aP v10 a.length)<|av ((!decide ((ap3 a v10).Client=(ap3 b v10).Client))||aP v10 b.length)<|av ((cond (!decide ((ap3 a v10).Client=(ap3 b v10).Client)) true (!decide ((ap3 a v10).Next=(ap3 b v10).Next)))||aP v10 a.length)<|av ((cond (!decide ((ap3 a v10).Client=(ap3 b v10).Client)) true (!decide ((ap3 a v10).Next=(ap3 b v10).Next)))||aP v10 b.length)<|Option.bind (cond (!(cond (!decide ((ap3 a v10).Client=(ap3 b v10).Client)) true (!decide ((ap3 a v10).Next=(ap3 b v10).Next)))) (Xy n ((ap3 a v10).b') ((ap3 b v10).b')) (some default)) λeR=>cond (cond (cond (!decide ((ap3 a v10).Client=(ap3 b v10).Client)) true (!decide ((ap3 a v10).Next=(ap3 b v10).Next))) true (!eR)) ( some false) ( al (ap2 (v10+1)))) ( Xz n)
def On(n:Nat)(a:List bV)(b:List bV):Nat→Int→ap4
 | 0=>λ_=>none
 |m+1=>XA n a b (On n a b m)
def XB(a:List bV)(b:List bV):ap4:=cond (!decide (((a.length:Nat):Int)=((b.length:Nat):Int))) ( some false) ( On n a b n 0)
def XC(n:Nat):ap4:=some true
def XD(a:bH)(b:bH)(al:Int→ap4)(v11:Int):ap4:=cond (decide (v11<((a.Queue.length:Nat):Int))) ( av (aP v11 a.Queue.length)<|av (aP v11 b.Queue.length)<|(Xr n (ap3 a.Queue v11) (ap3 b.Queue v11)).bind λeC=>cond (!eC) ( some false) ( al (ap2 (v11+1)))) ( XC n)
def Oo(n:Nat)(a:bH)(b:bH):Nat→Int→ap4
 | 0=>λ_=>none
 |m+1=>XD n a b (Oo n a b m)
def XE(a:bH)(b:bH):ap4:=Option.bind (cond (!(cond (!decide (a.Pos=b.Pos)) true (!decide (a.b2=b.b2)))) (Xh n a.ar b.ar) (some default)) λah=>Option.bind (cond (!(cond (cond (!decide (a.Pos=b.Pos)) true (!decide (a.b2=b.b2))) true (!ah))) (Xc n a.bI b.bI) (some default)) λao=>Option.bind (cond (!(cond (cond (cond (!decide (a.Pos=b.Pos)) true (!decide (a.b2=b.b2))) true (!ah)) true (!ao))) (XB n a.bO b.bO) (some default)) λaB=>Option.bind (cond (!(cond (cond (cond (cond (!decide (a.Pos=b.Pos)) true (!decide (a.b2=b.b2))) true (!ah)) true (!ao)) true (!aB))) (Xk n a.Place b.Place) (some default)) λaR=>Option.bind (cond (!(cond (cond (cond (cond (cond (!decide (a.Pos=b.Pos)) true (!decide (a.b2=b.b2))) true (!ah)) true (!ao)) true (!aB)) true (!aR))) (Xn n a.bd b.bd) (some default)) λb5=>cond (cond (cond (cond (cond (cond (cond (cond (!decide (a.Pos=b.Pos)) true (!decide (a.b2=b.b2))) true (!ah)) true (!ao)) true (!aB)) true (!aR)) true (!b5)) true (!decide (((a.Queue.length:Nat):Int)=((b.Queue.length:Nat):Int)))) ( some false) ( Oo n a b n 0)
def Oq(n:Nat)(aX:List aY):Option (List aY):=some aX
def A0(n:Nat)(al:(List aY)→Int→Option (List aY))(at_:Int)(v9:Int)(s:ar)(bS:List aY):Option (List aY):=al bS (ap2 (v9+1))
def Ot(at_:Int)(s:ar)(al:(List aY)→Int→Option (List aY))(bC:List aY)(v9:Int):Option (List aY):=cond (decide (v9<((s.Rows.length:Nat):Int))) ( av (aP v9 s.Rows.length)<|(AZ n (ap3 s.Rows v9) at_).bind λb6=>cond (!decide (b6.Kind=0)) ( av (aP v9 s.Rows.length)<|av (room (bC.length+([(⟨(ap3 s.Rows v9).Key,b6⟩:aY)]:List aY).length) 48)<|A0 n al at_ v9 s (bC++([(⟨(ap3 s.Rows v9).Key,b6⟩:aY)]:List aY))) ( A0 n al at_ v9 s bC)) ( Oq n bC)
def xw(n:Nat)(at_:Int)(s:ar):Nat→(List aY)→Int→Option (List aY)
 | 0=>λ_ _=>none
 |m+1=>Ot n at_ s (xw n at_ s m)
def Ou(s:ar)(at_:Int):Option (List aY):=xw n at_ s n ([]:List aY) 0
def xx(s:ar)(at_:Int):Option ((List aY)×Int):=(uK n s).bind λah=>cond (!ah) ( some (([]:List aY),1)) ( cond (cond (decide (at_<s.bw)) true (decide (s.bq<at_))) ( some (([]:List aY),15)) ( (Ou n s at_).bind λaR=>some (aR,0)))
def Ov(n:Nat):ap4:=some true
def F9(s:ap0)(al:Int→ap4)(v5:Int):ap4:=cond (decide (v5<((s.length:Nat):Int))) ( av (aP v5 s.length)<|av ((decide ((((s.getD (v5).toNat 0).toNat:Nat):Int)<33))||aP v5 s.length)<|cond (cond (decide ((((s.getD (v5).toNat 0).toNat:Nat):Int)<33)) true (decide (126<(((s.getD (v5).toNat 0).toNat:Nat):Int)))) ( some false) ( al (ap2 (v5+1)))) ( Ov n)
def xy(n:Nat)(s:ap0):Nat→Int→ap4
 | 0=>λ_=>none
 |m+1=>F9 n s (xy n s m)
def A1(s:ap0):ap4:=cond (decide (24<((s.length:Nat):Int))) ( some false) ( xy n s n 0)
def F'(x:Part)(next:ap0)(last:Bool):ap4:=cond (decide (x.fy=0)) ( some (decide (x.dE=([]:ap0)))) ( Option.bind (cond (cond (cond (decide (1≤x.fy)) (decide (x.fy≤16)) false) (!decide (x.fy=x.Node)) false) (A1 n x.dE) (some default)) λao=>some (cond (cond (cond (cond (cond (decide (1≤x.fy)) (decide (x.fy≤16)) false) (!decide (x.fy=x.Node)) false) ao false) (!(Op.bytesLess x.dE x.dO)) false) (cond last true (Op.bytesLess x.dE next)) false))
def Ow(n:Nat):ap4:=some true
def Ox(n:Nat)(al:Int→ap4)(p:b1)(bD:Int):ap4:=al (ap2 (bD+1))
def F_(al:Int→ap4)(p:b1)(bD:Int)(o8:Int→ap4)(v24:Int):ap4:=cond (decide (v24<bD)) ( av (aP v24 p.aF.length)<|cond (decide ((ap3 p.aF v24).Id=(ap3 p.aF bD).Id)) ( some false) ( o8 (ap2 (v24+1)))) ( Ox n al p bD)
def uL(n:Nat)(al:Int→ap4)(p:b1)(bD:Int):Nat→Int→ap4
 | 0=>λ_=>none
 |m+1=>F_ n al p bD (uL n al p bD m)
def A2(al:Int→ap4)(p:b1)(bD:Int)(cl:ap0):ap4:=(A1 n ((ap3 p.aF bD).dO)).bind λeO=>av ((!eO)||(!(decide (0<bD))||aP (ap2 (bD-1)) p.aF.length))<|Option.bind (cond (!(cond (cond (cond (cond (cond (!eO) true (cond (decide (0<bD)) ((Op.bytesLess ((ap3 p.aF bD).dO) ((ap3 p.aF (ap2 (bD-1))).dO))||(decide (((ap3 p.aF bD).dO)=((ap3 p.aF (ap2 (bD-1))).dO)))) false)) true (decide ((ap3 p.aF bD).Id<1))) true (decide (1099511627776<(ap3 p.aF bD).Id))) true (decide ((ap3 p.aF bD).Node<1))) true (decide (16<(ap3 p.aF bD).Node)))) (F' n (ap3 p.aF bD) cl (decide ((ap2 (bD+1))=((p.aF.length:Nat):Int)))) (some default)) λfs=>cond (cond (cond (cond (cond (cond (cond (!eO) true (cond (decide (0<bD)) ((Op.bytesLess ((ap3 p.aF bD).dO) ((ap3 p.aF (ap2 (bD-1))).dO))||(decide (((ap3 p.aF bD).dO)=((ap3 p.aF (ap2 (bD-1))).dO)))) false)) true (decide ((ap3 p.aF bD).Id<1))) true (decide (1099511627776<(ap3 p.aF bD).Id))) true (decide ((ap3 p.aF bD).Node<1))) true (decide (16<(ap3 p.aF bD).Node))) true (!fs)) ( some false) ( uL n al p bD n 0)
def Ga(p:b1)(al:Int→ap4)(bD:Int):ap4:=cond (decide (bD<((p.aF.length:Nat):Int))) ( av (aP bD p.aF.length)<|cond (decide ((ap2 (bD+1))<((p.aF.length:Nat):Int))) ( av (aP (ap2 (bD+1)) p.aF.length)<|A2 n al p bD ((ap3 p.aF (ap2 (bD+1))).dO)) ( A2 n al p bD ([]:ap0))) ( Ow n)
def xz(n:Nat)(p:b1):Nat→Int→ap4
 | 0=>λ_=>none
 |m+1=>Ga n p (xz n p m)
def Gb(p:b1):ap4:=av ((cond (cond (cond (decide (p.Version<0)) true (decide (1099511627776<p.Version))) true (decide (((p.aF.length:Nat):Int)<1))) true (decide (16<((p.aF.length:Nat):Int))))||aP 0 p.aF.length)<|cond (cond (cond (cond (cond (decide (p.Version<0)) true (decide (1099511627776<p.Version))) true (decide (((p.aF.length:Nat):Int)<1))) true (decide (16<((p.aF.length:Nat):Int)))) true (!(decide (((p.aF.getD 0 default).dO)=([]:ap0))))) ( some false) ( xz n p n 0)
def Oy(n:Nat)(l:List bd):ap4:=some (decide (((l.length:Nat):Int)≤32))
def Gc(l:List bd)(al:Int→ap4)(bC:Int):ap4:=cond (decide (bC<((l.length:Nat):Int))) ( av (aP bC l.length)<|(uJ n ((ap3 l bC).Key)).bind λeo=>av ((!eo)||aP bC l.length)<|av ((cond (!eo) true (decide ((ap3 l bC).Count<1)))||aP bC l.length)<|av ((cond (cond (!eo) true (decide ((ap3 l bC).Count<1))) true (decide (1099511627776<(ap3 l bC).Count)))||(!(decide (0<bC))||aP bC l.length))<|av ((cond (cond (!eo) true (decide ((ap3 l bC).Count<1))) true (decide (1099511627776<(ap3 l bC).Count)))||(!(decide (0<bC))||aP (ap2 (bC-1)) l.length))<|cond (cond (cond (cond (!eo) true (decide ((ap3 l bC).Count<1))) true (decide (1099511627776<(ap3 l bC).Count))) true (cond (decide (0<bC)) ((Op.bytesLess ((ap3 l bC).Key) ((ap3 l (ap2 (bC-1))).Key))||(decide (((ap3 l bC).Key)=((ap3 l (ap2 (bC-1))).Key)))) false)) ( some false) ( al (ap2 (bC+1)))) ( Oy n l)
def xA(n:Nat)(l:List bd):Nat→Int→ap4
 | 0=>λ_=>none
 |m+1=>Gc n l (xA n l m)
def Gd(l:List bd):ap4:=xA n l n 0
def Oz(n:Nat)(l:List bG):ap4:=some (decide (((l.length:Nat):Int)≤16))
def Ge(l:List bG)(al:Int→ap4)(v5:Int):ap4:=cond (decide (v5<((l.length:Nat):Int))) ( av (aP v5 l.length)<|(sl n (ap3 l v5)).bind λcA=>av ((!cA)||aP v5 l.length)<|cond (cond (!cA) true (decide ((ap3 l v5).Kind=0))) ( some false) ( al (ap2 (v5+1)))) ( Oz n l)
def uM(n:Nat)(l:List bG):Nat→Int→ap4
 | 0=>λ_=>none
 |m+1=>Ge n l (uM n l m)
def OA(l:List bG):ap4:=uM n l n 0
def A3(o:Outcome):ap4:=cond (decide (o.Status=1)) ( Option.bind (cond (decide (o.Code=0)) (OA n o.Out) (some default)) λao=>some (cond (decide (o.Code=0)) ao false)) ( some (cond (cond (cond (decide (o.Status=2)) (decide (0≤o.Code)) false) (decide (o.Code≤1009)) false) (decide (((o.Out.length:Nat):Int)=0)) false))
def OB(n:Nat)(next:Int):ap5:=some (cond (decide ((ap2 (next-1))<8)) (ap2 (next-1)) 8)
def OC(n:Nat):ap4:=some true
def Gf(s:bV)(al:Int→ap4)(v6:Int):ap4:=cond (decide (v6<((s.b'.length:Nat):Int))) ( av (aP v6 s.b'.length)<|Option.bind (cond (!(cond (!decide ((ap3 s.b' v6).Client=s.Client)) true (!decide ((ap3 s.b' v6).Seq=(ap2 (s.Next-(ap2 (((s.b'.length:Nat):Int)-v6)))))))) (A3 n (⟨((ap3 s.b' v6).Outcome).Status,((ap3 s.b' v6).Outcome).Code,((ap3 s.b' v6).Outcome).Out⟩:Outcome)) (some default)) λcy=>cond (cond (cond (!decide ((ap3 s.b' v6).Client=s.Client)) true (!decide ((ap3 s.b' v6).Seq=(ap2 (s.Next-(ap2 (((s.b'.length:Nat):Int)-v6))))))) true (!cy)) ( some false) ( al (ap2 (v6+1)))) ( OC n)
def xB(n:Nat)(s:bV):Nat→Int→ap4
 | 0=>λ_=>none
 |m+1=>Gf n s (xB n s m)
def Gg(s:bV):ap4:=Option.bind (cond (!(cond (cond (cond (decide (s.Client<1)) true (decide (32<s.Client))) true (decide (s.Next<1))) true (decide (1099511627776<s.Next)))) (OB n s.Next) (some default)) λah=>cond (cond (cond (cond (cond (decide (s.Client<1)) true (decide (32<s.Client))) true (decide (s.Next<1))) true (decide (1099511627776<s.Next))) true (!decide (((s.b'.length:Nat):Int)=ah))) ( some false) ( xB n s n 0)
def OD(n:Nat):ap4:=some true
def Gh(l:List bV)(al:Int→ap4)(v6:Int):ap4:=cond (decide (v6<((l.length:Nat):Int))) ( av (aP v6 l.length)<|(Gg n (ap3 l v6)).bind λcy=>av ((!cy)||(!(decide (0<v6))||aP v6 l.length))<|av ((!cy)||(!(decide (0<v6))||aP (ap2 (v6-1)) l.length))<|cond (cond (!cy) true (cond (decide (0<v6)) (decide ((ap3 l v6).Client≤(ap3 l (ap2 (v6-1))).Client)) false)) ( some false) ( al (ap2 (v6+1)))) ( OD n)
def xC(n:Nat)(l:List bV):Nat→Int→ap4
 | 0=>λ_=>none
 |m+1=>Gh n l (xC n l m)
def uN(l:List bV):ap4:=xC n l n 0
def OE(n:Nat):Option (List ap0):=some ([([112,114,111,99]:ap0),([108,101,116]:ap0),([112,117,116]:ap0),([100,101,108,101,116,101]:ap0),([105,102]:ap0),([101,108,115,101]:ap0),([102,111,114]:ap0),([116,111]:ap0),([109,97,120]:ap0),([101,109,105,116]:ap0),([97,98,111,114,116]:ap0),([110,111,116]:ap0),([97,110,100]:ap0),([111,114]:ap0),([105,110,116]:ap0),([115,116,114]:ap0),([98,111,111,108]:ap0),([116,101,120,116]:ap0),([108,101,110]:ap0),([103,101,116,105,110,116]:ap0),([103,101,116,115,116,114]:ap0),([104,97,115]:ap0),([110,111,119]:ap0),([114,97,110,100,111,109]:ap0),([110,111,100,101]:ap0)]:List ap0)
def OF(n:Nat):ap4:=some false
def OG(l:List ap0)(s:ap0)(al:Int→ap4)(v3:Int):ap4:=cond (decide (v3<((l.length:Nat):Int))) ( av (aP v3 l.length)<|cond (decide ((ap3 l v3)=s)) ( some true) ( al (ap2 (v3+1)))) ( OF n)
def A4(n:Nat)(l:List ap0)(s:ap0):Nat→Int→ap4
 | 0=>λ_=>none
 |m+1=>OG n l s (A4 n l s m)
def OH(l:List ap0)(s:ap0):ap4:=A4 n l s n 0
def Gi(s:ap0):ap4:=(OE n).bind λah=>(OH n ah s).bind λao=>some ao
def A5(n:Nat)(c:Int):ap4:=some (cond (decide (97≤c)) (decide (c≤122)) false)
def OI(n:Nat)(c:Int):ap4:=some (cond (decide (48≤c)) (decide (c≤57)) false)
def Gj(c:Int):ap4:=(A5 n c).bind λah=>Option.bind (cond (!ah) (OI n c) (some default)) λao=>some (cond (cond ah true ao) true (decide (c=95)))
def OJ(n:Nat)(bC:Int):ap5:=some bC
def OK(s:ap0)(al:Int→ap5)(v4:Int):ap5:=av (!(decide (v4<((s.length:Nat):Int)))||aP v4 s.length)<|Option.bind (cond (decide (v4<((s.length:Nat):Int))) (Gj n (((s.getD (v4).toNat 0).toNat:Nat):Int)) (some default)) λbh=>cond (cond (decide (v4<((s.length:Nat):Int))) bh false) ( al (ap2 (v4+1))) ( OJ n v4)
def A6(n:Nat)(s:ap0):Nat→Int→ap5
 | 0=>λ_=>none
 |m+1=>OK n s (A6 n s m)
def OL(s:ap0)(at_:Int):ap5:=A6 n s n at_
def sm(s:ap0):ap4:=av (!(cond (decide (1≤((s.length:Nat):Int))) (decide (((s.length:Nat):Int)≤16)) false)||aP 0 s.length)<|Option.bind (cond (cond (decide (1≤((s.length:Nat):Int))) (decide (((s.length:Nat):Int)≤16)) false) (A5 n (((s.getD 0 0).toNat:Nat):Int)) (some default)) λao=>Option.bind (cond (cond (cond (decide (1≤((s.length:Nat):Int))) (decide (((s.length:Nat):Int)≤16)) false) ao false) (OL n s 0) (some default)) λaB=>Option.bind (cond (cond (cond (cond (decide (1≤((s.length:Nat):Int))) (decide (((s.length:Nat):Int)≤16)) false) ao false) (decide (aB=((s.length:Nat):Int))) false) (Gi n s) (some default)) λaR=>some (cond (cond (cond (cond (decide (1≤((s.length:Nat):Int))) (decide (((s.length:Nat):Int)≤16)) false) ao false) (decide (aB=((s.length:Nat):Int))) false) (!aR) false)
def rb(n:Nat)(e:Expr):ap4:=some (cond (cond (cond (decide (e.Op=0)) (decide (e.N=0)) false) (decide (e.S=([]:ap0))) false) (decide (((e.aw.length:Nat):Int)=0)) false)
def OM(n:Nat)(mP:(List cE)→Expr→Bool→Option (List cE))(ch:List cE):Option (List cE):=some ch
def ON(mP:(List cE)→Expr→Bool→Option (List cE))(e:Expr)(al:(List cE)→Int→Option (List cE))(bA:List cE)(bC:Int):Option (List cE):=cond (cond (decide (bC<((e.aw.length:Nat):Int))) (decide (((bA.length:Nat):Int)≤400)) false) ( av (aP bC e.aw.length)<|(mP bA (ap3 e.aw bC) false).bind λeo=>al eo (ap2 (bC+1))) ( OM n mP bA)
def A7(n:Nat)(mP:(List cE)→Expr→Bool→Option (List cE))(e:Expr):Nat→(List cE)→Int→Option (List cE)
 | 0=>λ_ _=>none
 |m+1=>ON n mP e (A7 n mP e m)
def OO(mP:(List cE)→Expr→Bool→Option (List cE))(out:List cE)(e:Expr)(root:Bool):Option (List cE):=cond (decide (400<((out.length:Nat):Int))) ( some out) ( av (room (out.length+([(⟨false,⟨0,[],0,⟨0,0,[],[]⟩,⟨0,0,[],[]⟩,[],[]⟩,0,e,root⟩:cE)]:List cE).length) 272)<|A7 n mP e n (out++([(⟨false,⟨0,[],0,⟨0,0,[],[]⟩,⟨0,0,[],[]⟩,[],[]⟩,0,e,root⟩:cE)]:List cE)) 0)
def rc:Nat→(List cE)→Expr→Bool→Option (List cE)
 | 0=>λ_ _ _=>none
 |m+1=>OO m (rc m)
def OP(n:Nat)(ia:(List cE)→(List Stmt)→Int→Option (List cE))(jF:List cE):Option (List cE):=some jF
def OQ(n:Nat)(ia:(List cE)→(List Stmt)→Int→Option (List cE))(al:(List cE)→Int→Option (List cE))(l:List Stmt)(depth:Int)(v21:Int)(h_:List cE):Option (List cE):=al h_ (ap2 (v21+1))
def Gk(ia:(List cE)→(List Stmt)→Int→Option (List cE))(al:(List cE)→Int→Option (List cE))(l:List Stmt)(depth:Int)(v21:Int)(q8:List cE):Option (List cE):=av (aP v21 l.length)<|(ia q8 ((ap3 l v21).Body) (ap2 (depth+1))).bind λiY=>av (aP v21 l.length)<|(ia iY ((ap3 l v21).bX) (ap2 (depth+1))).bind λnr=>OQ n ia al l depth v21 nr
def Gl(ia:(List cE)→(List Stmt)→Int→Option (List cE))(al:(List cE)→Int→Option (List cE))(l:List Stmt)(depth:Int)(v21:Int)(v28:List cE):Option (List cE):=av (aP v21 l.length)<|(rb n ((ap3 l v21).B)).bind λhX=>cond (!hX) ( av (aP v21 l.length)<|(rc n v28 ((ap3 l v21).B) true).bind λjG=>Gk n ia al l depth v21 jG) ( Gk n ia al l depth v21 v28)
def OR(ia:(List cE)→(List Stmt)→Int→Option (List cE))(l:List Stmt)(depth:Int)(al:(List cE)→Int→Option (List cE))(v20:List cE)(v21:Int):Option (List cE):=cond (cond (decide (v21<((l.length:Nat):Int))) (decide (((v20.length:Nat):Int)≤400)) false) ( av (aP v21 l.length)<|av (room (v20.length+([(⟨true,⟨(ap3 l v21).Op,(ap3 l v21).Name,(ap3 l v21).Max,⟨((ap3 l v21).A).Op,((ap3 l v21).A).N,((ap3 l v21).A).S,((ap3 l v21).A).aw⟩,⟨((ap3 l v21).B).Op,((ap3 l v21).B).N,((ap3 l v21).B).S,((ap3 l v21).B).aw⟩,(ap3 l v21).Body,(ap3 l v21).bX⟩,depth,⟨0,0,[],[]⟩,false⟩:cE)]:List cE).length) 272)<|av (aP v21 l.length)<|(rb n ((ap3 l v21).A)).bind λeQ=>cond (!eQ) ( av (aP v21 l.length)<|(rc n (v20++([(⟨true,⟨(ap3 l v21).Op,(ap3 l v21).Name,(ap3 l v21).Max,⟨((ap3 l v21).A).Op,((ap3 l v21).A).N,((ap3 l v21).A).S,((ap3 l v21).A).aw⟩,⟨((ap3 l v21).B).Op,((ap3 l v21).B).N,((ap3 l v21).B).S,((ap3 l v21).B).aw⟩,(ap3 l v21).Body,(ap3 l v21).bX⟩,depth,⟨0,0,[],[]⟩,false⟩:cE)]:List cE)) ((ap3 l v21).A) true).bind λdH=>Gl n ia al l depth v21 dH) ( Gl n ia al l depth v21 (v20++([(⟨true,⟨(ap3 l v21).Op,(ap3 l v21).Name,(ap3 l v21).Max,⟨((ap3 l v21).A).Op,((ap3 l v21).A).N,((ap3 l v21).A).S,((ap3 l v21).A).aw⟩,⟨((ap3 l v21).B).Op,((ap3 l v21).B).N,((ap3 l v21).B).S,((ap3 l v21).B).aw⟩,(ap3 l v21).Body,(ap3 l v21).bX⟩,depth,⟨0,0,[],[]⟩,false⟩:cE)]:List cE)))) ( OP n ia v20)
def sn(n:Nat)(ia:(List cE)→(List Stmt)→Int→Option (List cE))(l:List Stmt)(depth:Int):Nat→(List cE)→Int→Option (List cE)
 | 0=>λ_ _=>none
 |m+1=>OR n ia l depth (sn n ia l depth m)
def OS(ia:(List cE)→(List Stmt)→Int→Option (List cE))(out:List cE)(l:List Stmt)(depth:Int):Option (List cE):=sn n ia l depth n out 0
def mg:Nat→(List cE)→(List Stmt)→Int→Option (List cE)
 | 0=>λ_ _ _=>none
 |m+1=>OS m (mg m)
def OT(p:bi):Option (List cE):=(mg n ([]:List cE) p.Body 1).bind λah=>some ah
def OU(n:Nat):ap5:=some 0
def OV(n:Nat)(al:Int→ap5)(l:List Param)(bS:Int):ap5:=al (ap2 (bS+1))
def OW(al:Int→ap5)(l:List Param)(bS:Int)(dD:Int→ap5)(v22:Int):ap5:=cond (decide (v22<bS)) ( av (aP v22 l.length)<|av (aP bS l.length)<|cond (decide (((ap3 l v22).Name)=((ap3 l bS).Name))) ( some 8) ( dD (ap2 (v22+1)))) ( OV n al l bS)
def xD(n:Nat)(al:Int→ap5)(l:List Param)(bS:Int):Nat→Int→ap5
 | 0=>λ_=>none
 |m+1=>OW n al l bS (xD n al l bS m)
def OX(l:List Param)(al:Int→ap5)(bS:Int):ap5:=cond (decide (bS<((l.length:Nat):Int))) ( av (aP bS l.length)<|(sm n ((ap3 l bS).Name)).bind λdA=>cond (!dA) ( some 7) ( av (aP bS l.length)<|av ((decide ((ap3 l bS).fP<1))||aP bS l.length)<|cond (cond (decide ((ap3 l bS).fP<1)) true (decide (3<(ap3 l bS).fP))) ( some 10) ( xD n al l bS n 0))) ( OU n)
def so(n:Nat)(l:List Param):Nat→Int→ap5
 | 0=>λ_=>none
 |m+1=>OX n l (so n l m)
def Gm(l:List Param):ap5:=cond (decide (6<((l.length:Nat):Int))) ( some 2) ( so n l n 0)
def OY(n:Nat)(op:Int):ap5:=cond (cond (decide (4≤op)) (decide (op≤19)) false) ( some 2) ( some (-1))
def re(op:Int)(v2:Bool):ap5:=cond v2 ( some 1) ( OY n op)
def sq(op:Int)(v1:Bool):ap5:=cond v1 ( some 0) ( cond (decide (op=9)) ( re n op (decide (op=9))) ( cond (decide (op=18)) ( re n op (decide (op=18))) ( cond (decide (op=20)) ( re n op (decide (op=20))) ( cond (decide (op=21)) ( re n op (decide (op=21))) ( cond (decide (op=22)) ( re n op (decide (op=22))) ( cond (decide (op=23)) ( re n op (decide (op=23))) ( re n op (decide (op=24)))))))))
def A8(op:Int):ap5:=cond (decide (op=1)) ( sq n op (decide (op=1))) ( cond (decide (op=2)) ( sq n op (decide (op=2))) ( cond (decide (op=3)) ( sq n op (decide (op=3))) ( cond (decide (op=25)) ( sq n op (decide (op=25))) ( cond (decide (op=26)) ( sq n op (decide (op=26))) ( sq n op (decide (op=27)))))))
def OZ(n:Nat):ap4:=some true
def O0(s:ap0)(al:Int→ap4)(v5:Int):ap4:=cond (decide (v5<((s.length:Nat):Int))) ( av (aP v5 s.length)<|av ((decide ((((s.getD (v5).toNat 0).toNat:Nat):Int)<32))||aP v5 s.length)<|cond (cond (decide ((((s.getD (v5).toNat 0).toNat:Nat):Int)<32)) true (decide (126<(((s.getD (v5).toNat 0).toNat:Nat):Int)))) ( some false) ( al (ap2 (v5+1)))) ( OZ n)
def A9(n:Nat)(s:ap0):Nat→Int→ap4
 | 0=>λ_=>none
 |m+1=>O0 n s (A9 n s m)
def Gn(s:ap0):ap4:=cond (decide (64<((s.length:Nat):Int))) ( some false) ( A9 n s n 0)
def Gp(e:Expr)(depth:Int):ap5:=(A8 n e.Op).bind λah=>cond (cond (cond (decide (ah<0)) true (cond (!decide (e.Op=1)) (!decide (e.N=0)) false)) true (cond (cond (!decide (e.Op=2)) (!decide (e.Op=3)) false) (!(decide (e.S=([]:ap0)))) false)) ( some 1) ( Option.bind (cond (decide (e.Op=3)) (sm n e.S) (some default)) λaB=>cond (cond (decide (e.Op=3)) (!aB) false) ( some 7) ( Option.bind (cond ((!(decide (e.N<0)))&&(decide (e.Op=2))) (Gn n e.S) (some default)) λb5=>Option.bind (cond (!(cond (decide (e.N<0)) true (cond (decide (e.Op=2)) (!b5) false))) (A8 n e.Op) (some default)) λbh=>cond (cond (cond (decide (e.N<0)) true (cond (decide (e.Op=2)) (!b5) false)) true (!decide (((e.aw.length:Nat):Int)=bh))) ( some 1) ( cond (decide (12<depth)) ( some 2) ( some 0))))
def O1(n:Nat)(mQ:Expr→Int→ap5):ap5:=some 0
def O2(mQ:Expr→Int→ap5)(depth:Int)(e:Expr)(al:Int→ap5)(v6:Int):ap5:=cond (decide (v6<((e.aw.length:Nat):Int))) ( av (aP v6 e.aw.length)<|(mQ (ap3 e.aw v6) (ap2 (depth+1))).bind λcy=>cond (!decide (cy=0)) ( some cy) ( al (ap2 (v6+1)))) ( O1 n mQ)
def A'(n:Nat)(mQ:Expr→Int→ap5)(depth:Int)(e:Expr):Nat→Int→ap5
 | 0=>λ_=>none
 |m+1=>O2 n mQ depth e (A' n mQ depth e m)
def O3(mQ:Expr→Int→ap5)(e:Expr)(depth:Int):ap5:=(Gp n e depth).bind λah=>cond (!decide (ah=0)) ( some ah) ( A' n mQ depth e n 0)
def xE:Nat→Expr→Int→ap5
 | 0=>λ_ _=>none
 |m+1=>O3 m (xE m)
def A_(e:Expr):ap5:=(xE n e 1).bind λah=>some ah
def O4(n:Nat):Option (Bool×Bool×Bool×Bool×Bool×Bool):=some (false,true,false,false,false,false)
def Gq(op:Int)(v2:Bool):Option (Bool×Bool×Bool×Bool×Bool×Bool):=cond v2 ( some (false,false,true,false,false,false)) ( cond (decide (op=5)) ( some (false,false,true,false,true,true)) ( cond (decide (op=6)) ( some (true,true,true,true,true,false)) ( O4 n)))
def Gr(op:Int)(v1:Bool):Option (Bool×Bool×Bool×Bool×Bool×Bool):=cond v1 ( some (true,false,true,false,false,false)) ( cond (decide (op=3)) ( some (false,false,true,true,false,false)) ( cond (decide (op=4)) ( Gq n op (decide (op=4))) ( Gq n op (decide (op=7)))))
def Ba(op:Int):Option (Bool×Bool×Bool×Bool×Bool×Bool):=cond (decide (op=1)) ( Gr n op (decide (op=1))) ( Gr n op (decide (op=2)))
def Gs(n:Nat)(depth:Int):ap5:=cond (decide (12<depth)) ( some 2) ( some 0)
def Gt(depth:Int)(ah:Bool×Bool×Bool×Bool×Bool×Bool)(s:Stmt):ap5:=cond ah.2.2.2.1 ( (A_ n (⟨s.B.Op,s.B.N,s.B.S,s.B.aw⟩:Expr)).bind λcQ=>cond (!decide (cQ=0)) ( some cQ) ( Gs n depth)) ( Gs n depth)
def Gu(s:Stmt)(depth:Int):ap5:=(Ba n s.Op).bind λah=>Option.bind (cond ((!(cond (cond (cond (decide (s.Op<1)) true (decide (8<s.Op))) true (cond (!ah.1) (!(decide (s.Name=([]:ap0)))) false)) true (cond (!ah.2.1) (!decide (s.Max=0)) false)))&&(!ah.2.2.1)) (rb n (⟨s.A.Op,s.A.N,s.A.S,s.A.aw⟩:Expr)) (some default)) λao=>Option.bind (cond ((!(cond (cond (cond (cond (decide (s.Op<1)) true (decide (8<s.Op))) true (cond (!ah.1) (!(decide (s.Name=([]:ap0)))) false)) true (cond (!ah.2.1) (!decide (s.Max=0)) false)) true (cond (!ah.2.2.1) (!ao) false)))&&(!ah.2.2.2.1)) (rb n (⟨s.B.Op,s.B.N,s.B.S,s.B.aw⟩:Expr)) (some default)) λaB=>cond (cond (cond (cond (cond (cond (cond (cond (decide (s.Op<1)) true (decide (8<s.Op))) true (cond (!ah.1) (!(decide (s.Name=([]:ap0)))) false)) true (cond (!ah.2.1) (!decide (s.Max=0)) false)) true (cond (!ah.2.2.1) (!ao) false)) true (cond (!ah.2.2.2.1) (!aB) false)) true (cond (!ah.2.2.2.2.1) (decide (0<((s.Body.length:Nat):Int))) false)) true (cond (!ah.2.2.2.2.2) (decide (0<((s.bX.length:Nat):Int))) false)) ( some 1) ( cond (cond (cond (decide (s.Op=6)) (cond (decide (s.Max<1)) true (decide (16<s.Max))) false) true (cond (decide (s.Op=8)) (cond (decide (s.Max<0)) true (decide (999<s.Max))) false)) ( some 1) ( Option.bind (cond ah.1 (sm n s.Name) (some default)) λbh=>cond (cond ah.1 (!bh) false) ( some 7) ( cond ah.2.2.1 ( (A_ n (⟨s.A.Op,s.A.N,s.A.S,s.A.aw⟩:Expr)).bind λcy=>cond (!decide (cy=0)) ( some cy) ( Gt n depth ah s)) ( Gt n depth ah s))))
def O5(n:Nat)(b5:(List cE)):ap5:=cond (decide (400<((b5.length:Nat):Int))) ( some 2) ( some 0)
def Gv(n:Nat)(al:Int→ap5)(b5:(List cE))(v11:Int):ap5:=al (ap2 (v11+1))
def O6(b5:(List cE))(al:Int→ap5)(v11:Int):ap5:=cond (decide (v11<((b5.length:Nat):Int))) ( av (aP v11 b5.length)<|cond ((ap3 b5 v11).oY) ( av (aP v11 b5.length)<|av (aP v11 b5.length)<|(Gu n ((ap3 b5 v11).Stmt) ((ap3 b5 v11).zJ)).bind λdK=>cond (!decide (dK=0)) ( some dK) ( Gv n al b5 v11)) ( Gv n al b5 v11)) ( O5 n b5)
def xF(n:Nat)(b5:(List cE)):Nat→Int→ap5
 | 0=>λ_=>none
 |m+1=>O6 n b5 (xF n b5 m)
def Gw(p:bi):ap5:=(sm n p.Name).bind λah=>cond (!ah) ( some 7) ( (Gm n p.Params).bind λaB=>cond (!decide (aB=0)) ( some aB) ( (OT n p).bind λb5=>xF n b5 n 0))
def O7(n:Nat)(a:Int):ap5:=cond (decide (a<0)) ( some (IntKind.u64.wrap (0-(IntKind.u64.wrap a)))) ( some (IntKind.u64.wrap a))
def Bb(n:Nat)(dZ:Int)(v12:ap0):Option ap0:=cond (decide (dZ<0)) ( av (bE (([45]:ap0).length+v12.length))<|some (([45]:ap0)++v12)) ( some v12)
def rf(dZ:Int)(al:Int→ap0→Option ap0)(v6:Int)(bA:ap0):Option ap0:=cond (cond (decide (0<v6)) true (decide (bA=([]:ap0)))) ( av (lH ([(IntKind.u8.wrap (IntKind.u64.wrap (48+(Int.tmod v6 10))))]:List Int))<|av (bE ((hL ([(IntKind.u8.wrap (IntKind.u64.wrap (48+(Int.tmod v6 10))))]:List Int)).length+bA.length))<|al (IntKind.u64.wrap (Int.tdiv v6 10)) ((hL ([(IntKind.u8.wrap (IntKind.u64.wrap (48+(Int.tmod v6 10))))]:List Int))++bA)) ( Bb n dZ bA)
def o9(n:Nat)(dZ:Int):Nat→Int→ap0→Option ap0
 | 0=>λ_ _=>none
 |m+1=>rf n dZ (o9 n dZ m)
def uO(dZ:Int):Option ap0:=(O7 n dZ).bind λah=>o9 n dZ n ah ([]:ap0)
def O8(n:Nat)(v9:ap0):Option ap0:=some v9
def O9(depth:Int)(al:ap0→Int→Option ap0)(v4:ap0)(v5:Int):Option ap0:=cond (decide (v5<depth)) ( av (bE (v4.length+([32,32,32,32]:ap0).length))<|al (v4++([32,32,32,32]:ap0)) (ap2 (v5+1))) ( O8 n v4)
def Bc(n:Nat)(depth:Int):Nat→ap0→Int→Option ap0
 | 0=>λ_ _=>none
 |m+1=>O9 n depth (Bc n depth m)
def O'(depth:Int):Option ap0:=Bc n depth n ([]:ap0) 0
def O_(n:Nat):ap4:=some true
def Pa(s:ap0)(al:Int→ap4)(v4:Int):ap4:=cond (decide (v4<((s.length:Nat):Int))) ( av (aP v4 s.length)<|av ((decide ((((s.getD (v4).toNat 0).toNat:Nat):Int)<32))||aP v4 s.length)<|cond (cond (decide ((((s.getD (v4).toNat 0).toNat:Nat):Int)<32)) true (decide (126<(((s.getD (v4).toNat 0).toNat:Nat):Int)))) ( some false) ( al (ap2 (v4+1)))) ( O_ n)
def xG(n:Nat)(s:ap0):Nat→Int→ap4
 | 0=>λ_=>none
 |m+1=>Pa n s (xG n s m)
def Pb(s:ap0):ap4:=xG n s n 0
def Pc(n:Nat)(v24:ap0):Option (ap0×Int):=av (bE (v24.length+([34]:ap0).length))<|some ((v24++([34]:ap0)),0)
def Pd(n:Nat)(al:ap0→Int→Option (ap0×Int))(s:ap0)(bS:Int)(v21:ap0):Option (ap0×Int):=al v21 (ap2 (bS+1))
def Gx(al:ap0→Int→Option (ap0×Int))(s:ap0)(bS:Int)(cl:ap0):Option (ap0×Int):=av (nK bS (ap2 (bS+1)) s.length)<|av (bE (cl.length+((s.take ((ap2 (bS+1))).toNat).drop (bS).toNat).length))<|Pd n al s bS (cl++((s.take ((ap2 (bS+1))).toNat).drop (bS).toNat))
def Pe(s:ap0)(al:ap0→Int→Option (ap0×Int))(ch:ap0)(bS:Int):Option (ap0×Int):=cond (decide (bS<((s.length:Nat):Int))) ( av (aP bS s.length)<|av ((decide ((((s.getD (bS).toNat 0).toNat:Nat):Int)=34))||aP bS s.length)<|cond (cond (decide ((((s.getD (bS).toNat 0).toNat:Nat):Int)=34)) true (decide ((((s.getD (bS).toNat 0).toNat:Nat):Int)=92))) ( av (bE (ch.length+([92]:ap0).length))<|Gx n al s bS (ch++([92]:ap0))) ( Gx n al s bS ch)) ( Pc n ch)
def Bd(n:Nat)(s:ap0):Nat→ap0→Int→Option (ap0×Int)
 | 0=>λ_ _=>none
 |m+1=>Pe n s (Bd n s m)
def Gy(s:ap0):Option (ap0×Int):=cond (decide (64<((s.length:Nat):Int))) ( some (([]:ap0),2)) ( (Pb n s).bind λao=>cond (!ao) ( some (([]:ap0),1)) ( Bd n s n ([34]:ap0) 0))
def XF(n:Nat):ap5:=some 9
def Gz(op:Int)(v3:Bool):ap5:=cond v3 ( some 7) ( cond (decide (op=9)) ( some 8) ( XF n))
def Pf(op:Int)(v2:Bool):ap5:=cond v2 ( some 6) ( cond (decide (op=6)) ( Gz n op (decide (op=6))) ( cond (decide (op=7)) ( Gz n op (decide (op=7))) ( Gz n op (decide (op=8)))))
def uP(op:Int)(v1:Bool):ap5:=cond v1 ( some 4) ( cond (decide (op=19)) ( some 5) ( cond (decide (op=4)) ( Pf n op (decide (op=4))) ( Pf n op (decide (op=5)))))
def GA(op:Int):ap5:=cond (decide (op=17)) ( some 1) ( cond (decide (op=16)) ( some 2) ( cond (decide (op=18)) ( some 3) ( cond (decide (op=10)) ( uP n op (decide (op=10))) ( cond (decide (op=11)) ( uP n op (decide (op=11))) ( cond (decide (op=12)) ( uP n op (decide (op=12))) ( cond (decide (op=13)) ( uP n op (decide (op=13))) ( cond (decide (op=14)) ( uP n op (decide (op=14))) ( uP n op (decide (op=15))))))))))
def GB(n:Nat)(op:Int):Option ap0:=cond (decide (op=17)) ( some ([111,114]:ap0)) ( cond (decide (op=16)) ( some ([97,110,100]:ap0)) ( cond (decide (op=10)) ( some ([61,61]:ap0)) ( cond (decide (op=11)) ( some ([33,61]:ap0)) ( cond (decide (op=12)) ( some ([60]:ap0)) ( cond (decide (op=13)) ( some ([60,61]:ap0)) ( cond (decide (op=14)) ( some ([62]:ap0)) ( cond (decide (op=15)) ( some ([62,61]:ap0)) ( cond (decide (op=19)) ( some ([43,43]:ap0)) ( cond (decide (op=4)) ( some ([43]:ap0)) ( cond (decide (op=5)) ( some ([45]:ap0)) ( cond (decide (op=6)) ( some ([42]:ap0)) ( cond (decide (op=7)) ( some ([47]:ap0)) ( some ([37]:ap0))))))))))))))
def GC(n:Nat)(op:Int):Option ap0:=cond (decide (op=20)) ( some ([116,101,120,116]:ap0)) ( cond (decide (op=21)) ( some ([108,101,110]:ap0)) ( cond (decide (op=22)) ( some ([103,101,116,105,110,116]:ap0)) ( cond (decide (op=23)) ( some ([103,101,116,115,116,114]:ap0)) ( cond (decide (op=24)) ( some ([104,97,115]:ap0)) ( cond (decide (op=25)) ( some ([110,111,119]:ap0)) ( cond (decide (op=26)) ( some ([114,97,110,100,111,109]:ap0)) ( some ([110,111,100,101]:ap0))))))))
def GD(qf:Expr→Option ap0)(ns:Expr→Int→Option ap0)(e:Expr):Option ap0:=(GA n e.Op).bind λah=>cond (decide (e.Op=1)) ( (uO n e.N).bind λaB=>some aB) ( cond (decide (e.Op=2)) ( (Gy n e.S).bind λb5=>some b5.1) ( cond (decide (e.Op=3)) ( some e.S) ( cond (decide (e.Op=18)) ( av (aP 0 e.aw.length)<|(ns (e.aw.getD 0 default) ah).bind λcQ=>av (bE (([110,111,116,32]:ap0).length+cQ.length))<|some (([110,111,116,32]:ap0)++cQ)) ( cond (decide (e.Op=9)) ( av (aP 0 e.aw.length)<|(ns (e.aw.getD 0 default) ah).bind λdz=>av (bE (([45]:ap0).length+dz.length))<|some (([45]:ap0)++dz)) ( cond (cond (decide (ah=9)) (decide (((e.aw.length:Nat):Int)=0)) false) ( (GC n e.Op).bind λdA=>av (bE (dA.length+([40,41]:ap0).length))<|some (dA++([40,41]:ap0))) ( cond (decide (ah=9)) ( (GC n e.Op).bind λeO=>av (bE (eO.length+([40]:ap0).length))<|av (aP 0 e.aw.length)<|(qf (e.aw.getD 0 default)).bind λdG=>av (bE ((eO++([40]:ap0)).length+dG.length))<|av (bE (((eO++([40]:ap0))++dG).length+([41]:ap0).length))<|some (((eO++([40]:ap0))++dG)++([41]:ap0))) ( cond (decide (ah=4)) ( av (aP 0 e.aw.length)<|(ns (e.aw.getD 0 default) 5).bind λdH=>av (bE (dH.length+([32]:ap0).length))<|(GB n e.Op).bind λfC=>av (bE ((dH++([32]:ap0)).length+fC.length))<|av (bE (((dH++([32]:ap0))++fC).length+([32]:ap0).length))<|av (aP 1 e.aw.length)<|(ns (e.aw.getD 1 default) 5).bind λn9=>av (bE ((((dH++([32]:ap0))++fC)++([32]:ap0)).length+n9.length))<|some ((((dH++([32]:ap0))++fC)++([32]:ap0))++n9)) ( av (aP 0 e.aw.length)<|(ns (e.aw.getD 0 default) ah).bind λnp=>av (bE (np.length+([32]:ap0).length))<|(GB n e.Op).bind λo2=>av (bE ((np++([32]:ap0)).length+o2.length))<|av (bE (((np++([32]:ap0))++o2).length+([32]:ap0).length))<|av (aP 1 e.aw.length)<|(ns (e.aw.getD 1 default) (ap2 (ah+1))).bind λg'=>av (bE ((((np++([32]:ap0))++o2)++([32]:ap0)).length+g'.length))<|some ((((np++([32]:ap0))++o2)++([32]:ap0))++g')))))))))
def GE(qf:Expr→Option ap0)(ns:Expr→Int→Option ap0)(e:Expr)(least:Int):Option ap0:=(GA n e.Op).bind λah=>cond (decide (ah<least)) ( (qf e).bind λaB=>av (bE (([40]:ap0).length+aB.length))<|av (bE ((([40]:ap0)++aB).length+([41]:ap0).length))<|some ((([40]:ap0)++aB)++([41]:ap0))) ( (qf e).bind λbh=>some bh)
def xH:Nat→(Expr→Option ap0)×(Expr→Int→Option ap0)
 | 0=>(λ_=>none,λ_ _=>none)
 |m+1=>(GD m ((xH m).1) ((xH m).2),GE m ((xH m).1) ((xH m).2))
def kH:Expr→Option ap0:=(xH n).1
def uQ:Expr→Int→Option ap0:=(xH n).2
def Pg(n:Nat)(iM:(List Stmt)→Int→Option ap0)(jp:Stmt→Int→Option ap0)(ch:ap0):Option ap0:=some ch
def Ph(iM:(List Stmt)→Int→Option ap0)(jp:Stmt→Int→Option ap0)(l:List Stmt)(depth:Int)(al:ap0→Int→Option ap0)(v6:ap0)(bA:Int):Option ap0:=cond (decide (bA<((l.length:Nat):Int))) ( av (aP bA l.length)<|(jp (ap3 l bA) depth).bind λcQ=>av (bE (v6.length+cQ.length))<|al (v6++cQ) (ap2 (bA+1))) ( Pg n iM jp v6)
def Be(n:Nat)(iM:(List Stmt)→Int→Option ap0)(jp:Stmt→Int→Option ap0)(l:List Stmt)(depth:Int):Nat→ap0→Int→Option ap0
 | 0=>λ_ _=>none
 |m+1=>Ph n iM jp l depth (Be n iM jp l depth m)
def GF(iM:(List Stmt)→Int→Option ap0)(jp:Stmt→Int→Option ap0)(l:List Stmt)(depth:Int):Option ap0:=Be n iM jp l depth n ([]:ap0) 0
def Bf(n:Nat)(iM:(List Stmt)→Int→Option ap0)(jp:Stmt→Int→Option ap0)(Bg:ap0):Option ap0:=av (bE (Bg.length+([10]:ap0).length))<|some (Bg++([10]:ap0))
def GG(iM:(List Stmt)→Int→Option ap0)(jp:Stmt→Int→Option ap0)(x:Stmt)(depth:Int):Option ap0:=(O' n depth).bind λah=>cond (decide (x.Op=1)) ( av (bE (ah.length+([108,101,116,32]:ap0).length))<|av (bE ((ah++([108,101,116,32]:ap0)).length+x.Name.length))<|av (bE (((ah++([108,101,116,32]:ap0))++x.Name).length+([32,61,32]:ap0).length))<|(kH n (⟨x.A.Op,x.A.N,x.A.S,x.A.aw⟩:Expr)).bind λbh=>av (bE ((((ah++([108,101,116,32]:ap0))++x.Name)++([32,61,32]:ap0)).length+bh.length))<|av (bE (((((ah++([108,101,116,32]:ap0))++x.Name)++([32,61,32]:ap0))++bh).length+([59,10]:ap0).length))<|some (((((ah++([108,101,116,32]:ap0))++x.Name)++([32,61,32]:ap0))++bh)++([59,10]:ap0))) ( cond (decide (x.Op=2)) ( av (bE (ah.length+x.Name.length))<|av (bE ((ah++x.Name).length+([32,61,32]:ap0).length))<|(kH n (⟨x.A.Op,x.A.N,x.A.S,x.A.aw⟩:Expr)).bind λfu=>av (bE (((ah++x.Name)++([32,61,32]:ap0)).length+fu.length))<|av (bE ((((ah++x.Name)++([32,61,32]:ap0))++fu).length+([59,10]:ap0).length))<|some ((((ah++x.Name)++([32,61,32]:ap0))++fu)++([59,10]:ap0))) ( cond (decide (x.Op=3)) ( av (bE (ah.length+([112,117,116,32]:ap0).length))<|(kH n (⟨x.A.Op,x.A.N,x.A.S,x.A.aw⟩:Expr)).bind λeR=>av (bE ((ah++([112,117,116,32]:ap0)).length+eR.length))<|av (bE (((ah++([112,117,116,32]:ap0))++eR).length+([32,61,32]:ap0).length))<|(kH n (⟨x.B.Op,x.B.N,x.B.S,x.B.aw⟩:Expr)).bind λdP=>av (bE ((((ah++([112,117,116,32]:ap0))++eR)++([32,61,32]:ap0)).length+dP.length))<|av (bE (((((ah++([112,117,116,32]:ap0))++eR)++([32,61,32]:ap0))++dP).length+([59,10]:ap0).length))<|some (((((ah++([112,117,116,32]:ap0))++eR)++([32,61,32]:ap0))++dP)++([59,10]:ap0))) ( cond (decide (x.Op=4)) ( av (bE (ah.length+([100,101,108,101,116,101,32]:ap0).length))<|(kH n (⟨x.A.Op,x.A.N,x.A.S,x.A.aw⟩:Expr)).bind λeQ=>av (bE ((ah++([100,101,108,101,116,101,32]:ap0)).length+eQ.length))<|av (bE (((ah++([100,101,108,101,116,101,32]:ap0))++eQ).length+([59,10]:ap0).length))<|some (((ah++([100,101,108,101,116,101,32]:ap0))++eQ)++([59,10]:ap0))) ( cond (decide (x.Op=7)) ( av (bE (ah.length+([101,109,105,116,32]:ap0).length))<|(kH n (⟨x.A.Op,x.A.N,x.A.S,x.A.aw⟩:Expr)).bind λhX=>av (bE ((ah++([101,109,105,116,32]:ap0)).length+hX.length))<|av (bE (((ah++([101,109,105,116,32]:ap0))++hX).length+([59,10]:ap0).length))<|some (((ah++([101,109,105,116,32]:ap0))++hX)++([59,10]:ap0))) ( cond (decide (x.Op=8)) ( av (bE (ah.length+([97,98,111,114,116,32]:ap0).length))<|(uO n x.Max).bind λiY=>av (bE ((ah++([97,98,111,114,116,32]:ap0)).length+iY.length))<|av (bE (((ah++([97,98,111,114,116,32]:ap0))++iY).length+([59,10]:ap0).length))<|some (((ah++([97,98,111,114,116,32]:ap0))++iY)++([59,10]:ap0))) ( cond (decide (x.Op=6)) ( av (bE (ah.length+([102,111,114,32]:ap0).length))<|av (bE ((ah++([102,111,114,32]:ap0)).length+x.Name.length))<|av (bE (((ah++([102,111,114,32]:ap0))++x.Name).length+([32,61,32]:ap0).length))<|(kH n (⟨x.A.Op,x.A.N,x.A.S,x.A.aw⟩:Expr)).bind λg'=>av (bE ((((ah++([102,111,114,32]:ap0))++x.Name)++([32,61,32]:ap0)).length+g'.length))<|av (bE (((((ah++([102,111,114,32]:ap0))++x.Name)++([32,61,32]:ap0))++g').length+([32,116,111,32]:ap0).length))<|(kH n (⟨x.B.Op,x.B.N,x.B.S,x.B.aw⟩:Expr)).bind λiL=>av (bE ((((((ah++([102,111,114,32]:ap0))++x.Name)++([32,61,32]:ap0))++g')++([32,116,111,32]:ap0)).length+iL.length))<|av (bE (((((((ah++([102,111,114,32]:ap0))++x.Name)++([32,61,32]:ap0))++g')++([32,116,111,32]:ap0))++iL).length+([32,109,97,120,32]:ap0).length))<|(uO n x.Max).bind λqc=>av (bE ((((((((ah++([102,111,114,32]:ap0))++x.Name)++([32,61,32]:ap0))++g')++([32,116,111,32]:ap0))++iL)++([32,109,97,120,32]:ap0)).length+qc.length))<|av (bE (((((((((ah++([102,111,114,32]:ap0))++x.Name)++([32,61,32]:ap0))++g')++([32,116,111,32]:ap0))++iL)++([32,109,97,120,32]:ap0))++qc).length+([32,123,10]:ap0).length))<|(iM x.Body (ap2 (depth+1))).bind λo6=>av (bE ((((((((((ah++([102,111,114,32]:ap0))++x.Name)++([32,61,32]:ap0))++g')++([32,116,111,32]:ap0))++iL)++([32,109,97,120,32]:ap0))++qc)++([32,123,10]:ap0)).length+o6.length))<|av (bE (((((((((((ah++([102,111,114,32]:ap0))++x.Name)++([32,61,32]:ap0))++g')++([32,116,111,32]:ap0))++iL)++([32,109,97,120,32]:ap0))++qc)++([32,123,10]:ap0))++o6).length+ah.length))<|av (bE ((((((((((((ah++([102,111,114,32]:ap0))++x.Name)++([32,61,32]:ap0))++g')++([32,116,111,32]:ap0))++iL)++([32,109,97,120,32]:ap0))++qc)++([32,123,10]:ap0))++o6)++ah).length+([125,10]:ap0).length))<|some ((((((((((((ah++([102,111,114,32]:ap0))++x.Name)++([32,61,32]:ap0))++g')++([32,116,111,32]:ap0))++iL)++([32,109,97,120,32]:ap0))++qc)++([32,123,10]:ap0))++o6)++ah)++([125,10]:ap0))) ( av (bE (ah.length+([105,102,32]:ap0).length))<|(kH n (⟨x.A.Op,x.A.N,x.A.S,x.A.aw⟩:Expr)).bind λe_=>av (bE ((ah++([105,102,32]:ap0)).length+e_.length))<|av (bE (((ah++([105,102,32]:ap0))++e_).length+([32,123,10]:ap0).length))<|(iM x.Body (ap2 (depth+1))).bind λod=>av (bE ((((ah++([105,102,32]:ap0))++e_)++([32,123,10]:ap0)).length+od.length))<|av (bE (((((ah++([105,102,32]:ap0))++e_)++([32,123,10]:ap0))++od).length+ah.length))<|av (bE ((((((ah++([105,102,32]:ap0))++e_)++([32,123,10]:ap0))++od)++ah).length+([125]:ap0).length))<|cond (decide (0<((x.bX.length:Nat):Int))) ( av (bE (((((((ah++([105,102,32]:ap0))++e_)++([32,123,10]:ap0))++od)++ah)++([125]:ap0)).length+([32,101,108,115,101,32,123,10]:ap0).length))<|(iM x.bX (ap2 (depth+1))).bind λkc=>av (bE ((((((((ah++([105,102,32]:ap0))++e_)++([32,123,10]:ap0))++od)++ah)++([125]:ap0))++([32,101,108,115,101,32,123,10]:ap0)).length+kc.length))<|av (bE (((((((((ah++([105,102,32]:ap0))++e_)++([32,123,10]:ap0))++od)++ah)++([125]:ap0))++([32,101,108,115,101,32,123,10]:ap0))++kc).length+ah.length))<|av (bE ((((((((((ah++([105,102,32]:ap0))++e_)++([32,123,10]:ap0))++od)++ah)++([125]:ap0))++([32,101,108,115,101,32,123,10]:ap0))++kc)++ah).length+([125]:ap0).length))<|Bf n iM jp ((((((((((ah++([105,102,32]:ap0))++e_)++([32,123,10]:ap0))++od)++ah)++([125]:ap0))++([32,101,108,115,101,32,123,10]:ap0))++kc)++ah)++([125]:ap0))) ( Bf n iM jp ((((((ah++([105,102,32]:ap0))++e_)++([32,123,10]:ap0))++od)++ah)++([125]:ap0))))))))))
def xI:Nat→((List Stmt)→Int→Option ap0)×(Stmt→Int→Option ap0)
 | 0=>(λ_ _=>none,λ_ _=>none)
 |m+1=>(GF m ((xI m).1) ((xI m).2),GG m ((xI m).1) ((xI m).2))
def qg:(List Stmt)→Int→Option ap0:=(xI n).1
def xJ:Stmt→Int→Option ap0:=(xI n).2
def Pi(n:Nat)(ty:Int):Option ap0:=cond (decide (ty=1)) ( some ([105,110,116]:ap0)) ( cond (decide (ty=2)) ( some ([115,116,114]:ap0)) ( some ([98,111,111,108]:ap0)))
def Pj(p:bi)(fA:ap0):Option ap0:=av (bE (fA.length+([41,32,123,10]:ap0).length))<|(qg n p.Body 1).bind λgd=>av (bE ((fA++([41,32,123,10]:ap0)).length+gd.length))<|av (bE (((fA++([41,32,123,10]:ap0))++gd).length+([125,10]:ap0).length))<|some (((fA++([41,32,123,10]:ap0))++gd)++([125,10]:ap0))
def Pk(n:Nat)(al:ap0→Int→Option ap0)(aX:Int)(p:bi)(v26:ap0):Option ap0:=al v26 (ap2 (aX+1))
def GH(al:ap0→Int→Option ap0)(aX:Int)(p:bi)(cZ:ap0):Option ap0:=av (aP aX p.Params.length)<|av (bE (cZ.length+((ap3 p.Params aX).Name).length))<|av (bE ((cZ++((ap3 p.Params aX).Name)).length+([58,32]:ap0).length))<|av (aP aX p.Params.length)<|(Pi n ((ap3 p.Params aX).fP)).bind λfz=>av (bE (((cZ++((ap3 p.Params aX).Name))++([58,32]:ap0)).length+fz.length))<|Pk n al aX p (((cZ++((ap3 p.Params aX).Name))++([58,32]:ap0))++fz)
def Pl(p:bi)(al:ap0→Int→Option ap0)(cV:ap0)(aX:Int):Option ap0:=cond (decide (aX<((p.Params.length:Nat):Int))) ( cond (decide (0<aX)) ( av (bE (cV.length+([44,32]:ap0).length))<|GH n al aX p (cV++([44,32]:ap0))) ( GH n al aX p cV)) ( Pj n p cV)
def Bh(n:Nat)(p:bi):Nat→ap0→Int→Option ap0
 | 0=>λ_ _=>none
 |m+1=>Pl n p (Bh n p m)
def uR(p:bi):Option ap0:=(Gw n p).bind λah=>cond (!decide (ah=0)) ( some ([]:ap0)) ( av (bE (([112,114,111,99,32]:ap0).length+p.Name.length))<|av (bE ((([112,114,111,99,32]:ap0)++p.Name).length+([40]:ap0).length))<|Bh n p n ((([112,114,111,99,32]:ap0)++p.Name)++([40]:ap0)) 0)
def Pm(n:Nat)(l:List bi):ap4:=some (decide (((l.length:Nat):Int)≤16))
def GI(l:List bi)(al:Int→ap4)(v6:Int):ap4:=cond (decide (v6<((l.length:Nat):Int))) ( av (aP v6 l.length)<|(uR n (ap3 l v6)).bind λcy=>av ((cond (decide (cy=([]:ap0))) true (decide (16384<((cy.length:Nat):Int))))||(!(decide (0<v6))||aP (ap2 (v6-1)) l.length))<|av ((cond (decide (cy=([]:ap0))) true (decide (16384<((cy.length:Nat):Int))))||(!(decide (0<v6))||aP v6 l.length))<|cond (cond (cond (decide (cy=([]:ap0))) true (decide (16384<((cy.length:Nat):Int)))) true (cond (decide (0<v6)) (!(Op.bytesLess ((ap3 l (ap2 (v6-1))).Name) ((ap3 l v6).Name))) false)) ( some false) ( al (ap2 (v6+1)))) ( Pm n l)
def xK(n:Nat)(l:List bi):Nat→Int→ap4
 | 0=>λ_=>none
 |m+1=>GI n l (xK n l m)
def GJ(l:List bi):ap4:=xK n l n 0
def Pn(n:Nat):ap4:=some true
def GK(l:List ap0)(al:Int→ap4)(v6:Int):ap4:=cond (decide (v6<((l.length:Nat):Int))) ( av (aP v6 l.length)<|(uJ n (ap3 l v6)).bind λcy=>av ((!cy)||(!(decide (0<v6))||aP (ap2 (v6-1)) l.length))<|av ((!cy)||(!(decide (0<v6))||aP v6 l.length))<|cond (cond (!cy) true (cond (decide (0<v6)) (!(Op.bytesLess (ap3 l (ap2 (v6-1))) (ap3 l v6))) false)) ( some false) ( al (ap2 (v6+1)))) ( Pn n)
def xL(n:Nat)(l:List ap0):Nat→Int→ap4
 | 0=>λ_=>none
 |m+1=>GK n l (xL n l m)
def Bi(l:List ap0):ap4:=xL n l n 0
def Bj(f:e9):ap4:=cond f.dV ( some (cond (decide (((f.Reads.length:Nat):Int)=0)) (decide (((f.co.length:Nat):Int)=0)) false)) ( Option.bind (cond (cond (decide (((f.Reads.length:Nat):Int)≤64)) (decide (((f.co.length:Nat):Int)≤64)) false) (Bi n f.Reads) (some default)) λao=>Option.bind (cond (cond (cond (decide (((f.Reads.length:Nat):Int)≤64)) (decide (((f.co.length:Nat):Int)≤64)) false) ao false) (Bi n f.co) (some default)) λaB=>some (cond (cond (cond (decide (((f.Reads.length:Nat):Int)≤64)) (decide (((f.co.length:Nat):Int)≤64)) false) ao false) aB false))
def Po(ab:Request):ap5:=(Bj n ab.bp).bind λeC=>cond (cond (cond (!eC) true ab.bp.dV) true (cond (!ab.dX) (decide (0<(ap2 (((ab.bp.Reads.length:Nat):Int)+((ab.bp.co.length:Nat):Int))))) false)) ( some 1) ( some 0)
def GL(ab:Request)(al:Int→ap5)(v9:Int):ap5:=cond (decide (v9<((ab.aw.length:Nat):Int))) ( av (aP v9 ab.aw.length)<|(sl n (ap3 ab.aw v9)).bind λb6=>av ((!b6)||aP v9 ab.aw.length)<|cond (cond (!b6) true (decide ((ap3 ab.aw v9).Kind=0))) ( some 1) ( al (ap2 (v9+1)))) ( Po n ab)
def uS(n:Nat)(ab:Request):Nat→Int→ap5
 | 0=>λ_=>none
 |m+1=>GL n ab (uS n ab m)
def qh(ab:Request):ap5:=cond (cond (cond (cond (decide (ab.Client<1)) true (decide (32<ab.Client))) true (decide (ab.Seq<1))) true (decide (1099511627776<ab.Seq))) ( some 1) ( (sm n ab.bi).bind λao=>cond (!ao) ( some 7) ( cond (decide (6<((ab.aw.length:Nat):Int))) ( some 2) ( uS n ab n 0)))
def Pp(n:Nat)(l:List Request):ap4:=some (decide (((l.length:Nat):Int)≤64))
def GM(l:List Request)(al:Int→ap4)(v4:Int):ap4:=cond (decide (v4<((l.length:Nat):Int))) ( av (aP v4 l.length)<|(qh n (ap3 l v4)).bind λbh=>cond (!decide (bh=0)) ( some false) ( al (ap2 (v4+1)))) ( Pp n l)
def xM(n:Nat)(l:List Request):Nat→Int→ap4
 | 0=>λ_=>none
 |m+1=>GM n l (xM n l m)
def GN(l:List Request):ap4:=xM n l n 0
def Bk(ab:bH):ap4:=Option.bind (cond (cond (decide (0≤ab.Pos)) (decide (ab.Pos≤1099511627776)) false) (uK n ab.ar) (some default)) λah=>Option.bind (cond (cond (cond (cond (decide (0≤ab.Pos)) (decide (ab.Pos≤1099511627776)) false) ah false) (decide (ab.ar.bq=ab.Pos)) false) (GJ n ab.bI) (some default)) λao=>Option.bind (cond (cond (cond (cond (cond (decide (0≤ab.Pos)) (decide (ab.Pos≤1099511627776)) false) ah false) (decide (ab.ar.bq=ab.Pos)) false) ao false) (uN n ab.bO) (some default)) λaB=>Option.bind (cond (cond (cond (cond (cond (cond (decide (0≤ab.Pos)) (decide (ab.Pos≤1099511627776)) false) ah false) (decide (ab.ar.bq=ab.Pos)) false) ao false) aB false) (Gb n ab.Place) (some default)) λaR=>Option.bind (cond (cond (cond (cond (cond (cond (cond (decide (0≤ab.Pos)) (decide (ab.Pos≤1099511627776)) false) ah false) (decide (ab.ar.bq=ab.Pos)) false) ao false) aB false) aR false) (Gd n ab.bd) (some default)) λb5=>Option.bind (cond (cond (cond (cond (cond (cond (cond (cond (decide (0≤ab.Pos)) (decide (ab.Pos≤1099511627776)) false) ah false) (decide (ab.ar.bq=ab.Pos)) false) ao false) aB false) aR false) b5 false) (GN n ab.Queue) (some default)) λbh=>some (cond (cond (cond (cond (cond (cond (cond (cond (decide (0≤ab.Pos)) (decide (ab.Pos≤1099511627776)) false) ah false) (decide (ab.ar.bq=ab.Pos)) false) ao false) aB false) aR false) b5 false) bh false)
def Pq(ab:bH):Option (bH×Int):=(Bk n ab).bind λah=>cond (!ah) ( some ((⟨0,⟨0,0,[]⟩,[],[],⟨0,[]⟩,[],[],0⟩:bH),1)) ( (xx n ab.ar ab.Pos).bind λaB=>(xt n aB.1 ab.Pos).bind λaR=>some ((⟨ab.Pos,aR.1,ab.bI,ab.bO,ab.Place,ab.bd,ab.Queue,ab.b2⟩:bH),0))
def XG(a:bH)(b:bH):ap4:=(Pq n a).bind λah=>(Pq n b).bind λao=>Option.bind (cond (cond (decide (ah.2=0)) (decide (ao.2=0)) false) (XE n ah.1 ao.1) (some default)) λaB=>some (cond (cond (decide (ah.2=0)) (decide (ao.2=0)) false) aB false)
def GO:ap4:=(WJ n).bind λah=>(Wu n ah).bind λao=>(NS n ao.1 ah.ar 2).bind λaB=>(W2 n ah.ar 6 ([(⟨[99],⟨0,0,[]⟩⟩:aY)]:List aY)).bind λaR=>(Wv n aB.1 ([120]:ap0)).bind λb5=>(NS n b5 aR.1 2).bind λbh=>(xm n bh.1).bind λcA=>(Wz n cA.1).bind λcy=>(xm n aB.1).bind λcQ=>cond (cond (cond (cond (cond (cond (!decide (ao.2=0)) true (!decide (aB.2=0))) true (!decide (bh.2=0))) true (!decide (cA.2.2=0))) true (!decide (cy.2.2=0))) true (!decide (cQ.2.2=16))) ( some false) ( Option.bind (cond (cond (cond (cond (cond (cond (cond (cond (decide (ao.1.cd=5)) (decide (((aB.1.eg.length:Nat):Int)=2)) false) (decide (aB.1.Next=([99]:ap0))) false) (!aB.1.dE) false) (decide (((bh.1.eg.length:Nat):Int)=3)) false) (decide (bh.1.Next=([]:ap0))) false) bh.1.dE false) (decide (cA.2.1=6)) false) (XG n cy.1 ah) (some default)) λb6=>Option.bind (cond (cond (cond (cond (cond (cond (cond (cond (cond (decide (ao.1.cd=5)) (decide (((aB.1.eg.length:Nat):Int)=2)) false) (decide (aB.1.Next=([99]:ap0))) false) (!aB.1.dE) false) (decide (((bh.1.eg.length:Nat):Int)=3)) false) (decide (bh.1.Next=([]:ap0))) false) bh.1.dE false) (decide (cA.2.1=6)) false) b6 false) (F0 n cy.2.1 ([([120]:ap0)]:List ap0)) (some default)) λfu=>some (cond (cond (cond (cond (cond (cond (cond (cond (cond (decide (ao.1.cd=5)) (decide (((aB.1.eg.length:Nat):Int)=2)) false) (decide (aB.1.Next=([99]:ap0))) false) (!aB.1.dE) false) (decide (((bh.1.eg.length:Nat):Int)=3)) false) (decide (bh.1.Next=([]:ap0))) false) bh.1.dE false) (decide (cA.2.1=6)) false) b6 false) fu false))
def Pr(n:Nat):ap4:=some true
def GP(c:dY)(al:Int→ap4)(v5:Int):ap4:=cond (decide (v5<((c.cq.length:Nat):Int))) ( av (aP v5 c.cq.length)<|cond (decide (5000<(((ap3 c.cq v5).length:Nat):Int))) ( some false) ( al (ap2 (v5+1)))) ( Pr n)
def xN(n:Nat)(c:dY):Nat→Int→ap4
 | 0=>λ_=>none
 |m+1=>GP n c (xN n c m)
def Bl(c:dY):ap4:=(AS n c.Rest).bind λah=>cond (cond (cond (!ah) true (decide (60<((c.eg.length:Nat):Int)))) true (decide (40<((c.cq.length:Nat):Int)))) ( some false) ( xN n c n 0)
def Ps(n:Nat)(v11:Int)(v12:ap0):Option ap0:=av (lH ([(IntKind.u8.wrap v11)]:List Int))<|av (bE (v12.length+(hL ([(IntKind.u8.wrap v11)]:List Int)).length))<|some (v12++(hL ([(IntKind.u8.wrap v11)]:List Int)))
def Pt(al:Int→ap0→Option ap0)(v5:Int)(v6:ap0):Option ap0:=cond (decide (128≤v5)) ( av (lH ([(IntKind.u8.wrap ((IntKind.u8.wrap (Int.tmod v5 128))+128))]:List Int))<|av (bE (v6.length+(hL ([(IntKind.u8.wrap ((IntKind.u8.wrap (Int.tmod v5 128))+128))]:List Int)).length))<|al (IntKind.u64.wrap (Int.tdiv v5 128)) (v6++(hL ([(IntKind.u8.wrap ((IntKind.u8.wrap (Int.tmod v5 128))+128))]:List Int)))) ( Ps n v5 v6)
def Bm(n:Nat):Nat→Int→ap0→Option ap0
 | 0=>λ_ _=>none
 |m+1=>Pt n (Bm n m)
def hh(u:Int):Option ap0:=Bm n n u ([]:ap0)
def nt(s:ap0):Option ap0:=(hh n (IntKind.u64.wrap ((s.length:Nat):Int))).bind λah=>av (bE (ah.length+s.length))<|some (ah++s)
def GQ(n:Nat)(dZ:Int):ap5:=cond (decide (dZ<0)) ( some (IntKind.u64.wrap ((IntKind.u64.wrap (2*(IntKind.u64.wrap (ap2 (0-(ap2 (dZ+1)))))))+1))) ( some (IntKind.u64.wrap (2*(IntKind.u64.wrap dZ))))
def qi(dZ:Int):Option ap0:=(GQ n dZ).bind λah=>(hh n ah).bind λao=>some ao
def xO(v:bG):Option ap0:=cond (decide (v.Kind=1)) ( (hh n 1).bind λao=>(qi n v.N).bind λaB=>av (bE (ao.length+aB.length))<|some (ao++aB)) ( cond (decide (v.Kind=2)) ( (hh n 2).bind λbh=>(nt n v.S).bind λcA=>av (bE (bh.length+cA.length))<|some (bh++cA)) ( (hh n 0).bind λcQ=>some cQ))
def Pu(n:Nat)(v20:ap0):Option ap0:=some v20
def GR(l:List aY)(al:ap0→Int→Option ap0)(v10:ap0)(v11:Int):Option ap0:=cond (decide (v11<((l.length:Nat):Int))) ( av (aP v11 l.length)<|(nt n ((ap3 l v11).Key)).bind λdz=>av (bE (v10.length+dz.length))<|av (aP v11 l.length)<|(xO n ((ap3 l v11).bo)).bind λdA=>av (bE ((v10++dz).length+dA.length))<|al ((v10++dz)++dA) (ap2 (v11+1))) ( Pu n v10)
def xP(n:Nat)(l:List aY):Nat→ap0→Int→Option ap0
 | 0=>λ_ _=>none
 |m+1=>GR n l (xP n l m)
def GS(l:List aY):Option ap0:=(hh n (IntKind.u64.wrap ((l.length:Nat):Int))).bind λah=>xP n l n ah 0
def Pv(n:Nat)(ka:ap0):Option ap0:=some ka
def GT(p:b1)(al:ap0→Int→Option ap0)(aX:ap0)(cl:Int):Option ap0:=cond (decide (cl<((p.aF.length:Nat):Int))) ( av (aP cl p.aF.length)<|(qi n ((ap3 p.aF cl).Id)).bind λdP=>av (bE (aX.length+dP.length))<|(nt n ((ap3 p.aF cl).dO)).bind λdG=>av (bE ((aX++dP).length+dG.length))<|(qi n ((ap3 p.aF cl).Node)).bind λfz=>av (bE (((aX++dP)++dG).length+fz.length))<|(qi n ((ap3 p.aF cl).fy)).bind λfi=>av (bE ((((aX++dP)++dG)++fz).length+fi.length))<|(nt n ((ap3 p.aF cl).dE)).bind λlJ=>av (bE (((((aX++dP)++dG)++fz)++fi).length+lJ.length))<|al (((((aX++dP)++dG)++fz)++fi)++lJ) (ap2 (cl+1))) ( Pv n aX)
def xQ(n:Nat)(p:b1):Nat→ap0→Int→Option ap0
 | 0=>λ_ _=>none
 |m+1=>GT n p (xQ n p m)
def Bn(p:b1):Option ap0:=(qi n p.Version).bind λah=>(hh n (IntKind.u64.wrap ((p.aF.length:Nat):Int))).bind λao=>av (bE (ah.length+ao.length))<|xQ n p n (ah++ao) 0
def Pw(n:Nat)(b:Bool):Option ap0:=cond b ( some ([1]:ap0)) ( some ([0]:ap0))
def Px(n:Nat)(bS:ap0):Option ap0:=some bS
def GU(l:List ap0)(al:ap0→Int→Option ap0)(bA:ap0)(bC:Int):Option ap0:=cond (decide (bC<((l.length:Nat):Int))) ( av (aP bC l.length)<|(nt n (ap3 l bC)).bind λeo=>av (bE (bA.length+eo.length))<|al (bA++eo) (ap2 (bC+1))) ( Px n bA)
def xR(n:Nat)(l:List ap0):Nat→ap0→Int→Option ap0
 | 0=>λ_ _=>none
 |m+1=>GU n l (xR n l m)
def Bo(l:List ap0):Option ap0:=(hh n (IntKind.u64.wrap ((l.length:Nat):Int))).bind λah=>xR n l n ah 0
def Bp(n:Nat)(fA:ap0):Option ap0:=some fA
def Bq(ab:Request)(v22:ap0):Option ap0:=(Pw n ab.dX).bind λeh=>av (bE (v22.length+eh.length))<|cond ab.dX ( (Bo n ab.bp.Reads).bind λeQ=>av (bE ((v22++eh).length+eQ.length))<|(Bo n ab.bp.co).bind λdH=>av (bE (((v22++eh)++eQ).length+dH.length))<|Bp n (((v22++eh)++eQ)++dH)) ( Bp n (v22++eh))
def GV(ab:Request)(eP:ap0→Int→Option ap0)(bD:ap0)(cV:Int):Option ap0:=cond (decide (cV<((ab.aw.length:Nat):Int))) ( av (aP cV ab.aw.length)<|(xO n (ap3 ab.aw cV)).bind λfJ=>av (bE (bD.length+fJ.length))<|eP (bD++fJ) (ap2 (cV+1))) ( Bq n ab bD)
def xS(n:Nat)(ab:Request):Nat→ap0→Int→Option ap0
 | 0=>λ_ _=>none
 |m+1=>GV n ab (xS n ab m)
def GW(ab:Request):Option ap0:=(qh n ab).bind λah=>cond (!decide (ah=0)) ( some ([]:ap0)) ( (hh n (IntKind.u64.wrap ab.Client)).bind λaB=>(hh n (IntKind.u64.wrap ab.Seq)).bind λaR=>av (bE (aB.length+aR.length))<|(nt n ab.bi).bind λbh=>av (bE ((aB++aR).length+bh.length))<|(hh n (IntKind.u64.wrap ((ab.aw.length:Nat):Int))).bind λcy=>av (bE (((aB++aR)++bh).length+cy.length))<|xS n ab n (((aB++aR)++bh)++cy) 0)
def Py(n:Nat)(cZ:ap0):Option ap0:=some cZ
def GX(l:List Request)(al:ap0→Int→Option ap0)(v10:ap0)(v11:Int):Option ap0:=cond (decide (v11<((l.length:Nat):Int))) ( av (aP v11 l.length)<|(qh n (ap3 l v11)).bind λdz=>cond (!decide (dz=0)) ( some ([]:ap0)) ( av (aP v11 l.length)<|(GW n (ap3 l v11)).bind λdK=>av (bE (v10.length+dK.length))<|al (v10++dK) (ap2 (v11+1)))) ( Py n v10)
def xT(n:Nat)(l:List Request):Nat→ap0→Int→Option ap0
 | 0=>λ_ _=>none
 |m+1=>GX n l (xT n l m)
def xU(l:List Request):Option ap0:=cond (decide (64<((l.length:Nat):Int))) ( some ([]:ap0)) ( (hh n (IntKind.u64.wrap ((l.length:Nat):Int))).bind λao=>xT n l n ao 0)
def Pz(n:Nat)(cl:ap0):Option ap0:=some cl
def GY(o:Outcome)(al:ap0→Int→Option ap0)(v11:ap0)(v12:Int):Option ap0:=cond (decide (v12<((o.Out.length:Nat):Int))) ( av (aP v12 o.Out.length)<|(xO n (ap3 o.Out v12)).bind λeC=>av (bE (v11.length+eC.length))<|al (v11++eC) (ap2 (v12+1))) ( Pz n v11)
def xV(n:Nat)(o:Outcome):Nat→ap0→Int→Option ap0
 | 0=>λ_ _=>none
 |m+1=>GY n o (xV n o m)
def GZ(o:Outcome):Option ap0:=(hh n (IntKind.u64.wrap o.Status)).bind λah=>(hh n (IntKind.u64.wrap o.Code)).bind λao=>av (bE (ah.length+ao.length))<|(hh n (IntKind.u64.wrap ((o.Out.length:Nat):Int))).bind λaR=>av (bE ((ah++ao).length+aR.length))<|xV n o n ((ah++ao)++aR) 0
def PA(n:Nat)(G0:ap0):Option ap0:=some G0
def PB(n:Nat)(al:ap0→Int→Option ap0)(l:List bV)(v30:Int)(v53:ap0):Option ap0:=al v53 (ap2 (v30+1))
def G1(al:ap0→Int→Option ap0)(l:List bV)(v30:Int)(dD:ap0→Int→Option ap0)(o7:ap0)(oa:Int):Option ap0:=av (aP v30 l.length)<|cond (decide (oa<((((ap3 l v30).b').length:Nat):Int))) ( av (aP v30 l.length)<|av (aP oa ((ap3 l v30).b').length)<|(GZ n ((((ap3 l v30).b').getD (oa).toNat default).Outcome)).bind λob=>av (bE (o7.length+ob.length))<|dD (o7++ob) (ap2 (oa+1))) ( PB n al l v30 o7)
def uT(n:Nat)(al:ap0→Int→Option ap0)(l:List bV)(v30:Int):Nat→ap0→Int→Option ap0
 | 0=>λ_ _=>none
 |m+1=>G1 n al l v30 (uT n al l v30 m)
def G2(l:List bV)(al:ap0→Int→Option ap0)(fA:ap0)(v30:Int):Option ap0:=cond (decide (v30<((l.length:Nat):Int))) ( av (aP v30 l.length)<|(hh n (IntKind.u64.wrap ((ap3 l v30).Client))).bind λjG=>av (bE (fA.length+jG.length))<|av (aP v30 l.length)<|(hh n (IntKind.u64.wrap ((ap3 l v30).Next))).bind λiY=>av (bE ((fA++jG).length+iY.length))<|uT n al l v30 n ((fA++jG)++iY) 0) ( PA n fA)
def xW(n:Nat)(l:List bV):Nat→ap0→Int→Option ap0
 | 0=>λ_ _=>none
 |m+1=>G2 n l (xW n l m)
def Br(l:List bV):Option ap0:=(uN n l).bind λah=>cond (!ah) ( some ([]:ap0)) ( (hh n (IntKind.u64.wrap ((l.length:Nat):Int))).bind λaB=>xW n l n aB 0)
def Bs(ab:bH)(v46:ap0):Option ap0:=(xU n ab.Queue).bind λk1=>av (bE (v46.length+k1.length))<|(hh n ab.b2).bind λob=>av (bE ((v46++k1).length+ob.length))<|some ((v46++k1)++ob)
def G3(ab:bH)(eP:ap0→Int→Option ap0)(oc:ap0)(v37:Int):Option ap0:=cond (decide (v37<((ab.bd.length:Nat):Int))) ( av (aP v37 ab.bd.length)<|(nt n ((ap3 ab.bd v37).Key)).bind λo3=>av (aP v37 ab.bd.length)<|(qi n ((ap3 ab.bd v37).Count)).bind λkD=>av (bE (o3.length+kD.length))<|av (bE (oc.length+(o3++kD).length))<|eP (oc++(o3++kD)) (ap2 (v37+1))) ( Bs n ab oc)
def xX(n:Nat)(ab:bH):Nat→ap0→Int→Option ap0
 | 0=>λ_ _=>none
 |m+1=>G3 n ab (xX n ab m)
def xY(ab:bH)(v21:ap0):Option ap0:=(Br n ab.bO).bind λdG=>(Bn n ab.Place).bind λeh=>av (bE (dG.length+eh.length))<|(hh n (IntKind.u64.wrap ((ab.bd.length:Nat):Int))).bind λeQ=>av (bE ((dG++eh).length+eQ.length))<|av (bE (v21.length+((dG++eh)++eQ).length))<|xX n ab n (v21++((dG++eh)++eQ)) 0
def G4(ab:bH)(dD:ap0→Int→Option ap0)(ch:ap0)(bS:Int):Option ap0:=cond (decide (bS<((ab.bI.length:Nat):Int))) ( av (aP bS ab.bI.length)<|(uR n (ap3 ab.bI bS)).bind λdA=>(nt n dA).bind λeR=>av (bE (ch.length+eR.length))<|dD (ch++eR) (ap2 (bS+1))) ( xY n ab ch)
def xZ(n:Nat)(ab:bH):Nat→ap0→Int→Option ap0
 | 0=>λ_ _=>none
 |m+1=>G4 n ab (xZ n ab m)
def Bt(ab:bH):Option ap0:=(xx n ab.ar ab.Pos).bind λah=>(qi n ab.Pos).bind λao=>(GS n ah.1).bind λaB=>av (bE (ao.length+aB.length))<|(hh n (IntKind.u64.wrap ((ab.bI.length:Nat):Int))).bind λb5=>av (bE ((ao++aB).length+b5.length))<|xZ n ab n ((ao++aB)++b5) 0
def Bu(ab:bH):Option (ap0×Int):=(Bk n ab).bind λah=>cond (!ah) ( some (([]:ap0),1)) ( (Bt n ab).bind λaB=>cond (decide (16384<((aB.length:Nat):Int))) ( some (([]:ap0),2)) ( some (aB,0)))
def PC(n:Nat)(c:dY)(v23:ap0):Option (ap0×Int×Int):=cond (cond (decide ((ap2 (1099511627776-c.cd))<((c.cq.length:Nat):Int))) true (decide (16384<((v23.length:Nat):Int)))) ( some (([]:ap0),0,2)) ( some (v23,(ap2 (c.cd+((c.cq.length:Nat):Int))),0))
def PD(c:dY)(al:Int→ap0→Option (ap0×Int×Int))(bD:Int)(cV:ap0):Option (ap0×Int×Int):=cond (decide (bD<((c.cq.length:Nat):Int))) ( av (aP bD c.cq.length)<|cond (decide (4096<(((ap3 c.cq bD).length:Nat):Int))) ( some (([]:ap0),0,2)) ( av (aP bD c.cq.length)<|(nt n (ap3 c.cq bD)).bind λeO=>av (bE (cV.length+eO.length))<|al (ap2 (bD+1)) (cV++eO))) ( PC n c cV)
def Bv(n:Nat)(c:dY):Nat→Int→ap0→Option (ap0×Int×Int)
 | 0=>λ_ _=>none
 |m+1=>PD n c (Bv n c m)
def G5(c:dY):Option (ap0×Int×Int):=cond (!c.dE) ( some (([]:ap0),0,16)) ( (xt n c.eg c.cd).bind λao=>cond (!decide (ao.2=0)) ( some (([]:ap0),0,ao.2)) ( (Bu n (⟨c.Rest.Pos,ao.1,c.Rest.bI,c.Rest.bO,c.Rest.Place,c.Rest.bd,c.Rest.Queue,c.Rest.b2⟩:bH)).bind λaR=>cond (!decide (aR.2=0)) ( some (([]:ap0),0,aR.2)) ( (nt n aR.1).bind λbh=>(hh n (IntKind.u64.wrap ((c.cq.length:Nat):Int))).bind λcA=>av (bE (bh.length+cA.length))<|Bv n c n 0 (bh++cA))))
def PE(c:dY):ap4:=(Bl n c).bind λah=>cond (!ah) ( (GO n).bind λaB=>some aB) ( (xm n c).bind λaR=>(G5 n c).bind λb5=>Option.bind (cond (cond (cond (decide (aR.1=b5.1)) (decide (aR.2.1=b5.2.1)) false) (decide (aR.2.2=b5.2.2)) false) (GO n) (some default)) λbh=>some (cond (cond (cond (decide (aR.1=b5.1)) (decide (aR.2.1=b5.2.1)) false) (decide (aR.2.2=b5.2.2)) false) bh false))
end Go.Ab.Y

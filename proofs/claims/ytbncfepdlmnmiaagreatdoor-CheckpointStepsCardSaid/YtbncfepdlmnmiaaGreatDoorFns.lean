/- What each function computes, over plain data, with fuel. Printed by a program. -/
import Derived.Test.YtbncfepdlmnmiaaGreatDoorHand
set_option linter.all false
namespace Go.Ab.Y
open Go Go.Ab Go.Proofs
variable (n:Nat)
def D0(n:Nat)(c:Int):ajO:=some (cond (cond (cond (cond (cond (cond (decide (97≤c)) (decide (c≤122)) false) true (cond (decide (48≤c)) (decide (c≤57)) false)) true (decide (c=47))) true (decide (c=46))) true (decide (c=95))) true (decide (c=45)))
def D1(n:Nat):ajO:=some true
def y5(s:ajK)(ar:Int→ajO)(v5:Int):ajO:=cond (decide (v5<((s.length:Nat):Int))) ( au (aP v5 s.length)<|(D0 n (((s.getD (v5).toNat 0).toNat:Nat):Int)).bind λb4=>cond (!b4) ( some false) ( ar (ajM (v5+1)))) ( D1 n)
def sT(n:Nat)(s:ajK):Nat→Int→ajO
 | 0=>λ_=>none
 |m+1=>y5 n s (sT n s m)
def y6(s:ajK):ajO:=cond (decide (24<((s.length:Nat):Int))) ( some false) ( sT n s n 0)
def q5(k:ajK):ajO:=Option.bind (cond (!(decide (k=([]:ajK)))) (y6 n k) (some default)) λae=>some (cond (!(decide (k=([]:ajK)))) ae false)
def NA(n:Nat)(l:List ajK):ajO:=some (decide (((l.length:Nat):Int)≤64))
def NB(l:List ajK)(ar:Int→ajO)(v5:Int):ajO:=cond (decide (v5<((l.length:Nat):Int))) ( au (aP v5 l.length)<|(q5 n (ajN l v5)).bind λb4=>au ((!b4)||(!(decide (0<v5))||aP (ajM (v5-1)) l.length))<|cond (cond (!b4) true (cond (decide (0<v5)) ((Op.bytesLess (ajN l v5) (ajN l (ajM (v5-1))))||(decide ((ajN l v5)=(ajN l (ajM (v5-1)))))) false)) ( some false) ( ar (ajM (v5+1)))) ( NA n l)
def D2(n:Nat)(l:List ajK):Nat→Int→ajO
 | 0=>λ_=>none
 |m+1=>NB n l (D2 n l m)
def D3(l:List ajK):ajO:=D2 n l n 0
def NC(f:eX):ajO:=cond f.ep ( some (cond (decide (((f.Reads.length:Nat):Int)=0)) (decide (((f.da.length:Nat):Int)=0)) false)) ( (D3 n f.Reads).bind λan=>Option.bind (cond an (D3 n f.da) (some default)) λaB=>some (cond an aB false))
def ND(n:Nat):ajO:=some false
def gU(v1:Bool):ajO:=cond v1 ( some true) ( ND n)
def D4(s:ajK):ajO:=cond (decide (s=([112,114,111,99]:ajK))) ( gU n (decide (s=([112,114,111,99]:ajK)))) ( cond (decide (s=([108,101,116]:ajK))) ( gU n (decide (s=([108,101,116]:ajK)))) ( cond (decide (s=([112,117,116]:ajK))) ( gU n (decide (s=([112,117,116]:ajK)))) ( cond (decide (s=([100,101,108,101,116,101]:ajK))) ( gU n (decide (s=([100,101,108,101,116,101]:ajK)))) ( cond (decide (s=([105,102]:ajK))) ( gU n (decide (s=([105,102]:ajK)))) ( cond (decide (s=([101,108,115,101]:ajK))) ( gU n (decide (s=([101,108,115,101]:ajK)))) ( cond (decide (s=([102,111,114]:ajK))) ( gU n (decide (s=([102,111,114]:ajK)))) ( cond (decide (s=([116,111]:ajK))) ( gU n (decide (s=([116,111]:ajK)))) ( cond (decide (s=([109,97,120]:ajK))) ( gU n (decide (s=([109,97,120]:ajK)))) ( cond (decide (s=([101,109,105,116]:ajK))) ( gU n (decide (s=([101,109,105,116]:ajK)))) ( cond (decide (s=([97,98,111,114,116]:ajK))) ( gU n (decide (s=([97,98,111,114,116]:ajK)))) ( cond (decide (s=([110,111,116]:ajK))) ( gU n (decide (s=([110,111,116]:ajK)))) ( cond (decide (s=([97,110,100]:ajK))) ( gU n (decide (s=([97,110,100]:ajK)))) ( cond (decide (s=([111,114]:ajK))) ( gU n (decide (s=([111,114]:ajK)))) ( cond (decide (s=([105,110,116]:ajK))) ( gU n (decide (s=([105,110,116]:ajK)))) ( cond (decide (s=([115,116,114]:ajK))) ( gU n (decide (s=([115,116,114]:ajK)))) ( cond (decide (s=([98,111,111,108]:ajK))) ( gU n (decide (s=([98,111,111,108]:ajK)))) ( cond (decide (s=([116,101,120,116]:ajK))) ( gU n (decide (s=([116,101,120,116]:ajK)))) ( cond (decide (s=([108,101,110]:ajK))) ( gU n (decide (s=([108,101,110]:ajK)))) ( cond (decide (s=([103,101,116,105,110,116]:ajK))) ( gU n (decide (s=([103,101,116,105,110,116]:ajK)))) ( cond (decide (s=([103,101,116,115,116,114]:ajK))) ( gU n (decide (s=([103,101,116,115,116,114]:ajK)))) ( cond (decide (s=([104,97,115]:ajK))) ( gU n (decide (s=([104,97,115]:ajK)))) ( cond (decide (s=([110,111,119]:ajK))) ( gU n (decide (s=([110,111,119]:ajK)))) ( cond (decide (s=([114,97,110,100,111,109]:ajK))) ( gU n (decide (s=([114,97,110,100,111,109]:ajK)))) ( gU n (decide (s=([110,111,100,101]:ajK)))))))))))))))))))))))))))
def D5(n:Nat)(c:Int):ajO:=some (cond (decide (97≤c)) (decide (c≤122)) false)
def q6(s:ajK):ajO:=au (!(cond (!(decide (s=([]:ajK)))) (decide (((s.length:Nat):Int)≤16)) false)||aP 0 s.length)<|Option.bind (cond (cond (!(decide (s=([]:ajK)))) (decide (((s.length:Nat):Int)≤16)) false) (D5 n (IntKind.i32.wrap (((s.getD 0 0).toNat:Nat):Int))) (some default)) λan=>Option.bind (cond (cond (cond (!(decide (s=([]:ajK)))) (decide (((s.length:Nat):Int)≤16)) false) an false) (y2 n s) (some default)) λaB=>Option.bind (cond (cond (cond (cond (!(decide (s=([]:ajK)))) (decide (((s.length:Nat):Int)≤16)) false) an false) (decide (aB=((s.length:Nat):Int))) false) (D4 n s) (some default)) λaQ=>some (cond (cond (cond (cond (!(decide (s=([]:ajK)))) (decide (((s.length:Nat):Int)≤16)) false) an false) (decide (aB=((s.length:Nat):Int))) false) (!aQ) false)
def NE(n:Nat)(s:ajK):ajO:=some (decide (((s.length:Nat):Int)≤64))
def D6(s:ajK)(ar:Int→ajO)(v4:Int):ajO:=cond (decide (v4<((s.length:Nat):Int))) ( au (aP v4 s.length)<|au ((decide ((((s.getD (v4).toNat 0).toNat:Nat):Int)<32))||aP v4 s.length)<|cond (cond (decide ((((s.getD (v4).toNat 0).toNat:Nat):Int)<32)) true (decide (126<(((s.getD (v4).toNat 0).toNat:Nat):Int)))) ( some false) ( ar (ajM (v4+1)))) ( NE n s)
def vl(n:Nat)(s:ajK):Nat→Int→ajO
 | 0=>λ_=>none
 |m+1=>D6 n s (vl n s m)
def vm(s:ajK):ajO:=vl n s n 0
def pz(v:bB):ajO:=cond (decide (v.Kind=0)) ( some ((decide (v.Kind=0))&&((decide (v.N=0))&&((decide (v.S=([]:ajK)))&&true)))) ( cond (decide (v.Kind=1)) ( some (decide (v.S=([]:ajK)))) ( cond (decide (v.Kind=2)) ( Option.bind (cond (decide (v.N=0)) (vm n v.S) (some default)) λaQ=>some (cond (decide (v.N=0)) aQ false)) ( some false)))
def NF(v:bB):ajO:=Option.bind (cond (!(decide (v.Kind=0))) (pz n v) (some default)) λae=>some (cond (decide (v.Kind=0)) true (!ae))
def NG(n:Nat):ajP:=some (-1)
def NH(s:List bB)(ar:Int→ajP)(v4:Int):ajP:=cond (decide (v4<((s.length:Nat):Int))) ( au (aP v4 s.length)<|(NF n (ajN s v4)).bind λba=>cond ba ( some v4) ( ar (ajM (v4+1)))) ( NG n)
def D7(n:Nat)(s:List bB):Nat→Int→ajP
 | 0=>λ_=>none
 |m+1=>NH n s (D7 n s m)
def NI(s:List bB):ajP:=D7 n s n 0
def NJ(s:List bB):ajO:=(NI n s).bind λae=>some (decide (0≤ae))
def vn(ag:Request):ajP:=cond (cond (cond (cond (decide (ag.Client<1)) true (decide (32<ag.Client))) true (decide (ag.Seq<1))) true (decide (1099511627776<ag.Seq))) ( some 1) ( (q6 n ag.bj).bind λan=>cond (!an) ( some 7) ( cond (decide (6<((ag.az.length:Nat):Int))) ( some 2) ( (NJ n ag.az).bind λbN=>cond bN ( some 1) ( (NC n ag.bY).bind λb4=>cond (cond (cond (!b4) true ag.bY.ep) true (cond (!ag.fD) (decide (0<(ajM (((ag.bY.Reads.length:Nat):Int)+((ag.bY.da.length:Nat):Int))))) false)) ( some 1) ( some 0)))))
def D8(n:Nat)(b:List Int)(c:Int):Option (List Int):=au (room (b.length+([c]:List Int).length) 1)<|some (b++([c]:List Int))
def NK(v9:Int)(v10:List Int):Option ajK:=(D8 n v10 (IntKind.u8.wrap v9)).bind λbU=>au (ow bU)<|some (jT bU)
def NL(ar:Int→(List Int)→Option ajK)(v4:Int)(v5:List Int):Option ajK:=cond (decide (128≤v4)) ( (D8 n v5 (r3 .u8 (IntKind.u8.wrap v4) 128)).bind λba=>ar (r5 .u64 v4 7) ba) ( NK n v4 v5)
def D9(n:Nat):Nat→Int→(List Int)→Option ajK
 | 0=>λ_ _=>none
 |m+1=>NL n (D9 n m)
def hV(u:Int):Option ajK:=D9 n n u ([]:List Int)
def mW(s:ajK):Option ajK:=(hV n (IntKind.u64.wrap ((s.length:Nat):Int))).bind λae=>au (b3 (ae.length+s.length))<|some (ae++s)
def NM(n:Nat)(bL:ajK):Option ajK:=some bL
def NN(l:List ajK)(ar:Int→ajK→Option ajK)(bu:Int)(bp:ajK):Option ajK:=cond (decide (bu<((l.length:Nat):Int))) ( au (aP bu l.length)<|(mW n (ajN l bu)).bind λdZ=>au (b3 (bp.length+dZ.length))<|ar (ajM (bu+1)) (bp++dZ)) ( NM n bp)
def D'(n:Nat)(l:List ajK):Nat→Int→ajK→Option ajK
 | 0=>λ_ _=>none
 |m+1=>NN n l (D' n l m)
def D_(l:List ajK):Option ajK:=(hV n (IntKind.u64.wrap ((l.length:Nat):Int))).bind λae=>D' n l n 0 ae
def pA(dp:Int):Option ajK:=(hV n (uc .u64 (r4 .u64 (IntKind.u64.wrap dp) 1) (IntKind.u64.wrap (r5 .i64 dp 63)))).bind λae=>some ae
def y7(v:bB):Option ajK:=cond (decide (v.Kind=1)) ( (hV n 1).bind λan=>(pA n v.N).bind λaB=>au (b3 (an.length+aB.length))<|some (an++aB)) ( cond (decide (v.Kind=2)) ( (hV n 2).bind λba=>(mW n v.S).bind λb4=>au (b3 (ba.length+b4.length))<|some (ba++b4)) ( (hV n 0).bind λcE=>some cE))
def NO(n:Nat)(b:Bool):Option ajK:=cond b ( some ([1]:ajK)) ( some ([0]:ajK))
def Ea(n:Nat)(ge:ajK):Option ajK:=some ge
def NP(ag:Request)(v22:ajK):Option ajK:=(NO n ag.fD).bind λeH=>au (b3 (v22.length+eH.length))<|cond ag.fD ( (D_ n ag.bY.Reads).bind λe9=>(D_ n ag.bY.da).bind λe'=>au (b3 (e9.length+e'.length))<|au (b3 ((v22++eH).length+(e9++e').length))<|Ea n ((v22++eH)++(e9++e'))) ( Ea n (v22++eH))
def NQ(ag:Request)(eS:ajK→Int→Option ajK)(bx:ajK)(di:Int):Option ajK:=cond (decide (di<((ag.az.length:Nat):Int))) ( au (aP di ag.az.length)<|(y7 n (ajN ag.az di)).bind λfE=>au (b3 (bx.length+fE.length))<|eS (bx++fE) (ajM (di+1))) ( NP n ag bx)
def Eb(n:Nat)(ag:Request):Nat→ajK→Int→Option ajK
 | 0=>λ_ _=>none
 |m+1=>NQ n ag (Eb n ag m)
def NR(ag:Request):Option ajK:=(vn n ag).bind λae=>cond (!decide (ae=0)) ( some ([]:ajK)) ( (hV n (IntKind.u64.wrap ag.Client)).bind λaB=>(hV n (IntKind.u64.wrap ag.Seq)).bind λaQ=>au (b3 (aB.length+aQ.length))<|(mW n ag.bj).bind λba=>au (b3 ((aB++aQ).length+ba.length))<|(hV n (IntKind.u64.wrap ((ag.az.length:Nat):Int))).bind λcq=>au (b3 (((aB++aQ)++ba).length+cq.length))<|Eb n ag n (((aB++aQ)++ba)++cq) 0)
def NS(n:Nat)(aW:ajK):Option ajK:=some aW
def NT(l:List Request)(ar:Int→ajK→Option ajK)(v9:Int)(v10:ajK):Option ajK:=cond (decide (v9<((l.length:Nat):Int))) ( au (aP v9 l.length)<|(vn n (⟨(ajN l v9).Client,(ajN l v9).Seq,(ajN l v9).bj,(ajN l v9).az,(ajN l v9).fD,⟨((ajN l v9).bY).ep,((ajN l v9).bY).Reads,((ajN l v9).bY).da⟩⟩:Request)).bind λeV=>cond (!decide (eV=0)) ( some ([]:ajK)) ( (NR n (⟨(ajN l v9).Client,(ajN l v9).Seq,(ajN l v9).bj,(ajN l v9).az,(ajN l v9).fD,⟨((ajN l v9).bY).ep,((ajN l v9).bY).Reads,((ajN l v9).bY).da⟩⟩:Request)).bind λdI=>au (b3 (v10.length+dI.length))<|ar (ajM (v9+1)) (v10++dI))) ( NS n v10)
def Ec(n:Nat)(l:List Request):Nat→Int→ajK→Option ajK
 | 0=>λ_ _=>none
 |m+1=>NT n l (Ec n l m)
def NU(l:List Request):Option ajK:=cond (decide (64<((l.length:Nat):Int))) ( some ([]:ajK)) ( (hV n (IntKind.u64.wrap ((l.length:Nat):Int))).bind λan=>Ec n l n 0 an)
def Ed(n:Nat):ajO:=some true
def y8(floor:Int)(last:Int)(ag:Row)(ar:Int→ajO)(bp:Int):ajO:=cond (decide (bp<((ag.bi.length:Nat):Int))) ( au (aP bp ag.bi.length)<|Option.bind (cond (!(cond (decide ((ajN ag.bi bp).bH<floor)) true (decide (last<(ajN ag.bi bp).bH)))) (pz n (⟨((ajN ag.bi bp).bo).Kind,((ajN ag.bi bp).bo).N,((ajN ag.bi bp).bo).S⟩:bB)) (some default)) λdZ=>cond (cond (cond (decide ((ajN ag.bi bp).bH<floor)) true (decide (last<(ajN ag.bi bp).bH))) true (!dZ)) ( some false) ( au (!(decide (0<bp))||aP (ajM (bp-1)) ag.bi.length)<|au (!(decide (0<bp))||((decide ((ajN ag.bi bp).bH≤(ajN ag.bi (ajM (bp-1))).bH))||aP (ajM (bp-1)) ag.bi.length))<|cond (cond (decide (0<bp)) (cond (decide ((ajN ag.bi bp).bH≤(ajN ag.bi (ajM (bp-1))).bH)) true ((decide (((ajN ag.bi bp).bo).Kind=((ajN ag.bi (ajM (bp-1))).bo).Kind))&&((decide (((ajN ag.bi bp).bo).N=((ajN ag.bi (ajM (bp-1))).bo).N))&&((decide (((ajN ag.bi bp).bo).S=((ajN ag.bi (ajM (bp-1))).bo).S))&&true)))) false) ( some false) ( ar (ajM (bp+1))))) ( Ed n)
def sU(n:Nat)(floor:Int)(last:Int)(ag:Row):Nat→Int→ajO
 | 0=>λ_=>none
 |m+1=>y8 n floor last ag (sU n floor last ag m)
def y9(ag:Row)(floor:Int)(last:Int):ajO:=au ((decide (((ag.bi.length:Nat):Int)=0))||aP 0 ag.bi.length)<|cond (cond (decide (((ag.bi.length:Nat):Int)=0)) true (decide (((ag.bi.getD 0 default).bo).Kind=0))) ( some false) ( sU n floor last ag n 0)
def Ee(n:Nat):ajO:=some true
def y'(s:ao)(ar:Int→ajO)(bu:Int):ajO:=cond (decide (bu<((s.Rows.length:Nat):Int))) ( au (aP bu s.Rows.length)<|(q5 n ((ajN s.Rows bu).Key)).bind λcE=>au ((!cE)||(!(decide (0<bu))||aP (ajM (bu-1)) s.Rows.length))<|Option.bind (cond (!(cond (!cE) true (cond (decide (0<bu)) ((Op.bytesLess ((ajN s.Rows bu).Key) ((ajN s.Rows (ajM (bu-1))).Key))||(decide (((ajN s.Rows bu).Key)=((ajN s.Rows (ajM (bu-1))).Key)))) false))) (y9 n (ajN s.Rows bu) s.bm s.bk) (some default)) λbU=>cond (cond (cond (!cE) true (cond (decide (0<bu)) ((Op.bytesLess ((ajN s.Rows bu).Key) ((ajN s.Rows (ajM (bu-1))).Key))||(decide (((ajN s.Rows bu).Key)=((ajN s.Rows (ajM (bu-1))).Key)))) false)) true (!bU)) ( some false) ( ar (ajM (bu+1)))) ( Ee n)
def sV(n:Nat)(s:ao):Nat→Int→ajO
 | 0=>λ_=>none
 |m+1=>y' n s (sV n s m)
def sW(s:ao):ajO:=cond (cond (cond (decide (s.bm<0)) true (decide (s.bk<s.bm))) true (decide (1099511627776<s.bk))) ( some false) ( sV n s n 0)
def Ef(n:Nat)(s:ao)(at_:Int):ajP:=cond (cond (decide (at_<s.bm)) true (decide (s.bk<at_))) ( some 15) ( some 0)
def Eg(n:Nat)(v6:Int):ajP:=some v6
def Eh(at_:Int)(ag:Row)(ar:Int→ajP)(v3:Int):ajP:=au (!(decide (v3<((ag.bi.length:Nat):Int)))||aP v3 ag.bi.length)<|cond (cond (decide (v3<((ag.bi.length:Nat):Int))) (decide ((ajN ag.bi v3).bH≤at_)) false) ( ar (ajM (v3+1))) ( Eg n v3)
def vo(n:Nat)(at_:Int)(ag:Row):Nat→Int→ajP
 | 0=>λ_=>none
 |m+1=>Eh n at_ ag (vo n at_ ag m)
def Ei(ag:Row)(at_:Int):ajP:=vo n at_ ag n 0
def y_(ag:Row)(at_:Int):Option bB:=(Ei n ag at_).bind λae=>cond (decide (ae=0)) ( some (⟨0,0,[]⟩:bB)) ( au (aP (ajM (ae-1)) ag.bi.length)<|some (⟨((ajN ag.bi (ajM (ae-1))).bo).Kind,((ajN ag.bi (ajM (ae-1))).bo).N,((ajN ag.bi (ajM (ae-1))).bo).S⟩:bB))
def Ej(n:Nat)(cY:List aI):Option ((List aI)×Int):=some (cY,0)
def vp(n:Nat)(ar:Int→(List aI)→Option ((List aI)×Int))(at_:Int)(s:ao)(v11:Int)(di:List aI):Option ((List aI)×Int):=ar (ajM (v11+1)) di
def Ek(at_:Int)(s:ao)(ar:Int→(List aI)→Option ((List aI)×Int))(v11:Int)(v12:List aI):Option ((List aI)×Int):=cond (decide (v11<((s.Rows.length:Nat):Int))) ( au (aP v11 s.Rows.length)<|(y_ n (ajN s.Rows v11) at_).bind λer=>cond (!decide (er.Kind=0)) ( au (room (v12.length+([(⟨(ajN s.Rows v11).Key,er⟩:aI)]:List aI).length) 48)<|vp n ar at_ s v11 (v12++([(⟨(ajN s.Rows v11).Key,er⟩:aI)]:List aI))) ( vp n ar at_ s v11 v12)) ( Ej n v12)
def vq(n:Nat)(at_:Int)(s:ao):Nat→Int→(List aI)→Option ((List aI)×Int)
 | 0=>λ_ _=>none
 |m+1=>Ek n at_ s (vq n at_ s m)
def vr(s:ao)(at_:Int):Option ((List aI)×Int):=(sW n s).bind λae=>cond (!ae) ( some (([]:List aI),1)) ( (Ef n s at_).bind λaB=>cond (!decide (aB=0)) ( some (([]:List aI),aB)) ( vq n at_ s n 0 ([]:List aI)))
def NV(n:Nat)(kw:ajK):Option ajK:=some kw
def NW(p:bX)(ar:Int→ajK→Option ajK)(aW:Int)(cG:ajK):Option ajK:=cond (decide (aW<((p.a7.length:Nat):Int))) ( au (aP aW p.a7.length)<|(pA n ((ajN p.a7 aW).Id)).bind λd9=>(mW n ((ajN p.a7 aW).dY)).bind λeU=>au (b3 (d9.length+eU.length))<|(pA n ((ajN p.a7 aW).Node)).bind λeH=>au (b3 ((d9++eU).length+eH.length))<|(pA n ((ajN p.a7 aW).gQ)).bind λe9=>au (b3 (((d9++eU)++eH).length+e9.length))<|(mW n ((ajN p.a7 aW).cN)).bind λdC=>au (b3 ((((d9++eU)++eH)++e9).length+dC.length))<|au (b3 (cG.length+((((d9++eU)++eH)++e9)++dC).length))<|ar (ajM (aW+1)) (cG++((((d9++eU)++eH)++e9)++dC))) ( NV n cG)
def El(n:Nat)(p:bX):Nat→Int→ajK→Option ajK
 | 0=>λ_ _=>none
 |m+1=>NW n p (El n p m)
def NX(p:bX):Option ajK:=(pA n p.Version).bind λae=>(hV n (IntKind.u64.wrap ((p.a7.length:Nat):Int))).bind λan=>au (b3 (ae.length+an.length))<|El n p n 0 (ae++an)
def NY(n:Nat)(y:Param)(af:Param):ajO:=some (decide (y.Name=af.Name))
def NZ(n:Nat)(af:Param):ajP:=some (-1)
def N0(s:List Param)(af:Param)(ar:Int→ajP)(v4:Int):ajP:=cond (decide (v4<((s.length:Nat):Int))) ( au (aP v4 s.length)<|(NY n (ajN s v4) af).bind λba=>cond ba ( some v4) ( ar (ajM (v4+1)))) ( NZ n af)
def Em(n:Nat)(s:List Param)(af:Param):Nat→Int→ajP
 | 0=>λ_=>none
 |m+1=>N0 n s af (Em n s af m)
def N1(s:List Param)(af:Param):ajP:=Em n s af n 0
def N2(s:List Param)(af:Param):ajO:=(N1 n s af).bind λae=>some (decide (0≤ae))
def N3(n:Nat):ajP:=some 0
def N4(l:List Param)(ar:Int→ajP)(bu:Int):ajP:=cond (decide (bu<((l.length:Nat):Int))) ( au (aP bu l.length)<|(q6 n ((ajN l bu).Name)).bind λcE=>cond (!cE) ( some 7) ( cond (cond (decide ((ajN l bu).hT<1)) true (decide (3<(ajN l bu).hT))) ( some 10) ( au (gb bu l.length)<|(N2 n (l.take (bu).toNat) (ajN l bu)).bind λbU=>cond bU ( some 8) ( ar (ajM (bu+1)))))) ( N3 n)
def En(n:Nat)(l:List Param):Nat→Int→ajP
 | 0=>λ_=>none
 |m+1=>N4 n l (En n l m)
def N5(l:List Param):ajP:=cond (decide (6<((l.length:Nat):Int))) ( some 2) ( En n l n 0)
def N6(n:Nat)(op:Int):ajP:=cond (cond (decide (op<1)) true (decide (27<op))) ( some (-1)) ( cond (cond (decide (op≤3)) true (decide (25≤op))) ( some 0) ( cond (cond (cond (decide (op=9)) true (decide (op=18))) true (decide (20≤op))) ( some 1) ( some 2)))
def Eo(n:Nat)(s:ajK):ajO:=some (decide (((s.length:Nat):Int)≤64))
def Ep(s:ajK)(ar:Int→ajO)(v4:Int):ajO:=cond (decide (v4<((s.length:Nat):Int))) ( au (aP v4 s.length)<|au ((decide ((((s.getD (v4).toNat 0).toNat:Nat):Int)<32))||aP v4 s.length)<|cond (cond (decide ((((s.getD (v4).toNat 0).toNat:Nat):Int)<32)) true (decide (126<(((s.getD (v4).toNat 0).toNat:Nat):Int)))) ( some false) ( ar (ajM (v4+1)))) ( Eo n s)
def sX(n:Nat)(s:ajK):Nat→Int→ajO
 | 0=>λ_=>none
 |m+1=>Ep n s (sX n s m)
def Er(s:ajK):ajO:=sX n s n 0
def N7(e:Expr)(depth:Int):ajP:=(N6 n e.Op).bind λae=>cond (cond (cond (decide (ae<0)) true (cond (!decide (e.Op=1)) (!decide (e.N=0)) false)) true (cond (cond (!decide (e.Op=2)) (!decide (e.Op=3)) false) (!(decide (e.S=([]:ajK)))) false)) ( some 1) ( Option.bind (cond (decide (e.Op=3)) (q6 n e.S) (some default)) λaB=>cond (cond (decide (e.Op=3)) (!aB) false) ( some 7) ( Option.bind (cond ((!(cond (decide (e.Op=1)) (decide (e.N<0)) false))&&(decide (e.Op=2))) (Er n e.S) (some default)) λbN=>cond (cond (cond (cond (decide (e.Op=1)) (decide (e.N<0)) false) true (cond (decide (e.Op=2)) (!bN) false)) true (!decide (((e.az.length:Nat):Int)=ae))) ( some 1) ( cond (decide (12<depth)) ( some 2) ( some 0))))
def N8(n:Nat)(kX:Expr→Int→ajP):ajP:=some 0
def N9(kX:Expr→Int→ajP)(depth:Int)(e:Expr)(ar:Int→ajP)(v6:Int):ajP:=cond (decide (v6<((e.az.length:Nat):Int))) ( au (aP v6 e.az.length)<|(kX (ajN e.az v6) (ajM (depth+1))).bind λcq=>cond (!decide (cq=0)) ( some cq) ( ar (ajM (v6+1)))) ( N8 n kX)
def Es(n:Nat)(kX:Expr→Int→ajP)(depth:Int)(e:Expr):Nat→Int→ajP
 | 0=>λ_=>none
 |m+1=>N9 n kX depth e (Es n kX depth e m)
def N'(kX:Expr→Int→ajP)(e:Expr)(depth:Int):ajP:=(N7 n e depth).bind λae=>cond (!decide (ae=0)) ( some ae) ( Es n kX depth e n 0)
def Et:Nat→Expr→Int→ajP
 | 0=>λ_ _=>none
 |m+1=>N' m (Et m)
def Eu(e:Expr):ajP:=(Et n e 1).bind λae=>some ae
def za(n:Nat)(e:Expr):ajO:=some (cond (cond (cond (decide (e.Op=0)) (decide (e.N=0)) false) (decide (e.S=([]:ajK))) false) (decide (((e.az.length:Nat):Int)=0)) false)
def N_(s:Stmt)(u:jy):ajO:=Option.bind (cond ((!(cond (!u.name) (!(decide (s.Name=([]:ajK)))) false))&&(!u.a)) (za n (⟨s.A.Op,s.A.N,s.A.S,s.A.az⟩:Expr)) (some default)) λae=>Option.bind (cond ((!(cond (cond (!u.name) (!(decide (s.Name=([]:ajK)))) false) true (cond (!u.a) (!ae) false)))&&(!u.b)) (za n (⟨s.B.Op,s.B.N,s.B.S,s.B.az⟩:Expr)) (some default)) λan=>cond (cond (cond (cond (cond (cond (cond (!u.name) (!(decide (s.Name=([]:ajK)))) false) true (cond (!u.a) (!ae) false)) true (cond (!u.b) (!an) false)) true (cond (!u.max) (!decide (s.Max=0)) false)) true (cond (!u.body) (decide (0<((s.Body.length:Nat):Int))) false)) true (cond (!u.other) (decide (0<((s.c7.length:Nat):Int))) false)) ( some false) ( cond (decide (s.Op=6)) ( some (cond (decide (1≤s.Max)) (decide (s.Max≤16)) false)) ( cond (decide (s.Op=8)) ( some (cond (decide (0≤s.Max)) (decide (s.Max≤999)) false)) ( some true)))
def Oa(n:Nat):Option (jy×Bool):=some ((⟨false,false,false,false,false,false⟩:jy),false)
def Ev(op:Int)(v2:Bool):Option (jy×Bool):=cond v2 ( some ((⟨false,true,false,false,false,false⟩:jy),true)) ( cond (decide (op=5)) ( some ((⟨false,true,false,false,true,true⟩:jy),true)) ( cond (decide (op=6)) ( some ((⟨true,true,true,true,true,false⟩:jy),true)) ( cond (decide (op=8)) ( some ((⟨false,false,false,true,false,false⟩:jy),true)) ( Oa n))))
def Ew(op:Int)(v1:Bool):Option (jy×Bool):=cond v1 ( some ((⟨true,true,false,false,false,false⟩:jy),true)) ( cond (decide (op=3)) ( some ((⟨false,true,true,false,false,false⟩:jy),true)) ( cond (decide (op=4)) ( Ev n op (decide (op=4))) ( Ev n op (decide (op=7)))))
def Ob(op:Int):Option (jy×Bool):=cond (decide (op=1)) ( Ew n op (decide (op=1))) ( Ew n op (decide (op=2)))
def Ex(n:Nat)(depth:Int):ajP:=cond (decide (12<depth)) ( some 2) ( some 0)
def Ey(depth:Int)(s:Stmt)(ae:jy×Bool):ajP:=cond ae.1.b ( (Eu n (⟨s.B.Op,s.B.N,s.B.S,s.B.az⟩:Expr)).bind λb4=>cond (!decide (b4=0)) ( some b4) ( Ex n depth)) ( Ex n depth)
def Oc(s:Stmt)(depth:Int):ajP:=(Ob n s.Op).bind λae=>Option.bind (cond (!(!ae.2)) (N_ n (⟨s.Op,s.Name,s.Max,⟨s.A.Op,s.A.N,s.A.S,s.A.az⟩,⟨s.B.Op,s.B.N,s.B.S,s.B.az⟩,s.Body,s.c7⟩:Stmt) ae.1) (some default)) λan=>cond (cond (!ae.2) true (!an)) ( some 1) ( Option.bind (cond ae.1.name (q6 n s.Name) (some default)) λaQ=>cond (cond ae.1.name (!aQ) false) ( some 7) ( cond ae.1.a ( (Eu n (⟨s.A.Op,s.A.N,s.A.S,s.A.az⟩:Expr)).bind λba=>cond (!decide (ba=0)) ( some ba) ( Ey n depth s ae)) ( Ey n depth s ae)))
def Od(s:Stmt)(depth:Int)(af:Int):ajP:=cond (decide (af=0)) ( (Oc n (⟨s.Op,s.Name,s.Max,⟨s.A.Op,s.A.N,s.A.S,s.A.az⟩,⟨s.B.Op,s.B.N,s.B.S,s.B.az⟩,s.Body,s.c7⟩:Stmt) depth).bind λan=>some an) ( some af)
def Oe(n:Nat)(a0:Expr):Option Unit:=some ()
def Of(n:Nat)(mX:Expr→Int→Int→ajP)(e:Expr)(e_:Int)(c6:Int→Int→ajP)(v6:Int)(bu:Int):ajP:=cond (decide (bu<((e.az.length:Nat):Int))) ( au (aP bu e.az.length)<|(mX (ajN e.az bu) v6 e_).bind λcE=>c6 cE (ajM (bu+1))) ( some v6)
def Ez(n:Nat)(mX:Expr→Int→Int→ajP)(e:Expr)(e_:Int):Nat→Int→Int→ajP
 | 0=>λ_ _=>none
 |m+1=>Of n mX e e_ (Ez n mX e e_ m)
def Og(mX:Expr→Int→Int→ajP)(e:Expr)(hW:Int)(e_:Int):ajP:=cond (decide (hW=0)) ( some hW) ( Ez n mX e e_ n (ajM (hW-1)) 0)
def EA:Nat→Expr→Int→Int→ajP
 | 0=>λ_ _ _=>none
 |m+1=>Og m (EA m)
def EB(e:Expr)(hW:Int)(e_:Int):ajP:=Option.bind (cond (!(decide (hW=0))) (za n e) (some default)) λae=>cond (cond (decide (hW=0)) true ae) ( some hW) ( (Oe n e).bind λaB=>(EA n e hW e_).bind λaQ=>some aQ)
def Oh(mh:(List Stmt)→Int→Int→Int→Option (Int×Int))(depth:Int)(l:List Stmt)(c6:Int→Int→Int→Option (Int×Int))(v10:Int)(v11:Int)(v12:Int):Option (Int×Int):=cond (decide (v12<((l.length:Nat):Int))) ( au (aP v12 l.length)<|cond (decide (v10=0)) ( some (v10,v11)) ( (Od n (⟨(ajN l v12).Op,(ajN l v12).Name,(ajN l v12).Max,⟨((ajN l v12).A).Op,((ajN l v12).A).N,((ajN l v12).A).S,((ajN l v12).A).az⟩,⟨((ajN l v12).B).Op,((ajN l v12).B).N,((ajN l v12).B).S,((ajN l v12).B).az⟩,(ajN l v12).Body,(ajN l v12).c7⟩:Stmt) depth v11).bind λer=>(EB n (⟨((ajN l v12).A).Op,((ajN l v12).A).N,((ajN l v12).A).S,((ajN l v12).A).az⟩:Expr) (ajM (v10-1)) er).bind λdJ=>(EB n (⟨((ajN l v12).B).Op,((ajN l v12).B).N,((ajN l v12).B).S,((ajN l v12).B).az⟩:Expr) dJ er).bind λdD=>(mh ((ajN l v12).Body) (ajM (depth+1)) dD er).bind λeI=>(mh ((ajN l v12).c7) (ajM (depth+1)) eI.1 eI.2).bind λfE=>c6 fE.1 fE.2 (ajM (v12+1)))) ( some (v10,v11))
def EC(n:Nat)(mh:(List Stmt)→Int→Int→Int→Option (Int×Int))(depth:Int)(l:List Stmt):Nat→Int→Int→Int→Option (Int×Int)
 | 0=>λ_ _ _=>none
 |m+1=>Oh n mh depth l (EC n mh depth l m)
def Oi(mh:(List Stmt)→Int→Int→Int→Option (Int×Int))(l:List Stmt)(depth:Int)(hW:Int)(e_:Int):Option (Int×Int):=EC n mh depth l n hW e_ 0
def ED:Nat→(List Stmt)→Int→Int→Int→Option (Int×Int)
 | 0=>λ_ _ _ _=>none
 |m+1=>Oi m (ED m)
def Oj(p:bj)(af:Int):Option (Int×Int):=(ED n p.Body 1 401 af).bind λae=>some ((ajM (401-ae.1)),ae.2)
def EE(p:bj):ajP:=(q6 n p.Name).bind λae=>cond (!ae) ( some 7) ( (N5 n p.Params).bind λaB=>cond (!decide (aB=0)) ( some aB) ( (Oj n p aB).bind λbN=>cond (cond (decide (bN.2=0)) (decide (400<bN.1)) false) ( some 2) ( some bN.2)))
def zb(n:Nat)(ty:Int):Option ajK:=cond (decide (ty=1)) ( some ([105,110,116]:ajK)) ( cond (decide (ty=2)) ( some ([115,116,114]:ajK)) ( some ([98,111,111,108]:ajK)))
def Ok(n:Nat)(op:Int):Option (Unit ⊕ Unit ⊕ Unit ⊕ Unit ⊕ Unit ⊕ Unit ⊕ Unit ⊕ Unit):=cond (decide (op=1)) ( some (.inl ())) ( cond (decide (op=2)) ( some (.inr (.inl ()))) ( cond (decide (op=3)) ( some (.inr (.inr (.inl ())))) ( cond (decide (op=4)) ( some (.inr (.inr (.inr (.inl ()))))) ( cond (decide (op=5)) ( some (.inr (.inr (.inr (.inr (.inl ())))))) ( cond (decide (op=6)) ( some (.inr (.inr (.inr (.inr (.inr (.inl ()))))))) ( cond (decide (op=7)) ( some (.inr (.inr (.inr (.inr (.inr (.inr (.inl ())))))))) ( some (.inr (.inr (.inr (.inr (.inr (.inr (.inr ()))))))))))))))
def zc(dp:Int):Option ajK:=(DW n dp 10).bind λae=>some ae
def zd(n:Nat)(bZ:List Int)(cb:Int):Option Unit:=some ()
def Ol(c:Int)(bZ:List Int)(cb:Int):Option (List Int):=(zd n bZ cb).bind λae=>au (room (bZ.length+([c]:List Int).length) 1)<|some (bZ++([c]:List Int))
def EF(s:ajK)(bZ:List Int)(cb:Int):Option (Int×(List Int)):=(zd n bZ cb).bind λae=>au (room (bZ.length+s.length) 1)<|some (((s.length:Nat):Int),(bZ++s.map λb=>(b.toNat:Int)))
def Om(cb:Int)(v20:List Int):Option (List Int):=(Ol n 10 v20 cb).bind λeU=>some eU
def On(parts:List ajK)(cb:Int)(eS:(List Int)→Int→Option (List Int))(bL:List Int)(bx:Int):Option (List Int):=cond (decide (bx<((parts.length:Nat):Int))) ( au (aP bx parts.length)<|(EF n (ajN parts bx) bL cb).bind λeI=>eS eI.2 (ajM (bx+1))) ( Om n cb bL)
def EG(n:Nat)(parts:List ajK)(cb:Int):Nat→(List Int)→Int→Option (List Int)
 | 0=>λ_ _=>none
 |m+1=>On n parts cb (EG n parts cb m)
def Oo(parts:List ajK)(cb:Int)(v9:List Int):Option (List Int):=EG n parts cb n v9 0
def Oq(parts:List ajK)(cb:Int)(dS:(List Int)→Int→Option (List Int))(v4:List Int)(v5:Int):Option (List Int):=cond (decide (v5<cb)) ( (EF n ([32,32,32,32]:ajK) v4 cb).bind λba=>dS ba.2 (ajM (v5+1))) ( Oo n parts cb v4)
def EH(n:Nat)(parts:List ajK)(cb:Int):Nat→(List Int)→Int→Option (List Int)
 | 0=>λ_ _=>none
 |m+1=>Oq n parts cb (EH n parts cb m)
def kY(parts:List ajK)(bZ:List Int)(cb:Int):Option (List Int):=EH n parts cb n bZ 0
def Ot(s:Stmt)(bZ:List Int)(cb:Int):Option (List Int):=(zc n s.Max).bind λae=>(kY n ([([97,98,111,114,116,32]:ajK),ae,([59]:ajK)]:List ajK) bZ cb).bind λan=>some an
def Ou(n:Nat):ajO:=some true
def Ov(s:ajK)(ar:Int→ajO)(v4:Int):ajO:=cond (decide (v4<((s.length:Nat):Int))) ( au (aP v4 s.length)<|au ((decide ((((s.getD (v4).toNat 0).toNat:Nat):Int)<32))||aP v4 s.length)<|cond (cond (decide ((((s.getD (v4).toNat 0).toNat:Nat):Int)<32)) true (decide (126<(((s.getD (v4).toNat 0).toNat:Nat):Int)))) ( some false) ( ar (ajM (v4+1)))) ( Ou n)
def EI(n:Nat)(s:ajK):Nat→Int→ajO
 | 0=>λ_=>none
 |m+1=>Ov n s (EI n s m)
def Ow(s:ajK):ajO:=EI n s n 0
def q7(n:Nat)(bZ:List Int):Option (ajK×(List Int)):=au (ow bZ&&decide (bZ.length≤9223372036854775807))<|some (jT bZ,bZ)
def ze(n:Nat)(bZ:List Int):Option Unit:=some ()
def vt(c:Int)(bZ:List Int):Option (List Int):=(ze n bZ).bind λae=>au (room (bZ.length+([c]:List Int).length) 1)<|some (bZ++([c]:List Int))
def Ox(v25:List Int):Option (ajK×Int):=(vt n 34 v25).bind λe'=>(q7 n e').bind λdC=>some (dC.1,0)
def Oy(n:Nat)(ar:(List Int)→Int→Option (ajK×Int))(s:ajK)(bx:Int)(v22:List Int):Option (ajK×Int):=ar v22 (ajM (bx+1))
def EJ(ar:(List Int)→Int→Option (ajK×Int))(s:ajK)(bx:Int)(cY:List Int):Option (ajK×Int):=au (aP bx s.length)<|(vt n (((s.getD (bx).toNat 0).toNat:Nat):Int) cY).bind λeU=>Oy n ar s bx eU
def Oz(s:ajK)(ar:(List Int)→Int→Option (ajK×Int))(bL:List Int)(bx:Int):Option (ajK×Int):=cond (decide (bx<((s.length:Nat):Int))) ( au (aP bx s.length)<|au ((decide ((((s.getD (bx).toNat 0).toNat:Nat):Int)=34))||aP bx s.length)<|cond (cond (decide ((((s.getD (bx).toNat 0).toNat:Nat):Int)=34)) true (decide ((((s.getD (bx).toNat 0).toNat:Nat):Int)=92))) ( (vt n 92 bL).bind λfE=>EJ n ar s bx fE) ( EJ n ar s bx bL)) ( Ox n bL)
def EK(n:Nat)(s:ajK):Nat→(List Int)→Int→Option (ajK×Int)
 | 0=>λ_ _=>none
 |m+1=>Oz n s (EK n s m)
def OA(s:ajK):Option (ajK×Int):=cond (decide (64<((s.length:Nat):Int))) ( some (([]:ajK),2)) ( (Ow n s).bind λan=>cond (!an) ( some (([]:ajK),1)) ( (vt n 34 ([]:List Int)).bind λaQ=>EK n s n aQ 0))
def OB(n:Nat):ajP:=some 9
def zf(op:Int)(v3:Bool):ajP:=cond v3 ( some 7) ( cond (decide (op=9)) ( some 8) ( OB n))
def EL(op:Int)(v2:Bool):ajP:=cond v2 ( some 6) ( cond (decide (op=6)) ( zf n op (decide (op=6))) ( cond (decide (op=7)) ( zf n op (decide (op=7))) ( zf n op (decide (op=8)))))
def q8(op:Int)(v1:Bool):ajP:=cond v1 ( some 4) ( cond (decide (op=19)) ( some 5) ( cond (decide (op=4)) ( EL n op (decide (op=4))) ( EL n op (decide (op=5)))))
def EM(op:Int):ajP:=cond (decide (op=17)) ( some 1) ( cond (decide (op=16)) ( some 2) ( cond (decide (op=18)) ( some 3) ( cond (decide (op=10)) ( q8 n op (decide (op=10))) ( cond (decide (op=11)) ( q8 n op (decide (op=11))) ( cond (decide (op=12)) ( q8 n op (decide (op=12))) ( cond (decide (op=13)) ( q8 n op (decide (op=13))) ( cond (decide (op=14)) ( q8 n op (decide (op=14))) ( q8 n op (decide (op=15))))))))))
def EN(n:Nat)(op:Int):Option ajK:=cond (decide (op=17)) ( some ([111,114]:ajK)) ( cond (decide (op=16)) ( some ([97,110,100]:ajK)) ( cond (decide (op=10)) ( some ([61,61]:ajK)) ( cond (decide (op=11)) ( some ([33,61]:ajK)) ( cond (decide (op=12)) ( some ([60]:ajK)) ( cond (decide (op=13)) ( some ([60,61]:ajK)) ( cond (decide (op=14)) ( some ([62]:ajK)) ( cond (decide (op=15)) ( some ([62,61]:ajK)) ( cond (decide (op=19)) ( some ([43,43]:ajK)) ( cond (decide (op=4)) ( some ([43]:ajK)) ( cond (decide (op=5)) ( some ([45]:ajK)) ( cond (decide (op=6)) ( some ([42]:ajK)) ( cond (decide (op=7)) ( some ([47]:ajK)) ( some ([37]:ajK))))))))))))))
def EO(n:Nat)(op:Int):Option ajK:=cond (decide (op=20)) ( some ([116,101,120,116]:ajK)) ( cond (decide (op=21)) ( some ([108,101,110]:ajK)) ( cond (decide (op=22)) ( some ([103,101,116,105,110,116]:ajK)) ( cond (decide (op=23)) ( some ([103,101,116,115,116,114]:ajK)) ( cond (decide (op=24)) ( some ([104,97,115]:ajK)) ( cond (decide (op=25)) ( some ([110,111,119]:ajK)) ( cond (decide (op=26)) ( some ([114,97,110,100,111,109]:ajK)) ( cond (decide (op=27)) ( some ([110,111,100,101]:ajK)) ( some ([]:ajK)))))))))
def OC(nU:Expr→Option ajK)(lC:Expr→Int→Option ajK)(e:Expr):Option ajK:=(EM n e.Op).bind λae=>cond (decide (e.Op=1)) ( (zc n e.N).bind λaB=>some aB) ( cond (decide (e.Op=2)) ( (OA n e.S).bind λbN=>some bN.1) ( cond (decide (e.Op=3)) ( some e.S) ( cond (decide (e.Op=18)) ( au (aP 0 e.az.length)<|(lC (e.az.getD 0 default) ae).bind λcE=>au (b3 (([110,111,116,32]:ajK).length+cE.length))<|some (([110,111,116,32]:ajK)++cE)) ( cond (decide (e.Op=9)) ( au (aP 0 e.az.length)<|(lC (e.az.getD 0 default) ae).bind λdI=>au (b3 (([45]:ajK).length+dI.length))<|some (([45]:ajK)++dI)) ( cond (cond (decide (ae=9)) (decide (((e.az.length:Nat):Int)=0)) false) ( (EO n e.Op).bind λdD=>au (b3 (dD.length+([40,41]:ajK).length))<|some (dD++([40,41]:ajK))) ( cond (decide (ae=9)) ( (EO n e.Op).bind λeC=>au (b3 (eC.length+([40]:ajK).length))<|au (aP 0 e.az.length)<|(nU (e.az.getD 0 default)).bind λd'=>au (b3 ((eC++([40]:ajK)).length+d'.length))<|au (b3 (((eC++([40]:ajK))++d').length+([41]:ajK).length))<|some (((eC++([40]:ajK))++d')++([41]:ajK))) ( cond (decide (ae=4)) ( au (aP 0 e.az.length)<|(lC (e.az.getD 0 default) 5).bind λdC=>au (b3 (dC.length+([32]:ajK).length))<|(EN n e.Op).bind λfa=>au (b3 ((dC++([32]:ajK)).length+fa.length))<|au (b3 (((dC++([32]:ajK))++fa).length+([32]:ajK).length))<|au (aP 1 e.az.length)<|(lC (e.az.getD 1 default) 5).bind λmi=>au (b3 ((((dC++([32]:ajK))++fa)++([32]:ajK)).length+mi.length))<|some ((((dC++([32]:ajK))++fa)++([32]:ajK))++mi)) ( au (aP 0 e.az.length)<|(lC (e.az.getD 0 default) ae).bind λlD=>au (b3 (lD.length+([32]:ajK).length))<|(EN n e.Op).bind λmY=>au (b3 ((lD++([32]:ajK)).length+mY.length))<|au (b3 (((lD++([32]:ajK))++mY).length+([32]:ajK).length))<|au (aP 1 e.az.length)<|(lC (e.az.getD 1 default) (ajM (ae+1))).bind λgf=>au (b3 ((((lD++([32]:ajK))++mY)++([32]:ajK)).length+gf.length))<|some ((((lD++([32]:ajK))++mY)++([32]:ajK))++gf)))))))))
def OD(nU:Expr→Option ajK)(lC:Expr→Int→Option ajK)(e:Expr)(least:Int):Option ajK:=(EM n e.Op).bind λae=>cond (decide (ae<least)) ( (nU e).bind λaB=>au (b3 (([40]:ajK).length+aB.length))<|au (b3 ((([40]:ajK)++aB).length+([41]:ajK).length))<|some ((([40]:ajK)++aB)++([41]:ajK))) ( (nU e).bind λba=>some ba)
def sY:Nat→(Expr→Option ajK)×(Expr→Int→Option ajK)
 | 0=>(λ_=>none,λ_ _=>none)
 |m+1=>(OC m ((sY m).1) ((sY m).2),OD m ((sY m).1) ((sY m).2))
def mZ:Expr→Option ajK:=(sY n).1
def aaY:Expr→Int→Option ajK:=(sY n).2
def OE(s:Stmt)(bZ:List Int)(cb:Int):Option (List Int):=(mZ n (⟨s.A.Op,s.A.N,s.A.S,s.A.az⟩:Expr)).bind λae=>(kY n ([s.Name,([32,61,32]:ajK),ae,([59]:ajK)]:List ajK) bZ cb).bind λan=>some an
def OF(s:Stmt)(bZ:List Int)(cb:Int):Option (List Int):=(mZ n (⟨s.A.Op,s.A.N,s.A.S,s.A.az⟩:Expr)).bind λae=>(kY n ([([108,101,116,32]:ajK),s.Name,([32,61,32]:ajK),ae,([59]:ajK)]:List ajK) bZ cb).bind λan=>some an
def OG(s:Stmt)(bZ:List Int)(cb:Int):Option (List Int):=(mZ n (⟨s.A.Op,s.A.N,s.A.S,s.A.az⟩:Expr)).bind λae=>(kY n ([([101,109,105,116,32]:ajK),ae,([59]:ajK)]:List ajK) bZ cb).bind λan=>some an
def OH(s:Stmt)(bZ:List Int)(cb:Int):Option (List Int):=(mZ n (⟨s.A.Op,s.A.N,s.A.S,s.A.az⟩:Expr)).bind λae=>(mZ n (⟨s.B.Op,s.B.N,s.B.S,s.B.az⟩:Expr)).bind λan=>(kY n ([([112,117,116,32]:ajK),ae,([32,61,32]:ajK),an,([59]:ajK)]:List ajK) bZ cb).bind λaB=>some aB
def OI(s:Stmt)(bZ:List Int)(cb:Int):Option (List Int):=(mZ n (⟨s.A.Op,s.A.N,s.A.S,s.A.az⟩:Expr)).bind λae=>(kY n ([([100,101,108,101,116,101,32]:ajK),ae,([59]:ajK)]:List ajK) bZ cb).bind λan=>some an
def OJ(n:Nat)(gC:(List Stmt)→(List Int)→Int→Option ((List Int)×Int))(gV:Stmt→(List Int)→Int→Option ((List Int)×Int))(gW:Stmt→(List Int)→Int→Option ((List Int)×Int))(kw:List Int)(oF:Int):Option ((List Int)×Int):=some (kw,(ajM (oF-1)))
def OK(gC:(List Stmt)→(List Int)→Int→Option ((List Int)×Int))(gV:Stmt→(List Int)→Int→Option ((List Int)×Int))(gW:Stmt→(List Int)→Int→Option ((List Int)×Int))(l:List Stmt)(ar:(List Int)→Int→Int→Option ((List Int)×Int))(bx:List Int)(di:Int)(aW:Int):Option ((List Int)×Int):=cond (decide (aW<((l.length:Nat):Int))) ( au (aP aW l.length)<|(Ok n ((ajN l aW).Op)).bind λeC=>ja.on eC (λaaZ=>(OF n (⟨(ajN l aW).Op,(ajN l aW).Name,(ajN l aW).Max,⟨((ajN l aW).A).Op,((ajN l aW).A).N,((ajN l aW).A).S,((ajN l aW).A).az⟩,⟨((ajN l aW).B).Op,((ajN l aW).B).N,((ajN l aW).B).S,((ajN l aW).B).az⟩,(ajN l aW).Body,(ajN l aW).c7⟩:Stmt) bx di).bind λeU=>ar eU di (ajM (aW+1))) (λOL=>ja.on OL (λaa0=>(OE n (⟨(ajN l aW).Op,(ajN l aW).Name,(ajN l aW).Max,⟨((ajN l aW).A).Op,((ajN l aW).A).N,((ajN l aW).A).S,((ajN l aW).A).az⟩,⟨((ajN l aW).B).Op,((ajN l aW).B).N,((ajN l aW).B).S,((ajN l aW).B).az⟩,(ajN l aW).Body,(ajN l aW).c7⟩:Stmt) bx di).bind λd'=>ar d' di (ajM (aW+1))) (λOM=>ja.on OM (λaa1=>(OH n (⟨(ajN l aW).Op,(ajN l aW).Name,(ajN l aW).Max,⟨((ajN l aW).A).Op,((ajN l aW).A).N,((ajN l aW).A).S,((ajN l aW).A).az⟩,⟨((ajN l aW).B).Op,((ajN l aW).B).N,((ajN l aW).B).S,((ajN l aW).B).az⟩,(ajN l aW).Body,(ajN l aW).c7⟩:Stmt) bx di).bind λeH=>ar eH di (ajM (aW+1))) (λON=>ja.on ON (λaa2=>(OI n (⟨(ajN l aW).Op,(ajN l aW).Name,(ajN l aW).Max,⟨((ajN l aW).A).Op,((ajN l aW).A).N,((ajN l aW).A).S,((ajN l aW).A).az⟩,⟨((ajN l aW).B).Op,((ajN l aW).B).N,((ajN l aW).B).S,((ajN l aW).B).az⟩,(ajN l aW).Body,(ajN l aW).c7⟩:Stmt) bx di).bind λfF=>ar fF di (ajM (aW+1))) (λOO=>ja.on OO (λaa3=>(gV (⟨(ajN l aW).Op,(ajN l aW).Name,(ajN l aW).Max,⟨((ajN l aW).A).Op,((ajN l aW).A).N,((ajN l aW).A).S,((ajN l aW).A).az⟩,⟨((ajN l aW).B).Op,((ajN l aW).B).N,((ajN l aW).B).S,((ajN l aW).B).az⟩,(ajN l aW).Body,(ajN l aW).c7⟩:Stmt) bx di).bind λe9=>ar e9.1 e9.2 (ajM (aW+1))) (λOP=>ja.on OP (λaa4=>(gW (⟨(ajN l aW).Op,(ajN l aW).Name,(ajN l aW).Max,⟨((ajN l aW).A).Op,((ajN l aW).A).N,((ajN l aW).A).S,((ajN l aW).A).az⟩,⟨((ajN l aW).B).Op,((ajN l aW).B).N,((ajN l aW).B).S,((ajN l aW).B).az⟩,(ajN l aW).Body,(ajN l aW).c7⟩:Stmt) bx di).bind λe'=>ar e'.1 e'.2 (ajM (aW+1))) (λOQ=>ja.on OQ (λaa5=>(OG n (⟨(ajN l aW).Op,(ajN l aW).Name,(ajN l aW).Max,⟨((ajN l aW).A).Op,((ajN l aW).A).N,((ajN l aW).A).S,((ajN l aW).A).az⟩,⟨((ajN l aW).B).Op,((ajN l aW).B).N,((ajN l aW).B).S,((ajN l aW).B).az⟩,(ajN l aW).Body,(ajN l aW).c7⟩:Stmt) bx di).bind λdC=>ar dC di (ajM (aW+1))) (λaa6=>(Ot n (⟨(ajN l aW).Op,(ajN l aW).Name,(ajN l aW).Max,⟨((ajN l aW).A).Op,((ajN l aW).A).N,((ajN l aW).A).S,((ajN l aW).A).az⟩,⟨((ajN l aW).B).Op,((ajN l aW).B).N,((ajN l aW).B).S,((ajN l aW).B).az⟩,(ajN l aW).Body,(ajN l aW).c7⟩:Stmt) bx di).bind λmj=>ar mj di (ajM (aW+1)))))))))) ( OJ n gC gV gW bx di)
def EP(n:Nat)(gC:(List Stmt)→(List Int)→Int→Option ((List Int)×Int))(gV:Stmt→(List Int)→Int→Option ((List Int)×Int))(gW:Stmt→(List Int)→Int→Option ((List Int)×Int))(l:List Stmt):Nat→(List Int)→Int→Int→Option ((List Int)×Int)
 | 0=>λ_ _ _=>none
 |m+1=>OK n gC gV gW l (EP n gC gV gW l m)
def OR(gC:(List Stmt)→(List Int)→Int→Option ((List Int)×Int))(gV:Stmt→(List Int)→Int→Option ((List Int)×Int))(gW:Stmt→(List Int)→Int→Option ((List Int)×Int))(l:List Stmt)(bZ:List Int)(cb:Int):Option ((List Int)×Int):=EP n gC gV gW l n bZ (ajM (cb+1)) 0
def EQ(gC:(List Stmt)→(List Int)→Int→Option ((List Int)×Int))(gV:Stmt→(List Int)→Int→Option ((List Int)×Int))(gW:Stmt→(List Int)→Int→Option ((List Int)×Int))(v6:List Int)(bu:Int):Option ((List Int)×Int):=(kY n ([([125]:ajK)]:List ajK) v6 bu).bind λcq=>some (cq,bu)
def OS(gC:(List Stmt)→(List Int)→Int→Option ((List Int)×Int))(gV:Stmt→(List Int)→Int→Option ((List Int)×Int))(gW:Stmt→(List Int)→Int→Option ((List Int)×Int))(s:Stmt)(bZ:List Int)(cb:Int):Option ((List Int)×Int):=(mZ n (⟨s.A.Op,s.A.N,s.A.S,s.A.az⟩:Expr)).bind λae=>(kY n ([([105,102,32]:ajK),ae,([32,123]:ajK)]:List ajK) bZ cb).bind λan=>(gC s.Body an cb).bind λaB=>cond (decide (0<((s.c7.length:Nat):Int))) ( (kY n ([([125,32,101,108,115,101,32,123]:ajK)]:List ajK) aB.1 aB.2).bind λaQ=>(gC s.c7 aQ aB.2).bind λbN=>EQ n gC gV gW bN.1 bN.2) ( EQ n gC gV gW aB.1 aB.2)
def OT(gC:(List Stmt)→(List Int)→Int→Option ((List Int)×Int))(gV:Stmt→(List Int)→Int→Option ((List Int)×Int))(gW:Stmt→(List Int)→Int→Option ((List Int)×Int))(s:Stmt)(bZ:List Int)(cb:Int):Option ((List Int)×Int):=(mZ n (⟨s.A.Op,s.A.N,s.A.S,s.A.az⟩:Expr)).bind λae=>(mZ n (⟨s.B.Op,s.B.N,s.B.S,s.B.az⟩:Expr)).bind λan=>(zc n s.Max).bind λaB=>(kY n ([([102,111,114,32]:ajK),s.Name,([32,61,32]:ajK),ae,([32,116,111,32]:ajK),an,([32,109,97,120,32]:ajK),aB,([32,123]:ajK)]:List ajK) bZ cb).bind λaQ=>(gC s.Body aQ cb).bind λbN=>(kY n ([([125]:ajK)]:List ajK) bN.1 bN.2).bind λba=>some (ba,bN.2)
def ml:Nat→((List Stmt)→(List Int)→Int→Option ((List Int)×Int))×(Stmt→(List Int)→Int→Option ((List Int)×Int))×(Stmt→(List Int)→Int→Option ((List Int)×Int))
 | 0=>(λ_ _ _=>none,λ_ _ _=>none,λ_ _ _=>none)
 |m+1=>(OR m ((ml m).1) ((ml m).2.1) ((ml m).2.2),OS m ((ml m).1) ((ml m).2.1) ((ml m).2.2),OT m ((ml m).1) ((ml m).2.1) ((ml m).2.2))
def ER:(List Stmt)→(List Int)→Int→Option ((List Int)×Int):=(ml n).1
def aa7:Stmt→(List Int)→Int→Option ((List Int)×Int):=(ml n).2.1
def aa8:Stmt→(List Int)→Int→Option ((List Int)×Int):=(ml n).2.2
def ES(n:Nat)(bZ:List Int)(cb:Int):Option (ajK×(List Int)):=au (ow bZ&&decide (bZ.length≤9223372036854775807))<|some (jT bZ,bZ)
def OU(p:bj)(cY:List ajK):Option ajK:=(DX n cY ([44,32]:ajK)).bind λd9=>(kY n ([([112,114,111,99,32]:ajK),p.Name,([40]:ajK),d9,([41,32,123]:ajK)]:List ajK) ([]:List Int) 0).bind λeU=>(ER n p.Body eU 0).bind λd'=>(kY n ([([125]:ajK)]:List ajK) d'.1 d'.2).bind λeH=>(ES n eH d'.2).bind λfF=>some fF.1
def OV(p:bj)(ar:Int→(List ajK)→Option ajK)(v10:Int)(v11:List ajK):Option ajK:=cond (decide (v10<((p.Params.length:Nat):Int))) ( au (aP v10 p.Params.length)<|au (b3 (((ajN p.Params v10).Name).length+([58,32]:ajK).length))<|(zb n ((ajN p.Params v10).hT)).bind λer=>au (b3 ((((ajN p.Params v10).Name)++([58,32]:ajK)).length+er.length))<|au (room (v11.length+([((((ajN p.Params v10).Name)++([58,32]:ajK))++er)]:List ajK).length) 16)<|ar (ajM (v10+1)) (v11++([((((ajN p.Params v10).Name)++([58,32]:ajK))++er)]:List ajK))) ( OU n p v11)
def ET(n:Nat)(p:bj):Nat→Int→(List ajK)→Option ajK
 | 0=>λ_ _=>none
 |m+1=>OV n p (ET n p m)
def zg(p:bj):Option ajK:=(EE n p).bind λae=>cond (!decide (ae=0)) ( some ([]:ajK)) ( ET n p n 0 ([]:List ajK))
def EU(n:Nat)(next:Int):ajP:=some (cond (decide ((ajM (next-1))<8)) (ajM (next-1)) 8)
def OW(n:Nat):ajO:=some false
def OX(n:Nat):ajO:=some true
def OY(o:Outcome)(eS:Int→ajO)(v4:Int):ajO:=cond (decide (v4<((o.Out.length:Nat):Int))) ( au (aP v4 o.Out.length)<|(pz n (ajN o.Out v4)).bind λba=>cond (cond (!ba) true (decide ((ajN o.Out v4).Kind=0))) ( some false) ( eS (ajM (v4+1)))) ( OX n)
def EV(n:Nat)(o:Outcome):Nat→Int→ajO
 | 0=>λ_=>none
 |m+1=>OY n o (EV n o m)
def OZ(o:Outcome):ajO:=cond (decide (o.Status=1)) ( cond (cond (!decide (o.Code=0)) true (decide (16<((o.Out.length:Nat):Int)))) ( some false) ( EV n o n 0)) ( cond (decide (o.Status=2)) ( some (cond (cond (decide (0≤o.Code)) (decide (o.Code≤1009)) false) (decide (((o.Out.length:Nat):Int)=0)) false)) ( OW n))
def O0(n:Nat):ajO:=some true
def O1(s:b1)(ar:Int→ajO)(v6:Int):ajO:=cond (decide (v6<((s.c'.length:Nat):Int))) ( au (aP v6 s.c'.length)<|Option.bind (cond (!(!((decide ((ajN s.c' v6).Client=s.Client))&&((decide ((ajN s.c' v6).Seq=(ajM ((ajM (s.Next-((s.c'.length:Nat):Int)))+v6))))&&true)))) (OZ n (⟨((ajN s.c' v6).Outcome).Status,((ajN s.c' v6).Outcome).Code,((ajN s.c' v6).Outcome).Out⟩:Outcome)) (some default)) λcq=>cond (cond (!((decide ((ajN s.c' v6).Client=s.Client))&&((decide ((ajN s.c' v6).Seq=(ajM ((ajM (s.Next-((s.c'.length:Nat):Int)))+v6))))&&true))) true (!cq)) ( some false) ( ar (ajM (v6+1)))) ( O0 n)
def EW(n:Nat)(s:b1):Nat→Int→ajO
 | 0=>λ_=>none
 |m+1=>O1 n s (EW n s m)
def O2(s:b1):ajO:=Option.bind (cond (!(cond (cond (cond (decide (s.Client<1)) true (decide (32<s.Client))) true (decide (s.Next<1))) true (decide (1099511627776<s.Next)))) (EU n s.Next) (some default)) λae=>cond (cond (cond (cond (cond (decide (s.Client<1)) true (decide (32<s.Client))) true (decide (s.Next<1))) true (decide (1099511627776<s.Next))) true (!decide (((s.c'.length:Nat):Int)=ae))) ( some false) ( EW n s n 0)
def O3(n:Nat):ajO:=some true
def O4(l:List b1)(ar:Int→ajO)(v5:Int):ajO:=cond (decide (v5<((l.length:Nat):Int))) ( au (aP v5 l.length)<|(O2 n (ajN l v5)).bind λb4=>au ((!b4)||(!(decide (0<v5))||aP (ajM (v5-1)) l.length))<|cond (cond (!b4) true (cond (decide (0<v5)) (decide ((ajN l v5).Client≤(ajN l (ajM (v5-1))).Client)) false)) ( some false) ( ar (ajM (v5+1)))) ( O3 n)
def EX(n:Nat)(l:List b1):Nat→Int→ajO
 | 0=>λ_=>none
 |m+1=>O4 n l (EX n l m)
def zh(l:List b1):ajO:=EX n l n 0
def iu(s:ajK)(bZ:List Int):Option (Int×(List Int)):=(ze n bZ).bind λae=>au (room (bZ.length+s.length) 1)<|some (((s.length:Nat):Int),(bZ++s.map λb=>(b.toNat:Int)))
def O5(zi:List Int):Option ajK:=(q7 n zi).bind λO6=>some O6.1
def O7(n:Nat)(ar:(List Int)→Int→Option ajK)(l:List b1)(eO:Int)(zj:List Int):Option ajK:=ar zj (ajM (eO+1))
def O8(n:Nat)(dS:(List Int)→Int→Option ajK)(ar:(List Int)→Int→Option ajK)(l:List b1)(eO:Int)(gX:Int)(v109:List Int):Option ajK:=dS v109 (ajM (gX+1))
def O9(dS:(List Int)→Int→Option ajK)(ar:(List Int)→Int→Option ajK)(l:List b1)(eO:Int)(gX:Int)(nV:(List Int)→Int→Option ajK)(vu:List Int)(q9:Int):Option ajK:=cond (decide (q9<(((((((ajN l eO).c').getD (gX).toNat default).Outcome).Out).length:Nat):Int))) ( au (aP q9 (((((ajN l eO).c').getD (gX).toNat default).Outcome).Out).length)<|(y7 n ((((((ajN l eO).c').getD (gX).toNat default).Outcome).Out).getD (q9).toNat default)).bind λpB=>(iu n pB vu).bind λO'=>nV O'.2 (ajM (q9+1))) ( O8 n dS ar l eO gX vu)
def EY(n:Nat)(dS:(List Int)→Int→Option ajK)(ar:(List Int)→Int→Option ajK)(l:List b1)(eO:Int)(gX:Int):Nat→(List Int)→Int→Option ajK
 | 0=>λ_ _=>none
 |m+1=>O9 n dS ar l eO gX (EY n dS ar l eO gX m)
def O_(ar:(List Int)→Int→Option ajK)(l:List b1)(eO:Int)(dS:(List Int)→Int→Option ajK)(vv:List Int)(gX:Int):Option ajK:=cond (decide (gX<((((ajN l eO).c').length:Nat):Int))) ( au (aP gX ((ajN l eO).c').length)<|(hV n (IntKind.u64.wrap (((((ajN l eO).c').getD (gX).toNat default).Outcome).Status))).bind λsZ=>(hV n (IntKind.u64.wrap (((((ajN l eO).c').getD (gX).toNat default).Outcome).Code))).bind λq_=>au (b3 (sZ.length+q_.length))<|(hV n (IntKind.u64.wrap (((((((ajN l eO).c').getD (gX).toNat default).Outcome).Out).length:Nat):Int))).bind λEZ=>au (b3 ((sZ++q_).length+EZ.length))<|(iu n ((sZ++q_)++EZ) vv).bind λzk=>EY n dS ar l eO gX n zk.2 0) ( O7 n ar l eO vv)
def E0(n:Nat)(ar:(List Int)→Int→Option ajK)(l:List b1)(eO:Int):Nat→(List Int)→Int→Option ajK
 | 0=>λ_ _=>none
 |m+1=>O_ n ar l eO (E0 n ar l eO m)
def Pa(l:List b1)(ar:(List Int)→Int→Option ajK)(v59:List Int)(eO:Int):Option ajK:=cond (decide (eO<((l.length:Nat):Int))) ( au (aP eO l.length)<|(hV n (IntKind.u64.wrap ((ajN l eO).Client))).bind λE1=>(hV n (IntKind.u64.wrap ((ajN l eO).Next))).bind λvw=>au (b3 (E1.length+vw.length))<|(iu n (E1++vw) v59).bind λpC=>E0 n ar l eO n pC.2 0) ( O5 n v59)
def E2(n:Nat)(l:List b1):Nat→(List Int)→Int→Option ajK
 | 0=>λ_ _=>none
 |m+1=>Pa n l (E2 n l m)
def Pb(l:List b1):Option ajK:=(zh n l).bind λae=>cond (!ae) ( some ([]:ajK)) ( (hV n (IntKind.u64.wrap ((l.length:Nat):Int))).bind λaB=>(iu n aB ([]:List Int)).bind λaQ=>E2 n l n aQ.2 0)
def Pc(cY:List Int):Option ajK:=(q7 n cY).bind λd9=>some d9.1
def Pd(l:List aI)(ar:(List Int)→Int→Option ajK)(v10:List Int)(v11:Int):Option ajK:=cond (decide (v11<((l.length:Nat):Int))) ( au (aP v11 l.length)<|(mW n ((ajN l v11).Key)).bind λdI=>(iu n dI v10).bind λer=>(y7 n (⟨((ajN l v11).bo).Kind,((ajN l v11).bo).N,((ajN l v11).bo).S⟩:bB)).bind λdJ=>(iu n dJ er.2).bind λdD=>ar dD.2 (ajM (v11+1))) ( Pc n v10)
def E3(n:Nat)(l:List aI):Nat→(List Int)→Int→Option ajK
 | 0=>λ_ _=>none
 |m+1=>Pd n l (E3 n l m)
def Pe(l:List aI):Option ajK:=(hV n (IntKind.u64.wrap ((l.length:Nat):Int))).bind λae=>(iu n ae ([]:List Int)).bind λan=>E3 n l n an.2 0
def Pf(ag:bF)(zl:List Int):Option ajK:=(NU n ag.Queue).bind λvx=>(iu n vx zl).bind λlE=>(hV n ag.b6).bind λnW=>(iu n nW lE.2).bind λzm=>(q7 n zm.2).bind λvy=>some vy.1
def Pg(ag:bF)(eS:(List Int)→Int→Option ajK)(vz:List Int)(v37:Int):Option ajK:=cond (decide (v37<((ag.bc.length:Nat):Int))) ( au (aP v37 ag.bc.length)<|(mW n ((ajN ag.bc v37).Key)).bind λs0=>(iu n s0 vz).bind λra=>(pA n ((ajN ag.bc v37).Count)).bind λkZ=>(iu n kZ ra.2).bind λgf=>eS gf.2 (ajM (v37+1))) ( Pf n ag vz)
def E4(n:Nat)(ag:bF):Nat→(List Int)→Int→Option ajK
 | 0=>λ_ _=>none
 |m+1=>Pg n ag (E4 n ag m)
def Ph(ag:bF)(v22:List Int):Option ajK:=(Pb n ag.bT).bind λeH=>(iu n eH v22).bind λfF=>(NX n ag.Place).bind λe9=>(iu n e9 fF.2).bind λe'=>(hV n (IntKind.u64.wrap ((ag.bc.length:Nat):Int))).bind λdC=>(iu n dC e'.2).bind λmj=>E4 n ag n mj.2 0
def Pi(ag:bF)(dS:(List Int)→Int→Option ajK)(bL:List Int)(bx:Int):Option ajK:=cond (decide (bx<((ag.bI.length:Nat):Int))) ( au (aP bx ag.bI.length)<|(zg n (ajN ag.bI bx)).bind λeI=>(mW n eI).bind λfE=>(iu n fE bL).bind λeC=>dS eC.2 (ajM (bx+1))) ( Ph n ag bL)
def E5(n:Nat)(ag:bF):Nat→(List Int)→Int→Option ajK
 | 0=>λ_ _=>none
 |m+1=>Pi n ag (E5 n ag m)
def E6(ag:bF):Option ajK:=(vr n ag.ao ag.Pos).bind λae=>(pA n ag.Pos).bind λan=>(iu n an ([]:List Int)).bind λaB=>(Pe n ae.1).bind λaQ=>(iu n aQ aB.2).bind λbN=>(hV n (IntKind.u64.wrap ((ag.bI.length:Nat):Int))).bind λba=>(iu n ba bN.2).bind λb4=>E5 n ag n b4.2 0
def E7(n:Nat)(b7:Int):ajP:=some b7
def Pj(n:Nat)(p:aI):ajO:=some (decide (p.bo.Kind=0))
def Pk(n:Nat):ajP:=some (-1)
def Pl(s:List aI)(ar:Int→ajP)(v4:Int):ajP:=cond (decide (v4<((s.length:Nat):Int))) ( au (aP v4 s.length)<|(Pj n (ajN s v4)).bind λba=>cond ba ( some v4) ( ar (ajM (v4+1)))) ( Pk n)
def E8(n:Nat)(s:List aI):Nat→Int→ajP
 | 0=>λ_=>none
 |m+1=>Pl n s (E8 n s m)
def Pm(s:List aI):ajP:=E8 n s n 0
def Pn(s:List aI):ajO:=(Pm n s).bind λae=>some (decide (0≤ae))
def Po(n:Nat):ajO:=some true
def Pp(l:List aI)(ar:Int→ajO)(v6:Int):ajO:=cond (decide (v6<((l.length:Nat):Int))) ( au (aP v6 l.length)<|(q5 n ((ajN l v6).Key)).bind λcq=>Option.bind (cond (!(!cq)) (pz n (⟨((ajN l v6).bo).Kind,((ajN l v6).bo).N,((ajN l v6).bo).S⟩:bB)) (some default)) λcE=>au ((cond (!cq) true (!cE))||(!(decide (0<v6))||aP (ajM (v6-1)) l.length))<|cond (cond (cond (!cq) true (!cE)) true (cond (decide (0<v6)) (!(Op.bytesLess ((ajN l (ajM (v6-1))).Key) ((ajN l v6).Key))) false)) ( some false) ( ar (ajM (v6+1)))) ( Po n)
def E9(n:Nat)(l:List aI):Nat→Int→ajO
 | 0=>λ_=>none
 |m+1=>Pp n l (E9 n l m)
def Pq(l:List aI):ajO:=E9 n l n 0
def E'(l:List aI):ajO:=(Pq n l).bind λae=>Option.bind (cond ae (Pn n l) (some default)) λan=>some (cond ae (!an) false)
def Pr(n:Nat)(dp:Int):Option bB:=some (⟨1,dp,[]⟩:bB)
def E_(n:Nat)(s:ajK)(at_:Int):ajO:=some (cond (decide (at_<0)) true (decide (((s.length:Nat):Int)<at_)))
def Ps(n:Nat):Option (Int×Int×Int):=some (0,0,5)
def Pt(s:ajK)(at_:Int)(ar:Int→Int→Option (Int×Int×Int))(bu:Int)(bp:Int):Option (Int×Int×Int):=cond (decide (bu<10)) ( cond (decide (((s.length:Nat):Int)≤(ajM (at_+bu)))) ( some (0,0,6)) ( au (aP (ajM (at_+bu)) s.length)<|cond (cond (cond (decide (bu=9)) (decide (1<(((s.getD ((ajM (at_+bu))).toNat 0).toNat:Nat):Int))) false) true (cond (decide ((((s.getD ((ajM (at_+bu))).toNat 0).toNat:Nat):Int)=0)) (decide (0<bu)) false)) ( some (0,0,5)) ( au (mw (ajM (7*bu)))<|cond (decide ((((s.getD ((ajM (at_+bu))).toNat 0).toNat:Nat):Int)<128)) ( some ((r3 .u64 bp (r4 .u64 (IntKind.u64.wrap (r2 .u8 (((s.getD ((ajM (at_+bu))).toNat 0).toNat:Nat):Int) 127)) (ajM (7*bu)))),(ajM ((ajM (at_+bu))+1)),0)) ( ar (ajM (bu+1)) (r3 .u64 bp (r4 .u64 (IntKind.u64.wrap (r2 .u8 (((s.getD ((ajM (at_+bu))).toNat 0).toNat:Nat):Int) 127)) (ajM (7*bu)))))))) ( Ps n)
def Fa(n:Nat)(s:ajK)(at_:Int):Nat→Int→Int→Option (Int×Int×Int)
 | 0=>λ_ _=>none
 |m+1=>Pt n s at_ (Fa n s at_ m)
def rb(s:ajK)(at_:Int):Option (Int×Int×Int):=(E_ n s at_).bind λae=>cond ae ( some (0,0,1)) ( Fa n s at_ n 0 0)
def zn(s:ajK)(at_:Int):Option (Int×Int×Int):=(rb n s at_).bind λae=>cond (!decide (ae.2.2=0)) ( some (0,0,ae.2.2)) ( some ((uc .i64 (ajM (r5 .u64 ae.1 1)) (ajM (0-(ajM (r2 .u64 ae.1 1))))),ae.2.1,0))
def nX(s:ajK)(at_:Int)(b7:Int):Option (Int×Int×Int):=(rb n s at_).bind λae=>cond (!decide (ae.2.2=0)) ( some (0,0,ae.2.2)) ( cond (cond (decide (b7<0)) true (decide ((IntKind.u64.wrap b7)<ae.1))) ( some (0,0,2)) ( cond (decide ((IntKind.u64.wrap (ajM (((s.length:Nat):Int)-ae.2.1)))<ae.1)) ( some (0,0,6)) ( some ((ajM ae.1),ae.2.1,0))))
def rc(s:ajK)(at_:Int)(b7:Int):Option (ajK×Int×Int):=(nX n s at_ b7).bind λae=>cond (!decide (ae.2.2=0)) ( some (([]:ajK),0,ae.2.2)) ( au (np ae.2.1 (ajM (ae.2.1+ae.1)) s.length)<|some (((s.take ((ajM (ae.2.1+ae.1))).toNat).drop (ae.2.1).toNat),(ajM (ae.2.1+ae.1)),0))
def Fb(n:Nat)(cE:ajK×Int×Int)(v11:Int):Option (bB×Int×Int):=cond (!decide (v11=0)) ( some ((⟨0,0,[]⟩:bB),0,v11)) ( some ((⟨2,0,cE.1⟩:bB),cE.2.1,0))
def zo(s:ajK)(at_:Int):Option (bB×Int×Int):=(rb n s at_).bind λae=>cond (!decide (ae.2.2=0)) ( some ((⟨0,0,[]⟩:bB),0,ae.2.2)) ( cond (decide (ae.1=0)) ( some ((⟨0,0,[]⟩:bB),ae.2.1,0)) ( cond (decide (ae.1=1)) ( (zn n s ae.2.1).bind λbN=>cond (!decide (bN.2.2=0)) ( some ((⟨0,0,[]⟩:bB),0,bN.2.2)) ( (Pr n bN.1).bind λb4=>some (b4,bN.2.1,0))) ( cond (decide (ae.1=2)) ( (rc n s ae.2.1 64).bind λcE=>Option.bind (cond (decide (cE.2.2=0)) (vm n cE.1) (some default)) λdZ=>cond (cond (decide (cE.2.2=0)) (!dZ) false) ( Fb n cE 5) ( Fb n cE cE.2.2)) ( some ((⟨0,0,[]⟩:bB),0,5)))))
def Pu(cG:Int)(cY:List aI):Option ((List aI)×Int×Int):=(E' n cY).bind λd9=>cond (!d9) ( some (([]:List aI),0,5)) ( some (cY,cG,0))
def Pv(s:ajK)(ae:Int×Int×Int)(ar:Int→Int→(List aI)→Option ((List aI)×Int×Int))(v9:Int)(v10:Int)(v11:List aI):Option ((List aI)×Int×Int):=cond (decide (v10<ae.1)) ( (rc n s v9 24).bind λeV=>cond (!decide (eV.2.2=0)) ( some (([]:List aI),0,eV.2.2)) ( (zo n s eV.2.1).bind λdI=>cond (!decide (dI.2.2=0)) ( some (([]:List aI),0,dI.2.2)) ( au (room (v11.length+([(⟨eV.1,dI.1⟩:aI)]:List aI).length) 48)<|ar dI.2.1 (ajM (v10+1)) (v11++([(⟨eV.1,dI.1⟩:aI)]:List aI))))) ( Pu n v9 v11)
def Fc(n:Nat)(s:ajK)(ae:Int×Int×Int):Nat→Int→Int→(List aI)→Option ((List aI)×Int×Int)
 | 0=>λ_ _ _=>none
 |m+1=>Pv n s ae (Fc n s ae m)
def Pw(s:ajK)(at_:Int):Option ((List aI)×Int×Int):=(nX n s at_ 2147483647).bind λae=>cond (!decide (ae.2.2=0)) ( some (([]:List aI),0,ae.2.2)) ( Fc n s ae n ae.2.1 0 ([]:List aI))
def Px(af:fJ):Option ((List aI)×Int×Int):=cond (!decide (af.e=0)) ( some (([]:List aI),af.at_,af.e)) ( (Pw n af.s af.at_).bind λan=>cond (!decide (an.2.2=0)) ( some (([]:List aI),af.at_,an.2.2)) ( some (an.1,an.2.1,an.2.2)))
def Py(n:Nat)(s:ajK):ajO:=some (decide (((s.length:Nat):Int)≤24))
def Pz(s:ajK)(ar:Int→ajO)(v4:Int):ajO:=cond (decide (v4<((s.length:Nat):Int))) ( au (aP v4 s.length)<|au ((decide ((((s.getD (v4).toNat 0).toNat:Nat):Int)<33))||aP v4 s.length)<|cond (cond (decide ((((s.getD (v4).toNat 0).toNat:Nat):Int)<33)) true (decide (126<(((s.getD (v4).toNat 0).toNat:Nat):Int)))) ( some false) ( ar (ajM (v4+1)))) ( Py n s)
def Fd(n:Nat)(s:ajK):Nat→Int→ajO
 | 0=>λ_=>none
 |m+1=>Pz n s (Fd n s m)
def Fe(s:ajK):ajO:=Fd n s n 0
def PA(n:Nat)(x:Part)(af:Int):ajO:=some (decide (x.Id=af))
def PB(n:Nat)(af:Int):ajP:=some (-1)
def PC(s:List Part)(af:Int)(ar:Int→ajP)(v4:Int):ajP:=cond (decide (v4<((s.length:Nat):Int))) ( au (aP v4 s.length)<|(PA n (ajN s v4) af).bind λba=>cond ba ( some v4) ( ar (ajM (v4+1)))) ( PB n af)
def Ff(n:Nat)(s:List Part)(af:Int):Nat→Int→ajP
 | 0=>λ_=>none
 |m+1=>PC n s af (Ff n s af m)
def PD(s:List Part)(af:Int):ajP:=Ff n s af n 0
def PE(l:List Part)(id:Int):ajP:=(PD n l id).bind λae=>some ae
def Fg(n:Nat)(dp:Int):ajO:=some (cond (decide (1≤dp)) (decide (dp≤16)) false)
def PF(n:Nat)(dp:Int):ajO:=some (cond (decide (1≤dp)) (decide (dp≤1099511627776)) false)
def PG(l:List Part)(i:Int):ajO:=au (aP i l.length)<|cond (decide ((ajN l i).gQ=0)) ( some (decide (((ajN l i).cN)=([]:ajK)))) ( (Fg n ((ajN l i).gQ)).bind λaB=>Option.bind (cond (cond aB (!decide ((ajN l i).gQ=(ajN l i).Node)) false) (Fe n ((ajN l i).cN)) (some default)) λaQ=>au (!(cond (cond (cond aB (!decide ((ajN l i).gQ=(ajN l i).Node)) false) aQ false) (!(Op.bytesLess ((ajN l i).cN) ((ajN l i).dY))) false)||((decide ((ajM (i+1))=((l.length:Nat):Int)))||aP (ajM (i+1)) l.length))<|some (cond (cond (cond (cond aB (!decide ((ajN l i).gQ=(ajN l i).Node)) false) aQ false) (!(Op.bytesLess ((ajN l i).cN) ((ajN l i).dY))) false) (cond (decide ((ajM (i+1))=((l.length:Nat):Int))) true (Op.bytesLess ((ajN l i).cN) ((ajN l (ajM (i+1))).dY))) false))
def PH(n:Nat):ajO:=some true
def PI(p:bX)(ar:Int→ajO)(v12:Int):ajO:=cond (decide (v12<((p.a7.length:Nat):Int))) ( au (aP v12 p.a7.length)<|Option.bind (cond (decide (0<v12)) (Fe n ((ajN p.a7 v12).dY)) (some default)) λer=>au (!(decide (0<v12))||((!er)||aP (ajM (v12-1)) p.a7.length))<|cond (cond (decide (0<v12)) (cond (!er) true ((Op.bytesLess ((ajN p.a7 v12).dY) ((ajN p.a7 (ajM (v12-1))).dY))||(decide (((ajN p.a7 v12).dY)=((ajN p.a7 (ajM (v12-1))).dY))))) false) ( some false) ( (PF n ((ajN p.a7 v12).Id)).bind λdD=>Option.bind (cond (!(!dD)) (Fg n ((ajN p.a7 v12).Node)) (some default)) λeI=>Option.bind (cond (!(cond (!dD) true (!eI))) (PG n p.a7 v12) (some default)) λfE=>au ((cond (cond (!dD) true (!eI)) true (!fE))||gb v12 p.a7.length)<|Option.bind (cond (!(cond (cond (!dD) true (!eI)) true (!fE))) (PE n (p.a7.take (v12).toNat) ((ajN p.a7 v12).Id)) (some default)) λd9=>cond (cond (cond (cond (!dD) true (!eI)) true (!fE)) true (decide (0≤d9))) ( some false) ( ar (ajM (v12+1))))) ( PH n)
def Fh(n:Nat)(p:bX):Nat→Int→ajO
 | 0=>λ_=>none
 |m+1=>PI n p (Fh n p m)
def Fj(p:bX):ajO:=au ((cond (cond (cond (decide (p.Version<0)) true (decide (1099511627776<p.Version))) true (decide (((p.a7.length:Nat):Int)<1))) true (decide (16<((p.a7.length:Nat):Int))))||aP 0 p.a7.length)<|cond (cond (cond (cond (cond (decide (p.Version<0)) true (decide (1099511627776<p.Version))) true (decide (((p.a7.length:Nat):Int)<1))) true (decide (16<((p.a7.length:Nat):Int)))) true (!(decide (((p.a7.getD 0 default).dY)=([]:ajK))))) ( some false) ( Fh n p n 0)
def vA(af:mg):Option (Int×Int×Int):=cond (!decide (af.e=0)) ( some (0,af.at_,af.e)) ( (zn n af.s af.at_).bind λan=>some (an.1,an.2.1,an.2.2))
def Fk(af:mg):Option (ajK×Int×Int):=cond (!decide (af.e=0)) ( some (([]:ajK),af.at_,af.e)) ( (rc n af.s af.at_ 24).bind λan=>some (an.1,an.2.1,an.2.2))
def Fl(n:Nat)(s:ajK)(v28:Int)(ae:Int×Int×Int)(v30:List Part)(kw:Int):Option (bX×Int×Int):=cond (!decide (kw=0)) ( some ((⟨0,[]⟩:bX),0,kw)) ( some ((⟨ae.1,v30⟩:bX),v28,0))
def PJ(s:ajK)(ae:Int×Int×Int)(v28:Int)(ge:Int)(v30:List Part):Option (bX×Int×Int):=Option.bind (cond (decide (ge=0)) (Fj n (⟨ae.1,v30⟩:bX)) (some default)) λfK=>cond (cond (decide (ge=0)) (!fK) false) ( Fl n s v28 ae v30 5) ( Fl n s v28 ae v30 ge)
def PK(aB:Int×Int×Int)(s:ajK)(ae:Int×Int×Int)(eS:Int→Int→(List Part)→Int→Option (bX×Int×Int))(bL:Int)(bx:Int)(di:List Part)(aW:Int):Option (bX×Int×Int):=cond (decide (aW<aB.1)) ( (vA n (⟨s,bL,bx⟩:mg)).bind λfE=>(Fk n (⟨s,fE.2.1,fE.2.2⟩:mg)).bind λeC=>(vA n (⟨s,eC.2.1,eC.2.2⟩:mg)).bind λd9=>(vA n (⟨s,d9.2.1,d9.2.2⟩:mg)).bind λeU=>(Fk n (⟨s,eU.2.1,eU.2.2⟩:mg)).bind λd'=>au (room (di.length+([(⟨fE.1,eC.1,d9.1,eU.1,d'.1⟩:Part)]:List Part).length) 56)<|eS d'.2.1 d'.2.2 (di++([(⟨fE.1,eC.1,d9.1,eU.1,d'.1⟩:Part)]:List Part)) (ajM (aW+1))) ( PJ n s ae bL bx di)
def Fm(n:Nat)(aB:Int×Int×Int)(s:ajK)(ae:Int×Int×Int):Nat→Int→Int→(List Part)→Int→Option (bX×Int×Int)
 | 0=>λ_ _ _ _=>none
 |m+1=>PK n aB s ae (Fm n aB s ae m)
def PL(s:ajK)(at_:Int):Option (bX×Int×Int):=(vA n (⟨s,at_,0⟩:mg)).bind λae=>cond (!decide (ae.2.2=0)) ( some ((⟨0,[]⟩:bX),0,ae.2.2)) ( (nX n s ae.2.1 16).bind λaB=>Fm n aB s ae n aB.2.1 aB.2.2 ([]:List Part) 0)
def PM(af:fJ):Option (bX×Int×Int):=cond (!decide (af.e=0)) ( some ((⟨0,[]⟩:bX),af.at_,af.e)) ( (PL n af.s af.at_).bind λan=>cond (!decide (an.2.2=0)) ( some ((⟨0,[]⟩:bX),af.at_,an.2.2)) ( some (an.1,an.2.1,an.2.2)))
def s2(n:Nat)(next:Int)(e:Int)(af:gA):Option (Int×Int):=some (next,e)
def Fn(b7:Int)(af:gA):Option (Int×Int×Int):=cond (!decide (af.e=0)) ( some (0,af.at_,af.e)) ( (nX n af.s af.at_ b7).bind λan=>(s2 n an.2.1 an.2.2 af).bind λaB=>some (an.1,aB.1,aB.2))
def PN(s:ajK)(at_:Int):Option (Bool×Int×Int):=(E_ n s at_).bind λae=>cond ae ( some (false,0,1)) ( cond (decide (at_=((s.length:Nat):Int))) ( some (false,0,6)) ( au (aP at_ s.length)<|cond (decide (1<(((s.getD (at_).toNat 0).toNat:Nat):Int))) ( some (false,0,5)) ( au (aP at_ s.length)<|some ((decide ((((s.getD (at_).toNat 0).toNat:Nat):Int)=1)),(ajM (at_+1)),0))))
def PO(af:gA):Option (Bool×Int×Int):=cond (!decide (af.e=0)) ( some (false,af.at_,af.e)) ( (PN n af.s af.at_).bind λan=>(s2 n an.2.1 an.2.2 af).bind λaB=>some (an.1,aB.1,aB.2))
def Fo(b7:Int)(af:gA):Option (ajK×Int×Int):=cond (!decide (af.e=0)) ( some (([]:ajK),af.at_,af.e)) ( (rc n af.s af.at_ b7).bind λan=>(s2 n an.2.1 an.2.2 af).bind λaB=>some (an.1,aB.1,aB.2))
def PP(n:Nat)(af:gA)(cG:Int)(cY:Int)(v20:List ajK):Option ((List ajK)×Int×Int):=some (v20,cG,cY)
def PQ(ae:Int×Int×Int)(af:gA)(ar:Int→Int→(List ajK)→Int→Option ((List ajK)×Int×Int))(bp:Int)(v9:Int)(v10:List ajK)(v11:Int):Option ((List ajK)×Int×Int):=cond (decide (v11<ae.1)) ( (Fo n 24 (⟨af.s,bp,v9⟩:gA)).bind λeV=>au (room (v10.length+([eV.1]:List ajK).length) 16)<|ar eV.2.1 eV.2.2 (v10++([eV.1]:List ajK)) (ajM (v11+1))) ( PP n af bp v9 v10)
def Fp(n:Nat)(ae:Int×Int×Int)(af:gA):Nat→Int→Int→(List ajK)→Int→Option ((List ajK)×Int×Int)
 | 0=>λ_ _ _ _=>none
 |m+1=>PQ n ae af (Fp n ae af m)
def Fq(af:gA):Option ((List ajK)×Int×Int):=(Fn n 64 af).bind λae=>Fp n ae af n ae.2.1 ae.2.2 ([]:List ajK) 0
def Fr(af:gA):Option (Int×Int×Int):=cond (!decide (af.e=0)) ( some (0,af.at_,af.e)) ( (rb n af.s af.at_).bind λan=>(s2 n an.2.1 an.2.2 af).bind λaB=>some (an.1,aB.1,aB.2))
def PR(af:gA):Option (bB×Int×Int):=cond (!decide (af.e=0)) ( some ((⟨0,0,[]⟩:bB),af.at_,af.e)) ( (zo n af.s af.at_).bind λan=>(s2 n an.2.1 an.2.2 af).bind λaB=>some (an.1,aB.1,aB.2))
def Fs(ae:Int×Int×Int)(an:Int×Int×Int)(s:ajK)(aB:ajK×Int×Int)(v23:List bB)(fF:Bool×Int×Int)(k0:Int)(v28:Int)(ge:List ajK)(v30:List ajK):Option (Request×Int×Int):=cond (!decide (v28=0)) ( some ((⟨0,0,[],[],false,⟨false,[],[]⟩⟩:Request),0,v28)) ( cond (cond (decide (32<ae.1)) true (decide (1099511627776<an.1))) ( some ((⟨0,0,[],[],false,⟨false,[],[]⟩⟩:Request),0,5)) ( (vn n (⟨(ajM ae.1),(ajM an.1),aB.1,v23,fF.1,⟨false,ge,v30⟩⟩:Request)).bind λmi=>cond (!decide (mi=0)) ( some ((⟨0,0,[],[],false,⟨false,[],[]⟩⟩:Request),0,5)) ( some ((⟨(ajM ae.1),(ajM an.1),aB.1,v23,fF.1,⟨false,ge,v30⟩⟩:Request),k0,0))))
def PS(ae:Int×Int×Int)(an:Int×Int×Int)(s:ajK)(aB:ajK×Int×Int)(v21:Int)(v22:Int)(v23:List bB):Option (Request×Int×Int):=(PO n (⟨s,v21,v22⟩:gA)).bind λfF=>cond fF.1 ( (Fq n (⟨s,fF.2.1,fF.2.2⟩:gA)).bind λe9=>(Fq n (⟨s,e9.2.1,e9.2.2⟩:gA)).bind λe'=>Fs n ae an s aB v23 fF e'.2.1 e'.2.2 e9.1 e'.1) ( Fs n ae an s aB v23 fF fF.2.1 fF.2.2 ([]:List ajK) ([]:List ajK))
def PT(ae:Int×Int×Int)(an:Int×Int×Int)(aQ:Int×Int×Int)(s:ajK)(aB:ajK×Int×Int)(eS:Int→Int→(List bB)→Int→Option (Request×Int×Int))(v11:Int)(v12:Int)(cc:List bB)(bL:Int):Option (Request×Int×Int):=cond (decide (bL<aQ.1)) ( (PR n (⟨s,v11,v12⟩:gA)).bind λdJ=>au (room (cc.length+([dJ.1]:List bB).length) 32)<|eS dJ.2.1 dJ.2.2 (cc++([dJ.1]:List bB)) (ajM (bL+1))) ( PS n ae an s aB v11 v12 cc)
def Ft(n:Nat)(ae:Int×Int×Int)(an:Int×Int×Int)(aQ:Int×Int×Int)(s:ajK)(aB:ajK×Int×Int):Nat→Int→Int→(List bB)→Int→Option (Request×Int×Int)
 | 0=>λ_ _ _ _=>none
 |m+1=>PT n ae an aQ s aB (Ft n ae an aQ s aB m)
def PU(s:ajK)(at_:Int):Option (Request×Int×Int):=(Fr n (⟨s,at_,0⟩:gA)).bind λae=>(Fr n (⟨s,ae.2.1,ae.2.2⟩:gA)).bind λan=>(Fo n 16 (⟨s,an.2.1,an.2.2⟩:gA)).bind λaB=>(Fn n 6 (⟨s,aB.2.1,aB.2.2⟩:gA)).bind λaQ=>Ft n ae an aQ s aB n aQ.2.1 aQ.2.2 ([]:List bB) 0
def PV(n:Nat)(di:List Request)(aW:Int):Option ((List Request)×Int×Int):=some (di,aW,0)
def PW(s:ajK)(ae:Int×Int×Int)(ar:(List Request)→Int→Int→Option ((List Request)×Int×Int))(bp:List Request)(v9:Int)(v10:Int):Option ((List Request)×Int×Int):=cond (decide (v9<ae.1)) ( (PU n s v10).bind λbU=>cond (!decide (bU.2.2=0)) ( some (([]:List Request),0,bU.2.2)) ( au (room (bp.length+([bU.1]:List Request).length) 120)<|ar (bp++([bU.1]:List Request)) (ajM (v9+1)) bU.2.1)) ( PV n bp v10)
def Fu(n:Nat)(s:ajK)(ae:Int×Int×Int):Nat→(List Request)→Int→Int→Option ((List Request)×Int×Int)
 | 0=>λ_ _ _=>none
 |m+1=>PW n s ae (Fu n s ae m)
def PX(s:ajK)(at_:Int):Option ((List Request)×Int×Int):=(nX n s at_ 64).bind λae=>cond (!decide (ae.2.2=0)) ( some (([]:List Request),0,ae.2.2)) ( Fu n s ae n ([]:List Request) 0 ae.2.1)
def PY(af:fJ):Option ((List Request)×Int×Int):=cond (!decide (af.e=0)) ( some (([]:List Request),af.at_,af.e)) ( (PX n af.s af.at_).bind λan=>cond (!decide (an.2.2=0)) ( some (([]:List Request),af.at_,an.2.2)) ( some (an.1,an.2.1,an.2.2)))
def Fv(n:Nat)(an:Int×Int×Int)(af:jc)(v3:Int):Option (Int×Int×Int):=cond (!decide (v3=0)) ( some (0,af.at_,v3)) ( some ((ajM an.1),an.2.1,v3))
def vB(least:Int)(b7:Int)(af:jc):Option (Int×Int×Int):=cond (!decide (af.e=0)) ( some (0,af.at_,af.e)) ( (rb n af.s af.at_).bind λan=>cond (cond (decide (an.2.2=0)) (cond (decide (an.1<least)) true (decide (b7<an.1))) false) ( Fv n an af 5) ( Fv n an af an.2.2))
def PZ(n:Nat)(af:jc)(ae:Int×Int×Int)(an:Int×Int×Int)(v21:Int)(v22:Int)(v23:List bB):Option (Outcome×Int×Int):=some ((⟨ae.1,an.1,v23⟩:Outcome),v21,v22)
def P0(aQ:Int×Int×Int)(af:jc)(ae:Int×Int×Int)(an:Int×Int×Int)(ar:Int→Int→(List bB)→Int→Option (Outcome×Int×Int))(v11:Int)(v12:Int)(cc:List bB)(bL:Int):Option (Outcome×Int×Int):=cond (cond (decide (bL<aQ.1)) (decide (v12=0)) false) ( (zo n af.s v11).bind λdJ=>au (room (cc.length+([dJ.1]:List bB).length) 32)<|ar dJ.2.1 dJ.2.2 (cc++([dJ.1]:List bB)) (ajM (bL+1))) ( PZ n af ae an v11 v12 cc)
def Fw(n:Nat)(aQ:Int×Int×Int)(af:jc)(ae:Int×Int×Int)(an:Int×Int×Int):Nat→Int→Int→(List bB)→Int→Option (Outcome×Int×Int)
 | 0=>λ_ _ _ _=>none
 |m+1=>P0 n aQ af ae an (Fw n aQ af ae an m)
def P1(af:jc):Option (Outcome×Int×Int):=(vB n 0 9999 af).bind λae=>(vB n 0 9999 (⟨af.s,ae.2.1,ae.2.2⟩:jc)).bind λan=>cond (!decide (an.2.2=0)) ( some ((⟨ae.1,an.1,[]⟩:Outcome),an.2.1,an.2.2)) ( (nX n af.s an.2.1 16).bind λaQ=>Fw n aQ af ae an n aQ.2.1 aQ.2.2 ([]:List bB) 0)
def P2(n:Nat)(af:jc)(ae:Int×Int×Int)(an:Int×Int×Int)(v21:Int)(v22:Int)(v23:List eT):Option (b1×Int×Int):=some ((⟨ae.1,an.1,v23⟩:b1),v21,v22)
def P3(aQ:Int)(af:jc)(ae:Int×Int×Int)(an:Int×Int×Int)(ar:Int→Int→(List eT)→Int→Option (b1×Int×Int))(v11:Int)(v12:Int)(cc:List eT)(bL:Int):Option (b1×Int×Int):=cond (cond (decide (bL<aQ)) (decide (v12=0)) false) ( (P1 n (⟨af.s,v11,v12⟩:jc)).bind λdJ=>au (room (cc.length+([(⟨ae.1,(ajM (an.1-(ajM (aQ-bL)))),dJ.1⟩:eT)]:List eT).length) 56)<|ar dJ.2.1 dJ.2.2 (cc++([(⟨ae.1,(ajM (an.1-(ajM (aQ-bL)))),dJ.1⟩:eT)]:List eT)) (ajM (bL+1))) ( P2 n af ae an v11 v12 cc)
def Fx(n:Nat)(aQ:Int)(af:jc)(ae:Int×Int×Int)(an:Int×Int×Int):Nat→Int→Int→(List eT)→Int→Option (b1×Int×Int)
 | 0=>λ_ _ _ _=>none
 |m+1=>P3 n aQ af ae an (Fx n aQ af ae an m)
def P4(af:jc):Option (b1×Int×Int):=(vB n 1 32 af).bind λae=>(vB n 1 1099511627776 (⟨af.s,ae.2.1,ae.2.2⟩:jc)).bind λan=>cond (!decide (an.2.2=0)) ( some ((⟨ae.1,an.1,[]⟩:b1),an.2.1,an.2.2)) ( (EU n an.1).bind λaQ=>Fx n aQ af ae an n an.2.1 an.2.2 ([]:List eT) 0)
def P5(s:ajK)(cY:Int)(v20:Int)(v21:List b1):Option ((List b1)×Int×Int):=cond (!decide (v20=0)) ( some (([]:List b1),0,v20)) ( (zh n v21).bind λeH=>cond (!eH) ( some (([]:List b1),0,5)) ( some (v21,cY,0)))
def P6(ae:Int×Int×Int)(s:ajK)(ar:Int→Int→(List b1)→Int→Option ((List b1)×Int×Int))(v9:Int)(v10:Int)(v11:List b1)(v12:Int):Option ((List b1)×Int×Int):=cond (cond (decide (v12<ae.1)) (decide (v10=0)) false) ( (P4 n (⟨s,v9,v10⟩:jc)).bind λdI=>au (room (v11.length+([dI.1]:List b1).length) 40)<|ar dI.2.1 dI.2.2 (v11++([dI.1]:List b1)) (ajM (v12+1))) ( P5 n s v9 v10 v11)
def Fy(n:Nat)(ae:Int×Int×Int)(s:ajK):Nat→Int→Int→(List b1)→Int→Option ((List b1)×Int×Int)
 | 0=>λ_ _ _ _=>none
 |m+1=>P6 n ae s (Fy n ae s m)
def P7(s:ajK)(at_:Int):Option ((List b1)×Int×Int):=(nX n s at_ 32).bind λae=>cond (!decide (ae.2.2=0)) ( some (([]:List b1),0,ae.2.2)) ( Fy n ae s n ae.2.1 0 ([]:List b1) 0)
def P8(af:fJ):Option ((List b1)×Int×Int):=cond (!decide (af.e=0)) ( some (([]:List b1),af.at_,af.e)) ( (P7 n af.s af.at_).bind λan=>cond (!decide (an.2.2=0)) ( some (([]:List b1),af.at_,an.2.2)) ( some (an.1,an.2.1,an.2.2)))
def P9(s:ajK)(at_:Int)(a2:Int):Option (Int×Int×Int):=(nX n s at_ a2).bind λae=>some (ae.1,ae.2.1,ae.2.2)
def Fz(p:Int)(af:fJ):Option (Int×Int×Int):=cond (!decide (af.e=0)) ( some (0,af.at_,af.e)) ( (P9 n af.s af.at_ p).bind λan=>cond (!decide (an.2.2=0)) ( some (0,af.at_,an.2.2)) ( some (an.1,an.2.1,an.2.2)))
def FA(af:fJ):Option (Int×Int×Int):=cond (!decide (af.e=0)) ( some (0,af.at_,af.e)) ( (zn n af.s af.at_).bind λan=>cond (!decide (an.2.2=0)) ( some (0,af.at_,an.2.2)) ( some (an.1,an.2.1,an.2.2)))
def P'(s:ajK)(at_:Int)(a2:Int):Option (ajK×Int×Int):=(rc n s at_ a2).bind λae=>some (ae.1,ae.2.1,ae.2.2)
def FB(p:Int)(af:fJ):Option (ajK×Int×Int):=cond (!decide (af.e=0)) ( some (([]:ajK),af.at_,af.e)) ( (P' n af.s af.at_ p).bind λan=>cond (!decide (an.2.2=0)) ( some (([]:ajK),af.at_,an.2.2)) ( some (an.1,an.2.1,an.2.2)))
def P_(af:fJ):Option (Int×Int×Int):=cond (!decide (af.e=0)) ( some (0,af.at_,af.e)) ( (rb n af.s af.at_).bind λan=>cond (!decide (an.2.2=0)) ( some (0,af.at_,an.2.2)) ( some (an.1,an.2.1,an.2.2)))
def FC(n:Nat)(b7:Int):ajP:=some b7
def Qa(af:fJ)(ae:Int×Int×Int)(e':(List b1)×Int×Int)(dC:bX×Int×Int)(an:(List aI)×Int×Int)(v25:List ajK)(zp:Int)(v51:Int)(zq:List bc):Option (mf×Int×Int):=(PY n (⟨af.s,zp,v51⟩:fJ)).bind λs3=>(P_ n (⟨af.s,s3.2.1,s3.2.2⟩:fJ)).bind λjd=>some ((⟨⟨ae.1,⟨0,0,[]⟩,[],e'.1,dC.1,zq,s3.1,jd.1⟩,an.1,v25⟩:mf),jd.2.1,jd.2.2)
def Qb(af:fJ)(ae:Int×Int×Int)(e':(List b1)×Int×Int)(dC:bX×Int×Int)(an:(List aI)×Int×Int)(v25:List ajK)(eS:Int→Int→(List bc)→Int→Option (mf×Int×Int))(gY:Int)(jU:Int)(v40:List bc)(iv:Int):Option (mf×Int×Int):=cond (cond (decide (0<iv)) (decide (jU=0)) false) ( (FC n 24).bind λgf=>(FB n gf (⟨af.s,gY,jU⟩:fJ)).bind λlF=>(FA n (⟨af.s,lF.2.1,lF.2.2⟩:fJ)).bind λfU=>au (room (v40.length+([(⟨lF.1,fU.1⟩:bc)]:List bc).length) 24)<|eS fU.2.1 fU.2.2 (v40++([(⟨lF.1,fU.1⟩:bc)]:List bc)) (ajM (iv-1))) ( Qa n af ae e' dC an v25 gY jU v40)
def FD(n:Nat)(af:fJ)(ae:Int×Int×Int)(e':(List b1)×Int×Int)(dC:bX×Int×Int)(an:(List aI)×Int×Int)(v25:List ajK):Nat→Int→Int→(List bc)→Int→Option (mf×Int×Int)
 | 0=>λ_ _ _ _=>none
 |m+1=>Qb n af ae e' dC an v25 (FD n af ae e' dC an v25 m)
def Qc(af:fJ)(ae:Int×Int×Int)(an:(List aI)×Int×Int)(v23:Int)(v24:Int)(v25:List ajK):Option (mf×Int×Int):=(P8 n (⟨af.s,v23,v24⟩:fJ)).bind λe'=>(PM n (⟨af.s,e'.2.1,e'.2.2⟩:fJ)).bind λdC=>(E7 n 32).bind λmj=>(Fz n mj (⟨af.s,dC.2.1,dC.2.2⟩:fJ)).bind λfa=>FD n af ae e' dC an v25 n fa.2.1 fa.2.2 ([]:List bc) fa.1
def Qd(af:fJ)(ae:Int×Int×Int)(an:(List aI)×Int×Int)(dS:Int→Int→(List ajK)→Int→Option (mf×Int×Int))(v12:Int)(cc:Int)(bL:List ajK)(bx:Int):Option (mf×Int×Int):=cond (cond (decide (0<bx)) (decide (cc=0)) false) ( (FC n 16384).bind λdD=>(FB n dD (⟨af.s,v12,cc⟩:fJ)).bind λeI=>au (room (bL.length+([eI.1]:List ajK).length) 16)<|dS eI.2.1 eI.2.2 (bL++([eI.1]:List ajK)) (ajM (bx-1))) ( Qc n af ae an v12 cc bL)
def FE(n:Nat)(af:fJ)(ae:Int×Int×Int)(an:(List aI)×Int×Int):Nat→Int→Int→(List ajK)→Int→Option (mf×Int×Int)
 | 0=>λ_ _ _ _=>none
 |m+1=>Qd n af ae an (FE n af ae an m)
def Qe(af:fJ):Option (mf×Int×Int):=(FA n af).bind λae=>(Px n (⟨af.s,ae.2.1,ae.2.2⟩:fJ)).bind λan=>(E7 n 16).bind λaB=>(Fz n aB (⟨af.s,an.2.1,an.2.2⟩:fJ)).bind λaQ=>FE n af ae an n aQ.2.1 aQ.2.2 ([]:List ajK) aQ.1
def FF(n:Nat):Option (ajK×Int×Int):=some (([]:ajK),0,6)
def Qf(n:Nat)(ar:(List Int)→Int→Option (ajK×Int×Int))(s:ajK)(cY:List Int)(v20:Int):Option (ajK×Int×Int):=ar cY (ajM (v20+1))
def FG(ar:(List Int)→Int→Option (ajK×Int×Int))(s:ajK)(v11:List Int)(di:Int)(aW:Int):Option (ajK×Int×Int):=cond (cond (decide (aW<32)) true (decide (126<aW))) ( some (([]:ajK),0,5)) ( cond (decide (((v11.length:Nat):Int)=64)) ( some (([]:ajK),0,2)) ( au (room (v11.length+([aW]:List Int).length) 1)<|Qf n ar s (v11++([aW]:List Int)) di))
def Qg(s:ajK)(ar:(List Int)→Int→Option (ajK×Int×Int))(v11:List Int)(v12:Int):Option (ajK×Int×Int):=cond (decide (v12<((s.length:Nat):Int))) ( au (aP v12 s.length)<|cond (decide ((((s.getD (v12).toNat 0).toNat:Nat):Int)=34)) ( au (ow v11)<|some ((jT v11),(ajM (v12+1)),0)) ( cond (decide ((((s.getD (v12).toNat 0).toNat:Nat):Int)=92)) ( cond (decide ((ajM (v12+1))=((s.length:Nat):Int))) ( FF n) ( au (aP (ajM (v12+1)) s.length)<|cond (cond (!decide ((((s.getD ((ajM (v12+1))).toNat 0).toNat:Nat):Int)=34)) (!decide ((((s.getD ((ajM (v12+1))).toNat 0).toNat:Nat):Int)=92)) false) ( some (([]:ajK),0,5)) ( FG n ar s v11 (ajM (v12+1)) (((s.getD ((ajM (v12+1))).toNat 0).toNat:Nat):Int)))) ( FG n ar s v11 v12 (((s.getD (v12).toNat 0).toNat:Nat):Int)))) ( FF n)
def FH(n:Nat)(s:ajK):Nat→(List Int)→Int→Option (ajK×Int×Int)
 | 0=>λ_ _=>none
 |m+1=>Qg n s (FH n s m)
def Qh(s:ajK):Option (ajK×Int×Int):=FH n s n ([]:List Int) 1
def Qi(s:ajK)(c:Int):ajP:=(DU n s c).bind λae=>some ae
def FI(s:ajK):Option ajK:=au (!(!(decide (s=([]:ajK))))||aP 0 s.length)<|Option.bind (cond (!(decide (s=([]:ajK)))) (Qi n ([40,41,123,125,44,59,58,61,60,62,43,45,42,47,37]:ajK) (((s.getD 0 0).toNat:Nat):Int)) (some default)) λbN=>cond (cond (!(decide (s=([]:ajK)))) (decide (0≤bN)) false) ( au (gb 1 s.length)<|some (s.take 1)) ( some ([]:ajK))
def s4(s:ajK)(v2:Bool):Option ajK:=cond v2 ( au (gb 2 s.length)<|some (s.take 2)) ( FI n s)
def Qj(s:ajK):Option ajK:=cond (decide (2≤((s.length:Nat):Int))) ( au (gb 2 s.length)<|cond (decide ((s.take 2)=([61,61]:ajK))) ( s4 n s (decide ((s.take 2)=([61,61]:ajK)))) ( cond (decide ((s.take 2)=([33,61]:ajK))) ( s4 n s (decide ((s.take 2)=([33,61]:ajK)))) ( cond (decide ((s.take 2)=([60,61]:ajK))) ( s4 n s (decide ((s.take 2)=([60,61]:ajK)))) ( cond (decide ((s.take 2)=([62,61]:ajK))) ( s4 n s (decide ((s.take 2)=([62,61]:ajK)))) ( s4 n s (decide ((s.take 2)=([43,43]:ajK)))))))) ( FI n s)
def FJ(s:ajK)(v3:ajK)(v4:Bool)(v10:Int):Option (Int×Int):=au ((cond (decide (v10=0)) true (decide (v10<((v3.length:Nat):Int))))||aP 0 v3.length)<|cond (cond (cond (decide (v10=0)) true (decide (v10<((v3.length:Nat):Int)))) true (cond (decide ((((v3.getD 0 0).toNat:Nat):Int)=48)) (cond (decide (1<v10)) true v4) false)) ( some (0,5)) ( (DV n s 10 64).bind λdI=>ja.on dI (λQk=>cond (!true) ( some (0,3)) ( some (Qk,0))) (λQl=>cond (!false) ( some (0,3)) ( some (Ql,0))))
def Qm(s:ajK)(v3:ajK)(v4:Bool)(eS:Int→Option (Int×Int))(bu:Int):Option (Int×Int):=cond (decide (bu<((v3.length:Nat):Int))) ( au (aP bu v3.length)<|cond (cond (decide (48≤(((v3.getD (bu).toNat 0).toNat:Nat):Int))) (decide ((((v3.getD (bu).toNat 0).toNat:Nat):Int)≤57)) false) ( eS (ajM (bu+1))) ( FJ n s v3 v4 bu)) ( FJ n s v3 v4 bu)
def FK(n:Nat)(s:ajK)(v3:ajK)(v4:Bool):Nat→Int→Option (Int×Int)
 | 0=>λ_=>none
 |m+1=>Qm n s v3 v4 (FK n s v3 v4 m)
def FL(s:ajK)(v3:ajK)(v4:Bool):Option (Int×Int):=FK n s v3 v4 n 0
def Qn(s:ajK):Option (Int×Int):=au (!(decide (0<((s.length:Nat):Int)))||aP 0 s.length)<|cond (cond (decide (0<((s.length:Nat):Int))) (decide ((((s.getD 0 0).toNat:Nat):Int)=45)) false) ( au (gb 1 s.length)<|FL n s (s.drop 1) true) ( FL n s s false)
def Qo(w:ajK):Option (Token×Int):=au (aP 0 w.length)<|cond (decide ((((w.getD 0 0).toNat:Nat):Int)=95)) ( some ((⟨0,[],0,0⟩:Token),5)) ( au (aP 0 w.length)<|(D5 n (IntKind.i32.wrap (((w.getD 0 0).toNat:Nat):Int))).bind λaQ=>cond aQ ( (D4 n w).bind λba=>cond ba ( some ((⟨2,w,0,0⟩:Token),0)) ( (q6 n w).bind λcq=>cond (!cq) ( some ((⟨0,[],0,0⟩:Token),2)) ( some ((⟨1,w,0,0⟩:Token),0)))) ( (Qn n w).bind λdZ=>cond (!decide (dZ.2=0)) ( some ((⟨0,[],0,0⟩:Token),dZ.2)) ( some ((⟨3,[],dZ.1,0⟩:Token),0))))
def Qp(s:ajK):Option (Token×Int×Int):=(y2 n s).bind λae=>cond (decide (0<ae)) ( au (gb ae s.length)<|(Qo n (s.take (ae).toNat)).bind λaQ=>some (aQ.1,ae,aQ.2)) ( au (aP 0 s.length)<|cond (decide ((((s.getD 0 0).toNat:Nat):Int)=34)) ( (Qh n s).bind λb4=>some ((⟨4,b4.1,0,0⟩:Token),b4.2.1,b4.2.2)) ( (Qj n s).bind λcq=>cond (decide (cq=([]:ajK))) ( some ((⟨0,[],0,0⟩:Token),0,5)) ( some ((⟨5,cq,0,0⟩:Token),((cq.length:Nat):Int),0))))
def zr(s:ajK):Option ajK:=(y1 n s).bind λae=>some ae
def Qq(n:Nat)(zt:List Token):Option ((List Token)×Int×Int):=some (zt,0,0)
def Qr(ar:(List Token)→Int→Int→Option ((List Token)×Int×Int))(src:ajK)(aW:List Token)(cG:Int)(cY:Int):Option ((List Token)×Int×Int):=au (gb cY src.length)<|(Qp n (src.drop (cY).toNat)).bind λfa=>cond (!decide (fa.2.2=0)) ( some (([]:List Token),cG,fa.2.2)) ( (zr n fa.1.Text).bind λhz=>au (room (aW.length+([(⟨fa.1.Kind,hz,fa.1.N,cG⟩:Token)]:List Token).length) 40)<|ar (aW++([(⟨fa.1.Kind,hz,fa.1.N,cG⟩:Token)]:List Token)) cG (ajM (cY+fa.2.1)))
def Qs(n:Nat)(ar:(List Token)→Int→Int→Option ((List Token)×Int×Int))(src:ajK)(aW:List Token)(cG:Int)(k0:Int):Option ((List Token)×Int×Int):=ar aW cG k0
def Qt(ar:(List Token)→Int→Int→Option ((List Token)×Int×Int))(src:ajK)(aW:List Token)(cG:Int)(nV:Int→Option ((List Token)×Int×Int))(v24:Int):Option ((List Token)×Int×Int):=au (!(decide (v24<((src.length:Nat):Int)))||aP v24 src.length)<|cond (cond (decide (v24<((src.length:Nat):Int))) (!decide ((((src.getD (v24).toNat 0).toNat:Nat):Int)=10)) false) ( nV (ajM (v24+1))) ( Qs n ar src aW cG v24)
def FM(n:Nat)(ar:(List Token)→Int→Int→Option ((List Token)×Int×Int))(src:ajK)(aW:List Token)(cG:Int):Nat→Int→Option ((List Token)×Int×Int)
 | 0=>λ_=>none
 |m+1=>Qt n ar src aW cG (FM n ar src aW cG m)
def FN(ar:(List Token)→Int→Int→Option ((List Token)×Int×Int))(src:ajK)(aW:List Token)(cG:Int)(cY:Int)(v21:Bool):Option ((List Token)×Int×Int):=cond v21 ( ar aW cG (ajM (cY+1))) ( cond (decide ((((src.getD (cY).toNat 0).toNat:Nat):Int)=35)) ( FM n ar src aW cG n cY) ( Qr n ar src aW cG cY))
def Qu(src:ajK)(ar:(List Token)→Int→Int→Option ((List Token)×Int×Int))(aW:List Token)(cG:Int)(cY:Int):Option ((List Token)×Int×Int):=cond (decide (cY<((src.length:Nat):Int))) ( au (aP cY src.length)<|cond (decide ((((src.getD (cY).toNat 0).toNat:Nat):Int)=10)) ( ar aW (ajM (cG+1)) (ajM (cY+1))) ( cond (decide ((((src.getD (cY).toNat 0).toNat:Nat):Int)=32)) ( FN n ar src aW cG cY (decide ((((src.getD (cY).toNat 0).toNat:Nat):Int)=32))) ( FN n ar src aW cG cY (decide ((((src.getD (cY).toNat 0).toNat:Nat):Int)=9))))) ( Qq n aW)
def FO(n:Nat)(src:ajK):Nat→(List Token)→Int→Int→Option ((List Token)×Int×Int)
 | 0=>λ_ _ _=>none
 |m+1=>Qu n src (FO n src m)
def Qv(src:ajK):Option ((List Token)×Int×Int):=cond (decide (16384<((src.length:Nat):Int))) ( some (([]:List Token),0,2)) ( FO n src n ([]:List Token) 1 0)
def pD(n:Nat)(text:ajK)(af:a1):ajO:=cond (decide (((af.tokens.length:Nat):Int)≤af.at_)) ( some false) ( au (aP af.at_ af.tokens.length)<|some (cond (cond (decide ((ajN af.tokens (af.at_)).Kind=2)) true (decide ((ajN af.tokens (af.at_)).Kind=5))) (decide (((ajN af.tokens (af.at_)).Text)=text)) false))
def jA(text:ajK)(af:a1):Option (Bool×Int):=(pD n text af).bind λae=>cond (!ae) ( some (false,af.at_)) ( some (true,(ajM (af.at_+1))))
def FP(n:Nat)(af:a1):Option (aO Unit Unit):=au (aP (ajM (((af.tokens.length:Nat):Int)-1)) af.tokens.length)<|some (.be (.iface 379 (.agg [.int .i64 ((ajN af.tokens (ajM (((af.tokens.length:Nat):Int)-1))).kv),.int .i64 6])) ())
def FQ(af:a1):Option (aO Unit Unit):=cond (decide (((af.tokens.length:Nat):Int)=0)) ( some (.be (.iface 379 (.agg [.int .i64 1,.int .i64 6])) ())) ( FP n af)
def oG(code:Int)(af:a1):Option (aO Unit Unit):=cond (decide (af.at_<((af.tokens.length:Nat):Int))) ( au (aP af.at_ af.tokens.length)<|some (.be (.iface 379 (.agg [.int .i64 ((ajN af.tokens (af.at_)).kv),.int .i64 code])) ())) ( FQ n af)
def je(text:ajK)(af:a1):Option (aO Unit Int):=(jA n text af).bind λae=>cond (!ae.1) ( (oG n 5 (⟨af.tokens,ae.2⟩:a1)).bind λaB=>aO.on aB (λaQ bN=>some (.ret () ae.2)) (λm3 bN=>some (.be m3 ae.2))) ( some (.ret () ae.2))
def re(s:Stmt)(af:a1):Option (aO Stmt Int):=(je n ([59]:ajK) af).bind λae=>aO.on ae (λan aB=>some (.ret (⟨s.Op,s.Name,s.Max,⟨s.A.Op,s.A.N,s.A.S,s.A.az⟩,⟨s.B.Op,s.B.N,s.B.S,s.B.az⟩,s.Body,s.c7⟩:Stmt) aB)) (λfo aB=>some (.be fo aB))
def zu(n:Nat)(af:a1):Option (Int×Int):=cond (decide (((af.tokens.length:Nat):Int)≤af.at_)) ( some (0,0)) ( au (aP af.at_ af.tokens.length)<|cond (cond (!decide ((ajN af.tokens (af.at_)).Kind=2)) (!decide ((ajN af.tokens (af.at_)).Kind=5)) false) ( some (0,0)) ( cond (decide (((ajN af.tokens (af.at_)).Text)=([111,114]:ajK))) ( some (1,17)) ( cond (decide (((ajN af.tokens (af.at_)).Text)=([97,110,100]:ajK))) ( some (2,16)) ( cond (decide (((ajN af.tokens (af.at_)).Text)=([61,61]:ajK))) ( some (4,10)) ( cond (decide (((ajN af.tokens (af.at_)).Text)=([33,61]:ajK))) ( some (4,11)) ( cond (decide (((ajN af.tokens (af.at_)).Text)=([60]:ajK))) ( some (4,12)) ( cond (decide (((ajN af.tokens (af.at_)).Text)=([60,61]:ajK))) ( some (4,13)) ( cond (decide (((ajN af.tokens (af.at_)).Text)=([62]:ajK))) ( some (4,14)) ( cond (decide (((ajN af.tokens (af.at_)).Text)=([62,61]:ajK))) ( some (4,15)) ( cond (decide (((ajN af.tokens (af.at_)).Text)=([43,43]:ajK))) ( some (5,19)) ( cond (decide (((ajN af.tokens (af.at_)).Text)=([43]:ajK))) ( some (6,4)) ( cond (decide (((ajN af.tokens (af.at_)).Text)=([45]:ajK))) ( some (6,5)) ( cond (decide (((ajN af.tokens (af.at_)).Text)=([42]:ajK))) ( some (7,6)) ( cond (decide (((ajN af.tokens (af.at_)).Text)=([47]:ajK))) ( some (7,7)) ( cond (decide (((ajN af.tokens (af.at_)).Text)=([37]:ajK))) ( some (7,8)) ( some (0,0)))))))))))))))))
def zv(n:Nat)(depth:Int)(af:a1):Option (aO Int Unit):=some (.ret (ajM (depth+1)) ())
def s5(depth:Int)(af:a1):Option (aO Int Unit):=cond (decide (24≤depth)) ( (oG n 2 af).bind λae=>aO.on ae (λan aB=>zv n depth af) (λfo aB=>some (.be fo ()))) ( zv n depth af)
def zw(n:Nat)(af:a1):ajP:=au ((decide (((af.tokens.length:Nat):Int)≤af.at_))||aP af.at_ af.tokens.length)<|cond (cond (decide (((af.tokens.length:Nat):Int)≤af.at_)) true (!decide ((ajN af.tokens (af.at_)).Kind=2))) ( some 0) ( au (aP af.at_ af.tokens.length)<|cond (decide (((ajN af.tokens (af.at_)).Text)=([116,101,120,116]:ajK))) ( some 20) ( cond (decide (((ajN af.tokens (af.at_)).Text)=([108,101,110]:ajK))) ( some 21) ( cond (decide (((ajN af.tokens (af.at_)).Text)=([103,101,116,105,110,116]:ajK))) ( some 22) ( cond (decide (((ajN af.tokens (af.at_)).Text)=([103,101,116,115,116,114]:ajK))) ( some 23) ( cond (decide (((ajN af.tokens (af.at_)).Text)=([104,97,115]:ajK))) ( some 24) ( cond (decide (((ajN af.tokens (af.at_)).Text)=([110,111,119]:ajK))) ( some 25) ( cond (decide (((ajN af.tokens (af.at_)).Text)=([114,97,110,100,111,109]:ajK))) ( some 26) ( cond (decide (((ajN af.tokens (af.at_)).Text)=([110,111,100,101]:ajK))) ( some 27) ( some 0)))))))))
def FR(fb:Int→Int→a1→Option (aO Expr Int))(fr:Int→Int→Int→a1→Option (aO Expr Int))(fw:Int→a1→Option (aO Expr Int))(fs:Int→a1→Option (aO Expr Int))(level:Int)(depth:Int)(af:a1)(c6:Int→Int→Int→ajK→(List Expr)→Option (aO Expr Int))(v37:Int)(gY:Int)(jU:Int)(v40:ajK)(iv:List Expr):Option (aO Expr Int):=(zu n (⟨af.tokens,v37⟩:a1)).bind λgf=>cond (!decide (gf.1=level)) ( some (.ret (⟨gY,jU,v40,iv⟩:Expr) v37)) ( (fb (ajM (level+1)) depth (⟨af.tokens,(ajM (v37+1))⟩:a1)).bind λlF=>aO.on lF (λfU hL=>cond (decide (level=4)) ( some (.ret (⟨gf.2,0,[],[⟨gY,jU,v40,iv⟩,fU]⟩:Expr) hL)) ( c6 hL gf.2 0 ([]:ajK) ([(⟨gY,jU,v40,iv⟩:Expr),fU]:List Expr))) (λrf hL=>some (.be rf hL)))
def zx(n:Nat)(fb:Int→Int→a1→Option (aO Expr Int))(fr:Int→Int→Int→a1→Option (aO Expr Int))(fw:Int→a1→Option (aO Expr Int))(fs:Int→a1→Option (aO Expr Int))(level:Int)(depth:Int)(af:a1):Nat→Int→Int→Int→ajK→(List Expr)→Option (aO Expr Int)
 | 0=>λ_ _ _ _ _=>none
 |m+1=>FR n fb fr fw fs level depth af (zx n fb fr fw fs level depth af m)
def vC(fb:Int→Int→a1→Option (aO Expr Int))(fr:Int→Int→Int→a1→Option (aO Expr Int))(fw:Int→a1→Option (aO Expr Int))(fs:Int→a1→Option (aO Expr Int))(level:Int)(depth:Int)(af:a1):Option (aO Expr Int):=cond (decide (level=3)) ( (pD n ([110,111,116]:ajK) af).bind λan=>cond an ( (fr 18 level depth af).bind λaQ=>aO.on aQ (λbN ba=>some (.ret bN ba)) (λvD ba=>some (.be vD ba))) ( (fb 4 depth af).bind λcq=>aO.on cq (λcE dZ=>some (.ret cE dZ)) (λFSb dZ=>some (.be FSb dZ)))) ( cond (decide (level=8)) ( (pD n ([45]:ajK) af).bind λdI=>cond dI ( (fr 9 level depth af).bind λdJ=>aO.on dJ (λdD eI=>some (.ret dD eI)) (λrh eI=>some (.be rh eI))) ( (fw depth af).bind λeC=>aO.on eC (λd9 eU=>some (.ret d9 eU)) (λFT eU=>some (.be FT eU)))) ( (fb (ajM (level+1)) depth af).bind λeH=>aO.on eH (λfF e9=>zx n fb fr fw fs level depth af n e9 fF.Op fF.N fF.S fF.az) (λFU e9=>some (.be FU e9))))
def Qw(fb:Int→Int→a1→Option (aO Expr Int))(fr:Int→Int→Int→a1→Option (aO Expr Int))(fw:Int→a1→Option (aO Expr Int))(fs:Int→a1→Option (aO Expr Int))(op:Int)(level:Int)(depth:Int)(af:a1):Option (aO Expr Int):=(s5 n depth af).bind λae=>aO.on ae (λan aB=>(fb level an (⟨af.tokens,(ajM (af.at_+1))⟩:a1)).bind λbN=>aO.on bN (λba b4=>some (.ret (⟨op,0,[],[ba]⟩:Expr) b4)) (λhX b4=>some (.be hX b4))) (λfo aB=>some (.be fo af.at_))
def FV(fb:Int→Int→a1→Option (aO Expr Int))(fr:Int→Int→Int→a1→Option (aO Expr Int))(fw:Int→a1→Option (aO Expr Int))(fs:Int→a1→Option (aO Expr Int))(depth:Int)(aB:Int)(af:a1)(v2:Int):Option (aO Expr Int):=(s5 n depth (⟨af.tokens,v2⟩:a1)).bind λe'=>aO.on e' (λdC mj=>(fs dC (⟨af.tokens,(ajM (v2+1))⟩:a1)).bind λhz=>aO.on hz (λfK k1=>some (.ret (⟨aB,0,[],[fK]⟩:Expr) k1)) (λri k1=>some (.be ri k1))) (λFW mj=>some (.be FW v2))
def FX(fb:Int→Int→a1→Option (aO Expr Int))(fr:Int→Int→Int→a1→Option (aO Expr Int))(fw:Int→a1→Option (aO Expr Int))(fs:Int→a1→Option (aO Expr Int))(depth:Int)(af:a1)(v2:Int):Option (aO Expr Int):=(s5 n depth (⟨af.tokens,v2⟩:a1)).bind λcE=>aO.on cE (λdZ bU=>(fs dZ (⟨af.tokens,v2⟩:a1)).bind λdI=>aO.on dI (λer dJ=>some (.ret er dJ)) (λrj dJ=>some (.be rj dJ))) (λkx bU=>some (.be kx v2))
def vE(fb:Int→Int→a1→Option (aO Expr Int))(fr:Int→Int→Int→a1→Option (aO Expr Int))(fw:Int→a1→Option (aO Expr Int))(fs:Int→a1→Option (aO Expr Int))(depth:Int)(aB:Int)(af:a1)(v2:Int)(aW:Bool):Option (aO Expr Int):=cond aW ( (je n ([40]:ajK) (⟨af.tokens,(ajM (v2+1))⟩:a1)).bind λfE=>aO.on fE (λeC d9=>(je n ([41]:ajK) (⟨af.tokens,d9⟩:a1)).bind λd'=>aO.on d' (λeH fF=>some (.ret (⟨aB,0,[],[]⟩:Expr) fF)) (λFY fF=>some (.be FY fF))) (λFZ d9=>some (.be FZ d9))) ( FV n fb fr fw fs depth aB af v2)
def vF(fb:Int→Int→a1→Option (aO Expr Int))(fr:Int→Int→Int→a1→Option (aO Expr Int))(fw:Int→a1→Option (aO Expr Int))(fs:Int→a1→Option (aO Expr Int))(depth:Int)(af:a1)(v2:Int):Option (aO Expr Int):=(zw n (⟨af.tokens,v2⟩:a1)).bind λaB=>cond (decide (aB=0)) ( (pD n ([40]:ajK) (⟨af.tokens,v2⟩:a1)).bind λaQ=>cond (!aQ) ( (oG n 5 (⟨af.tokens,v2⟩:a1)).bind λbN=>aO.on bN (λba b4=>FX n fb fr fw fs depth af v2) (λhX b4=>some (.be hX v2))) ( FX n fb fr fw fs depth af v2)) ( cond (decide (aB=25)) ( vE n fb fr fw fs depth aB af v2 (decide (aB=25))) ( cond (decide (aB=26)) ( vE n fb fr fw fs depth aB af v2 (decide (aB=26))) ( vE n fb fr fw fs depth aB af v2 (decide (aB=27)))))
def zy(fb:Int→Int→a1→Option (aO Expr Int))(fr:Int→Int→Int→a1→Option (aO Expr Int))(fw:Int→a1→Option (aO Expr Int))(fs:Int→a1→Option (aO Expr Int))(depth:Int)(af:a1):Option (aO Expr Int):=cond (decide (af.at_<((af.tokens.length:Nat):Int))) ( au (aP af.at_ af.tokens.length)<|cond (decide ((ajN af.tokens (af.at_)).Kind=3)) ( some (.ret (⟨1,(ajN af.tokens (af.at_)).N,[],[]⟩:Expr) (ajM (af.at_+1)))) ( cond (decide ((ajN af.tokens (af.at_)).Kind=4)) ( some (.ret (⟨2,0,(ajN af.tokens (af.at_)).Text,[]⟩:Expr) (ajM (af.at_+1)))) ( cond (decide ((ajN af.tokens (af.at_)).Kind=1)) ( some (.ret (⟨3,0,(ajN af.tokens (af.at_)).Text,[]⟩:Expr) (ajM (af.at_+1)))) ( vF n fb fr fw fs depth af (ajM ((ajM (af.at_+1))-1)))))) ( vF n fb fr fw fs depth af af.at_)
def zz(fb:Int→Int→a1→Option (aO Expr Int))(fr:Int→Int→Int→a1→Option (aO Expr Int))(fw:Int→a1→Option (aO Expr Int))(fs:Int→a1→Option (aO Expr Int))(depth:Int)(af:a1):Option (aO Expr Int):=(je n ([40]:ajK) af).bind λae=>aO.on ae (λan aB=>(fb 1 depth (⟨af.tokens,aB⟩:a1)).bind λbN=>aO.on bN (λba b4=>(je n ([41]:ajK) (⟨af.tokens,b4⟩:a1)).bind λcE=>aO.on cE (λdZ bU=>some (.ret ba bU)) (λkx bU=>some (.be kx bU))) (λhX b4=>some (.be hX b4))) (λfo aB=>some (.be fo aB))
def iN:Nat→(Int→Int→a1→Option (aO Expr Int))×(Int→Int→Int→a1→Option (aO Expr Int))×(Int→a1→Option (aO Expr Int))×(Int→a1→Option (aO Expr Int))
 | 0=>(λ_ _ _=>none,λ_ _ _ _=>none,λ_ _=>none,λ_ _=>none)
 |m+1=>(vC m ((iN m).1) ((iN m).2.1) ((iN m).2.2.1) ((iN m).2.2.2),Qw m ((iN m).1) ((iN m).2.1) ((iN m).2.2.1) ((iN m).2.2.2),zy m ((iN m).1) ((iN m).2.1) ((iN m).2.2.1) ((iN m).2.2.2),zz m ((iN m).1) ((iN m).2.1) ((iN m).2.2.1) ((iN m).2.2.2))
def jf:Int→Int→a1→Option (aO Expr Int):=(iN n).1
def vG:Int→Int→Int→a1→Option (aO Expr Int):=(iN n).2.1
def pE:Int→a1→Option (aO Expr Int):=(iN n).2.2.1
def rk:Int→a1→Option (aO Expr Int):=(iN n).2.2.2
def F0(n:Nat)(af:a1):Option (aO Token Int):=au (aP (ajM ((ajM (af.at_+1))-1)) af.tokens.length)<|some (.ret (ajN af.tokens (ajM ((ajM (af.at_+1))-1))) (ajM (af.at_+1)))
def pF(kind:Int)(af:a1):Option (aO Token Int):=au ((decide (((af.tokens.length:Nat):Int)≤af.at_))||aP af.at_ af.tokens.length)<|cond (cond (decide (((af.tokens.length:Nat):Int)≤af.at_)) true (!decide ((ajN af.tokens (af.at_)).Kind=kind))) ( (oG n 5 af).bind λan=>aO.on an (λaB aQ=>F0 n af) (λky aQ=>some (.be ky af.at_))) ( F0 n af)
def Qx(n:Nat)(f7:Int→a1→Option (aO (List Stmt) Int))(gg:Int→a1→Option (aO Stmt Int))(gh:Int→a1→Option (aO Stmt Int))(af:a1)(v28:Int)(ge:List Stmt):Option (aO (List Stmt) Int):=some (.ret ge v28)
def Qy(f7:Int→a1→Option (aO (List Stmt) Int))(gg:Int→a1→Option (aO Stmt Int))(gh:Int→a1→Option (aO Stmt Int))(depth:Int)(af:a1)(eS:Int→(List Stmt)→Option (aO (List Stmt) Int))(cG:Int)(cY:List Stmt):Option (aO (List Stmt) Int):=(jA n ([125]:ajK) (⟨af.tokens,cG⟩:a1)).bind λd9=>cond (!d9.1) ( (gg (ajM (depth+1)) (⟨af.tokens,d9.2⟩:a1)).bind λeU=>aO.on eU (λd' eH=>au (room (cY.length+([d']:List Stmt).length) 192)<|eS eH (cY++([d']:List Stmt))) (λm4 eH=>some (.be m4 eH))) ( Qx n f7 gg gh af d9.2 cY)
def F1(n:Nat)(f7:Int→a1→Option (aO (List Stmt) Int))(gg:Int→a1→Option (aO Stmt Int))(gh:Int→a1→Option (aO Stmt Int))(depth:Int)(af:a1):Nat→Int→(List Stmt)→Option (aO (List Stmt) Int)
 | 0=>λ_ _=>none
 |m+1=>Qy n f7 gg gh depth af (F1 n f7 gg gh depth af m)
def F2(f7:Int→a1→Option (aO (List Stmt) Int))(gg:Int→a1→Option (aO Stmt Int))(gh:Int→a1→Option (aO Stmt Int))(depth:Int)(af:a1):Option (aO (List Stmt) Int):=(je n ([123]:ajK) af).bind λba=>aO.on ba (λb4 cq=>F1 n f7 gg gh depth af n cq ([]:List Stmt)) (λF3 cq=>some (.be F3 cq))
def Qz(f7:Int→a1→Option (aO (List Stmt) Int))(gg:Int→a1→Option (aO Stmt Int))(gh:Int→a1→Option (aO Stmt Int))(depth:Int)(af:a1):Option (aO (List Stmt) Int):=(pD n ([123]:ajK) af).bind λae=>cond (cond ae (decide (12<depth)) false) ( (oG n 2 af).bind λan=>aO.on an (λaB aQ=>F2 n f7 gg gh depth af) (λky aQ=>some (.be ky af.at_))) ( F2 n f7 gg gh depth af)
def F4(n:Nat)(f7:Int→a1→Option (aO (List Stmt) Int))(gg:Int→a1→Option (aO Stmt Int))(gh:Int→a1→Option (aO Stmt Int))(af:a1)(kz:Expr)(rl:(List Stmt))(zA:Int)(zB:List Stmt):Option (aO Stmt Int):=some (.ret (⟨5,[],0,kz,⟨0,0,[],[]⟩,rl,zB⟩:Stmt) zA)
def QA(f7:Int→a1→Option (aO (List Stmt) Int))(gg:Int→a1→Option (aO Stmt Int))(gh:Int→a1→Option (aO Stmt Int))(depth:Int)(af:a1):Option (aO Stmt Int):=(jA n ([108,101,116]:ajK) af).bind λae=>cond ae.1 ( (pF n 1 (⟨af.tokens,ae.2⟩:a1)).bind λaB=>aO.on aB (λaQ bN=>(je n ([61]:ajK) (⟨af.tokens,bN⟩:a1)).bind λb4=>aO.on b4 (λcq cE=>(jf n 1 0 (⟨af.tokens,cE⟩:a1)).bind λbU=>aO.on bU (λeV dI=>(re n (⟨1,aQ.Text,0,eV,⟨0,0,[],[]⟩,[],[]⟩:Stmt) (⟨af.tokens,dI⟩:a1)).bind λdJ=>aO.on dJ (λdD eI=>some (.ret (⟨dD.Op,dD.Name,dD.Max,⟨dD.A.Op,dD.A.N,dD.A.S,dD.A.az⟩,⟨dD.B.Op,dD.B.N,dD.B.S,dD.B.az⟩,dD.Body,dD.c7⟩:Stmt) eI)) (λrh eI=>some (.be rh eI))) (λF5 dI=>some (.be F5 dI))) (λF6 cE=>some (.be F6 cE))) (λm3 bN=>some (.be m3 bN))) ( (jA n ([112,117,116]:ajK) (⟨af.tokens,ae.2⟩:a1)).bind λeC=>cond eC.1 ( (jf n 1 0 (⟨af.tokens,eC.2⟩:a1)).bind λeU=>aO.on eU (λd' eH=>(je n ([61]:ajK) (⟨af.tokens,eH⟩:a1)).bind λe9=>aO.on e9 (λe' dC=>(jf n 1 0 (⟨af.tokens,dC⟩:a1)).bind λfa=>aO.on fa (λhz fK=>(re n (⟨3,[],0,d',hz,[],[]⟩:Stmt) (⟨af.tokens,fK⟩:a1)).bind λmi=>aO.on mi (λk2 lG=>some (.ret (⟨k2.Op,k2.Name,k2.Max,⟨k2.A.Op,k2.A.N,k2.A.S,k2.A.az⟩,⟨k2.B.Op,k2.B.N,k2.B.S,k2.B.az⟩,k2.Body,k2.c7⟩:Stmt) lG)) (λF7 lG=>some (.be F7 lG))) (λrm fK=>some (.be rm fK))) (λrn dC=>some (.be rn dC))) (λm4 eH=>some (.be m4 eH))) ( (jA n ([100,101,108,101,116,101]:ajK) (⟨af.tokens,eC.2⟩:a1)).bind λro=>cond ro.1 ( (jf n 1 0 (⟨af.tokens,ro.2⟩:a1)).bind λs0=>aO.on s0 (λra kZ=>(re n (⟨4,[],0,ra,⟨0,0,[],[]⟩,[],[]⟩:Stmt) (⟨af.tokens,kZ⟩:a1)).bind λlF=>aO.on lF (λfU hL=>some (.ret (⟨fU.Op,fU.Name,fU.Max,⟨fU.A.Op,fU.A.N,fU.A.S,fU.A.az⟩,⟨fU.B.Op,fU.B.N,fU.B.S,fU.B.az⟩,fU.Body,fU.c7⟩:Stmt) hL)) (λrf hL=>some (.be rf hL))) (λrp kZ=>some (.be rp kZ))) ( (jA n ([101,109,105,116]:ajK) (⟨af.tokens,ro.2⟩:a1)).bind λlE=>cond lE.1 ( (jf n 1 0 (⟨af.tokens,lE.2⟩:a1)).bind λzm=>aO.on zm (λvy m5=>(re n (⟨7,[],0,vy,⟨0,0,[],[]⟩,[],[]⟩:Stmt) (⟨af.tokens,m5⟩:a1)).bind λs3=>aO.on s3 (λjd vH=>some (.ret (⟨jd.Op,jd.Name,jd.Max,⟨jd.A.Op,jd.A.N,jd.A.S,jd.A.az⟩,⟨jd.B.Op,jd.B.N,jd.B.S,jd.B.az⟩,jd.Body,jd.c7⟩:Stmt) vH)) (λF8 vH=>some (.be F8 vH))) (λF9 m5=>some (.be F9 m5))) ( (jA n ([97,98,111,114,116]:ajK) (⟨af.tokens,lE.2⟩:a1)).bind λzC=>cond zC.1 ( (pF n 3 (⟨af.tokens,zC.2⟩:a1)).bind λmm=>aO.on mm (λQB vI=>(re n (⟨8,[],QB.N,⟨0,0,[],[]⟩,⟨0,0,[],[]⟩,[],[]⟩:Stmt) (⟨af.tokens,vI⟩:a1)).bind λvw=>aO.on vw (λiO pC=>some (.ret (⟨iO.Op,iO.Name,iO.Max,⟨iO.A.Op,iO.A.N,iO.A.S,iO.A.az⟩,⟨iO.B.Op,iO.B.N,iO.B.S,iO.B.az⟩,iO.Body,iO.c7⟩:Stmt) pC)) (λF' pC=>some (.be F' pC))) (λF_ vI=>some (.be F_ vI))) ( (jA n ([105,102]:ajK) (⟨af.tokens,zC.2⟩:a1)).bind λzD=>cond zD.1 ( (jf n 1 0 (⟨af.tokens,zD.2⟩:a1)).bind λaa9=>aO.on aa9 (λkz vJ=>(f7 depth (⟨af.tokens,vJ⟩:a1)).bind λaa'=>aO.on aa' (λrl vK=>(jA n ([101,108,115,101]:ajK) (⟨af.tokens,vK⟩:a1)).bind λzE=>cond zE.1 ( (f7 depth (⟨af.tokens,zE.2⟩:a1)).bind λaa_=>aO.on aa_ (λQC vL=>F4 n f7 gg gh af kz rl vL QC) (λGa vL=>some (.be Ga vL))) ( F4 n f7 gg gh af kz rl zE.2 ([]:List Stmt))) (λGb vK=>some (.be Gb vK))) (λGc vJ=>some (.be Gc vJ))) ( (jA n ([102,111,114]:ajK) (⟨af.tokens,zD.2⟩:a1)).bind λzF=>cond zF.1 ( (gh depth (⟨af.tokens,zF.2⟩:a1)).bind λaba=>aO.on aba (λk3 vM=>some (.ret (⟨k3.Op,k3.Name,k3.Max,⟨k3.A.Op,k3.A.N,k3.A.S,k3.A.az⟩,⟨k3.B.Op,k3.B.N,k3.B.S,k3.B.az⟩,k3.Body,k3.c7⟩:Stmt) vM)) (λGd vM=>some (.be Gd vM))) ( (pF n 1 (⟨af.tokens,zF.2⟩:a1)).bind λsZ=>aO.on sZ (λq_ vN=>(je n ([61]:ajK) (⟨af.tokens,vN⟩:a1)).bind λabb=>aO.on abb (λzk vO=>(jf n 1 0 (⟨af.tokens,vO⟩:a1)).bind λabc=>aO.on abc (λQD vP=>(re n (⟨2,q_.Text,0,QD,⟨0,0,[],[]⟩,[],[]⟩:Stmt) (⟨af.tokens,vP⟩:a1)).bind λabd=>aO.on abd (λk4 pB=>some (.ret (⟨k4.Op,k4.Name,k4.Max,⟨k4.A.Op,k4.A.N,k4.A.S,k4.A.az⟩,⟨k4.B.Op,k4.B.N,k4.B.S,k4.B.az⟩,k4.Body,k4.c7⟩:Stmt) pB)) (λGe pB=>some (.be Ge pB))) (λGf vP=>some (.be Gf vP))) (λGg vO=>some (.be Gg vO))) (λGh vN=>some (.be Gh vN)))))))))
def QE(f7:Int→a1→Option (aO (List Stmt) Int))(gg:Int→a1→Option (aO Stmt Int))(gh:Int→a1→Option (aO Stmt Int))(depth:Int)(af:a1):Option (aO Stmt Int):=(pF n 1 af).bind λae=>aO.on ae (λan aB=>(je n ([61]:ajK) (⟨af.tokens,aB⟩:a1)).bind λbN=>aO.on bN (λba b4=>(jf n 1 0 (⟨af.tokens,b4⟩:a1)).bind λcE=>aO.on cE (λdZ bU=>(je n ([116,111]:ajK) (⟨af.tokens,bU⟩:a1)).bind λdI=>aO.on dI (λer dJ=>(jf n 1 0 (⟨af.tokens,dJ⟩:a1)).bind λeI=>aO.on eI (λfE eC=>(je n ([109,97,120]:ajK) (⟨af.tokens,eC⟩:a1)).bind λeU=>aO.on eU (λd' eH=>(pF n 3 (⟨af.tokens,eH⟩:a1)).bind λe9=>aO.on e9 (λe' dC=>(f7 depth (⟨af.tokens,dC⟩:a1)).bind λfa=>aO.on fa (λhz fK=>some (.ret (⟨6,an.Text,e'.N,dZ,fE,hz,[]⟩:Stmt) fK)) (λrm fK=>some (.be rm fK))) (λrn dC=>some (.be rn dC))) (λm4 eH=>some (.be m4 eH))) (λGi eC=>some (.be Gi eC))) (λrj dJ=>some (.be rj dJ))) (λkx bU=>some (.be kx bU))) (λhX b4=>some (.be hX b4))) (λfo aB=>some (.be fo aB))
def mn:Nat→(Int→a1→Option (aO (List Stmt) Int))×(Int→a1→Option (aO Stmt Int))×(Int→a1→Option (aO Stmt Int))
 | 0=>(λ_ _=>none,λ_ _=>none,λ_ _=>none)
 |m+1=>(Qz m ((mn m).1) ((mn m).2.1) ((mn m).2.2),QA m ((mn m).1) ((mn m).2.1) ((mn m).2.2),QE m ((mn m).1) ((mn m).2.1) ((mn m).2.2))
def Gj:Int→a1→Option (aO (List Stmt) Int):=(mn n).1
def abe:Int→a1→Option (aO Stmt Int):=(mn n).2.1
def abf:Int→a1→Option (aO Stmt Int):=(mn n).2.2
def vQ(n:Nat)(af:a1)(an:Token)(di:Int)(aW:Int):Option (aO Param Int):=some (.ret (⟨an.Text,aW⟩:Param) di)
def Gk(af:a1):Option (aO Param Int):=(pF n 1 af).bind λae=>aO.on ae (λan aB=>(je n ([58]:ajK) (⟨af.tokens,aB⟩:a1)).bind λbN=>aO.on bN (λba b4=>(jA n ([105,110,116]:ajK) (⟨af.tokens,b4⟩:a1)).bind λcE=>cond cE.1 ( vQ n af an cE.2 1) ( (jA n ([115,116,114]:ajK) (⟨af.tokens,cE.2⟩:a1)).bind λdZ=>cond dZ.1 ( vQ n af an dZ.2 2) ( (jA n ([98,111,111,108]:ajK) (⟨af.tokens,dZ.2⟩:a1)).bind λbU=>cond bU.1 ( vQ n af an bU.2 3) ( (oG n 5 (⟨af.tokens,bU.2⟩:a1)).bind λeV=>aO.on eV (λdI er=>vQ n af an bU.2 0) (λGl er=>some (.be Gl bU.2)))))) (λhX b4=>some (.be hX b4))) (λfo aB=>some (.be fo aB))
def Gm(af:a1)(ba:Token)(zG:Int)(zH:List Param):Option (aO bj Int):=(Gj n 0 (⟨af.tokens,zG⟩:a1)).bind λhL=>aO.on hL (λvx lE=>some (.ret (⟨ba.Text,zH,vx⟩:bj) lE)) (λGn lE=>some (.be Gn lE))
def QF(af:a1)(ba:Token)(v37:Int)(gY:List Param):Option (aO bj Int):=(je n ([41]:ajK) (⟨af.tokens,v37⟩:a1)).bind λs0=>aO.on s0 (λra kZ=>Gm n af ba kZ gY) (λrp kZ=>some (.be rp kZ))
def QG(af:a1)(ba:Token)(eS:Int→(List Param)→Option (aO bj Int))(k0:Int)(v28:List Param):Option (aO bj Int):=(jA n ([44]:ajK) (⟨af.tokens,k0⟩:a1)).bind λfa=>cond fa.1 ( (Gk n (⟨af.tokens,fa.2⟩:a1)).bind λhz=>aO.on hz (λfK k1=>au (room (v28.length+([fK]:List Param).length) 24)<|eS k1 (v28++([fK]:List Param))) (λri k1=>some (.be ri k1))) ( QF n af ba fa.2 v28)
def Gp(n:Nat)(af:a1)(ba:Token):Nat→Int→(List Param)→Option (aO bj Int)
 | 0=>λ_ _=>none
 |m+1=>QG n af ba (Gp n af ba m)
def QH(af:a1):Option (aO bj Int):=(je n ([112,114,111,99]:ajK) af).bind λae=>aO.on ae (λan aB=>(pF n 1 (⟨af.tokens,aB⟩:a1)).bind λbN=>aO.on bN (λba b4=>(je n ([40]:ajK) (⟨af.tokens,b4⟩:a1)).bind λcE=>aO.on cE (λdZ bU=>(jA n ([41]:ajK) (⟨af.tokens,bU⟩:a1)).bind λdI=>cond (!dI.1) ( (Gk n (⟨af.tokens,dI.2⟩:a1)).bind λer=>aO.on er (λdJ dD=>au (room (([]:List Param).length+([dJ]:List Param).length) 24)<|Gp n af ba n dD (([]:List Param)++([dJ]:List Param))) (λGq dD=>some (.be Gq dD))) ( Gm n af ba dI.2 ([]:List Param))) (λkx bU=>some (.be kx bU))) (λhX b4=>some (.be hX b4))) (λfo aB=>some (.be fo aB))
def QI(af:a1)(e_:bj):Option (aO Unit (Int×ajK×(List Param)×(List Stmt))):=(QH n af).bind λae=>aO.on ae (λan aB=>some (.ret () (aB,an.Name,an.Params,an.Body))) (λfo aB=>some (.be fo (aB,e_.Name,e_.Params,e_.Body)))
def QJ(n:Nat)(af:a1):Option (aO Unit Unit):=au (aP (ajM (((af.tokens.length:Nat):Int)-1)) af.tokens.length)<|some (.be (.iface 379 (.agg [.int .i64 ((ajN af.tokens (ajM (((af.tokens.length:Nat):Int)-1))).kv),.int .i64 6])) ())
def QK(af:a1):Option (aO Unit Unit):=cond (decide (((af.tokens.length:Nat):Int)=0)) ( some (.be (.iface 379 (.agg [.int .i64 1,.int .i64 6])) ())) ( QJ n af)
def QL(code:Int)(af:a1):Option (aO Unit Unit):=cond (decide (af.at_<((af.tokens.length:Nat):Int))) ( au (aP af.at_ af.tokens.length)<|some (.be (.iface 379 (.agg [.int .i64 ((ajN af.tokens (af.at_)).kv),.int .i64 code])) ())) ( QK n af)
def Gr(src:ajK)(af:bj):Option (Int×Int×ajK×(List Param)×(List Stmt)):=(Qv n src).bind λae=>cond (!decide (ae.2.2=0)) (some (ae.2.1,ae.2.2,af.Name,af.Params,af.Body)) ((QI n (⟨ae.1,0⟩:a1) af).bind λan=>aO.on an (λcD k5=>cond (decide (k5.1<((ae.1.length:Nat):Int))) ((QL n 5 (⟨ae.1,k5.1⟩:a1)).bind λaB=>aO.on aB (λcH Gs=>none) (λes Gs=>(yJ 379 es).bind λlc=>some (lc.1,lc.2,k5.2.1,k5.2.2.1,k5.2.2.2))) (some (0,0,k5.2.1,k5.2.2.1,k5.2.2.2))) (λes k5=>(yJ 379 es).bind λlc=>some (lc.1,lc.2,k5.2.1,k5.2.2.1,k5.2.2.2)))
def Gt(n:Nat)(ae:Int×Int×ajK×(List Param)×(List Stmt))(v3:Int):Option (bj×Int×Int):=cond (!decide (v3=0)) ( some ((⟨[],[],[]⟩:bj),ae.1,v3)) ( some ((⟨ae.2.2.1,ae.2.2.2.1,ae.2.2.2.2⟩:bj),0,0))
def QM(src:ajK):Option (bj×Int×Int):=(Gr n src (⟨[],[],[]⟩:bj)).bind λae=>cond (decide (ae.2.1=0)) ( (EE n (⟨ae.2.2.1,ae.2.2.2.1,ae.2.2.2.2⟩:bj)).bind λan=>Gt n ae an) ( Gt n ae ae.2.1)
def QN(n:Nat)(bx:List bj):Option ((List bj)×Bool):=some (bx,true)
def QO(l:List ajK)(ar:Int→(List bj)→Option ((List bj)×Bool))(bu:Int)(bp:List bj):Option ((List bj)×Bool):=cond (decide (bu<((l.length:Nat):Int))) ( au (aP bu l.length)<|(QM n (ajN l bu)).bind λdZ=>Option.bind (cond (!(!decide (dZ.2.2=0))) (zg n dZ.1) (some default)) λbU=>cond (cond (!decide (dZ.2.2=0)) true (!(decide (bU=(ajN l bu))))) ( some (([]:List bj),false)) ( au (room (bp.length+([dZ.1]:List bj).length) 64)<|ar (ajM (bu+1)) (bp++([dZ.1]:List bj)))) ( QN n bp)
def Gu(n:Nat)(l:List ajK):Nat→Int→(List bj)→Option ((List bj)×Bool)
 | 0=>λ_ _=>none
 |m+1=>QO n l (Gu n l m)
def QP(l:List ajK):Option ((List bj)×Bool):=Gu n l n 0 ([]:List bj)
def QQ(n:Nat)(l:List bc):ajO:=some (decide (((l.length:Nat):Int)≤32))
def QR(l:List bc)(ar:Int→ajO)(v5:Int):ajO:=cond (decide (v5<((l.length:Nat):Int))) ( au (aP v5 l.length)<|(q5 n ((ajN l v5).Key)).bind λb4=>au ((cond (cond (!b4) true (decide ((ajN l v5).Count<1))) true (decide (1099511627776<(ajN l v5).Count)))||(!(decide (0<v5))||aP (ajM (v5-1)) l.length))<|cond (cond (cond (cond (!b4) true (decide ((ajN l v5).Count<1))) true (decide (1099511627776<(ajN l v5).Count))) true (cond (decide (0<v5)) (!(Op.bytesLess ((ajN l (ajM (v5-1))).Key) ((ajN l v5).Key))) false)) ( some false) ( ar (ajM (v5+1)))) ( QQ n l)
def Gv(n:Nat)(l:List bc):Nat→Int→ajO
 | 0=>λ_=>none
 |m+1=>QR n l (Gv n l m)
def QS(l:List bc):ajO:=Gv n l n 0
def QT(n:Nat):ajO:=some true
def QU(l:List bj)(ar:Int→ajO)(v6:Int):ajO:=cond (decide (v6<((l.length:Nat):Int))) ( au (aP v6 l.length)<|(zg n (ajN l v6)).bind λcq=>au ((cond (decide (cq=([]:ajK))) true (decide (16384<((cq.length:Nat):Int))))||(!(decide (0<v6))||aP (ajM (v6-1)) l.length))<|cond (cond (cond (decide (cq=([]:ajK))) true (decide (16384<((cq.length:Nat):Int)))) true (cond (decide (0<v6)) ((Op.bytesLess ((ajN l v6).Name) ((ajN l (ajM (v6-1))).Name))||(decide (((ajN l v6).Name)=((ajN l (ajM (v6-1))).Name)))) false)) ( some false) ( ar (ajM (v6+1)))) ( QT n)
def Gw(n:Nat)(l:List bj):Nat→Int→ajO
 | 0=>λ_=>none
 |m+1=>QU n l (Gw n l m)
def QV(l:List bj):ajO:=cond (decide (16<((l.length:Nat):Int))) ( some false) ( Gw n l n 0)
def QW(ag:bF):ajO:=(zh n ag.bT).bind λbU=>Option.bind (cond bU (Fj n ag.Place) (some default)) λeV=>Option.bind (cond (cond bU eV false) (QS n ag.bc) (some default)) λdI=>some (cond (cond bU eV false) dI false)
def QX(ag:bF)(ar:Int→ajO)(bu:Int):ajO:=cond (decide (bu<((ag.Queue.length:Nat):Int))) ( au (aP bu ag.Queue.length)<|(vn n (⟨(ajN ag.Queue bu).Client,(ajN ag.Queue bu).Seq,(ajN ag.Queue bu).bj,(ajN ag.Queue bu).az,(ajN ag.Queue bu).fD,⟨((ajN ag.Queue bu).bY).ep,((ajN ag.Queue bu).bY).Reads,((ajN ag.Queue bu).bY).da⟩⟩:Request)).bind λcE=>cond (!decide (cE=0)) ( some false) ( ar (ajM (bu+1)))) ( QW n ag)
def Gx(n:Nat)(ag:bF):Nat→Int→ajO
 | 0=>λ_=>none
 |m+1=>QX n ag (Gx n ag m)
def zI(ag:bF):ajO:=Option.bind (cond (!(cond (decide (ag.Pos<0)) true (decide (1099511627776<ag.Pos)))) (sW n ag.ao) (some default)) λae=>Option.bind (cond (!(cond (cond (cond (decide (ag.Pos<0)) true (decide (1099511627776<ag.Pos))) true (!ae)) true (!decide (ag.ao.bk=ag.Pos)))) (QV n ag.bI) (some default)) λan=>cond (cond (cond (cond (cond (cond (decide (ag.Pos<0)) true (decide (1099511627776<ag.Pos))) true (!ae)) true (!decide (ag.ao.bk=ag.Pos))) true (!an)) true (decide (64<((ag.Queue.length:Nat):Int)))) ( some false) ( Gx n ag n 0)
def QY(n:Nat)(at_:Int)(cc:List Row):Option (ao×Int):=some ((⟨at_,at_,cc⟩:ao),0)
def QZ(at_:Int)(l:List aI)(ar:(List Row)→Int→Option (ao×Int))(bu:List Row)(bp:Int):Option (ao×Int):=cond (decide (bp<((l.length:Nat):Int))) ( au (aP bp l.length)<|au (room (bu.length+([(⟨(ajN l bp).Key,[⟨at_,⟨((ajN l bp).bo).Kind,((ajN l bp).bo).N,((ajN l bp).bo).S⟩⟩]⟩:Row)]:List Row).length) 40)<|ar (bu++([(⟨(ajN l bp).Key,[⟨at_,⟨((ajN l bp).bo).Kind,((ajN l bp).bo).N,((ajN l bp).bo).S⟩⟩]⟩:Row)]:List Row)) (ajM (bp+1))) ( QY n at_ bu)
def Gy(n:Nat)(at_:Int)(l:List aI):Nat→(List Row)→Int→Option (ao×Int)
 | 0=>λ_ _=>none
 |m+1=>QZ n at_ l (Gy n at_ l m)
def Gz(l:List aI)(at_:Int):Option (ao×Int):=(E' n l).bind λae=>cond (cond (cond (!ae) true (decide (at_<0))) true (decide (1099511627776<at_))) ( some ((⟨0,0,[]⟩:ao),1)) ( Gy n at_ l n ([]:List Row) 0)
def GA(s:ajK):Option (bF×Int):=(Qe n (⟨s,0,0⟩:fJ)).bind λae=>cond (!decide (ae.2.2=0)) ( some ((⟨0,⟨0,0,[]⟩,[],[],⟨0,[]⟩,[],[],0⟩:bF),ae.2.2)) ( cond (cond (cond (!decide (ae.2.1=((s.length:Nat):Int))) true (decide (ae.1.fv.Pos<0))) true (decide (1099511627776<ae.1.fv.Pos))) ( some ((⟨0,⟨0,0,[]⟩,[],[],⟨0,[]⟩,[],[],0⟩:bF),5)) ( (QP n ae.1.sources).bind λaQ=>cond (!aQ.2) ( some ((⟨0,⟨0,0,[]⟩,[],[],⟨0,[]⟩,[],[],0⟩:bF),5)) ( (Gz n ae.1.DT ae.1.fv.Pos).bind λba=>cond (!decide (ba.2=0)) ( some ((⟨0,⟨0,0,[]⟩,[],[],⟨0,[]⟩,[],[],0⟩:bF),5)) ( (zI n (⟨ae.1.fv.Pos,ba.1,aQ.1,ae.1.fv.bT,ae.1.fv.Place,ae.1.fv.bc,ae.1.fv.Queue,ae.1.fv.b6⟩:bF)).bind λcq=>cond (!cq) ( some ((⟨0,⟨0,0,[]⟩,[],[],⟨0,[]⟩,[],[],0⟩:bF),5)) ( some ((⟨ae.1.fv.Pos,ba.1,aQ.1,ae.1.fv.bT,ae.1.fv.Place,ae.1.fv.bc,ae.1.fv.Queue,ae.1.fv.b6⟩:bF),0))))))
def Q0(ag:bF):Option (bF×Int):=(zI n ag).bind λae=>cond (!ae) ( some ((⟨0,⟨0,0,[]⟩,[],[],⟨0,[]⟩,[],[],0⟩:bF),1)) ( (E6 n ag).bind λaB=>(GA n aB).bind λaQ=>some (aQ.1,aQ.2))
def Q1(ag:bF):Option (de×Int):=(Q0 n ag).bind λae=>cond (!decide (ae.2=0)) ( some ((⟨0,⟨0,⟨0,0,[]⟩,[],[],⟨0,[]⟩,[],[],0⟩,[],false,[],[]⟩:de),1)) ( some ((⟨ag.Pos,⟨ag.Pos,⟨0,0,[]⟩,ag.bI,ag.bT,ag.Place,ag.bc,ag.Queue,ag.b6⟩,[],false,[],[]⟩:de),0))
def GB(n:Nat):ajO:=some true
def zJ(s:ao)(ar:Int→ajO)(v4:Int):ajO:=cond (decide (v4<((s.Rows.length:Nat):Int))) ( au (aP v4 s.Rows.length)<|cond (decide (40<((((ajN s.Rows v4).bi).length:Nat):Int))) ( some false) ( ar (ajM (v4+1)))) ( GB n)
def s6(n:Nat)(s:ao):Nat→Int→ajO
 | 0=>λ_=>none
 |m+1=>zJ n s (s6 n s m)
def s7(s:ao):ajO:=cond (decide (60<((s.Rows.length:Nat):Int))) ( some false) ( s6 n s n 0)
def zK(n:Nat)(k6:Expr→Int→ajP)(v11:Int):ajP:=some v11
def zL(k6:Expr→Int→ajP)(b7:Int)(e:Expr)(ar:Int→Int→ajP)(v5:Int)(v6:Int):ajP:=cond (cond (decide (v6<((e.az.length:Nat):Int))) (decide (v5≤b7)) false) ( au (aP v6 e.az.length)<|(k6 (ajN e.az v6) (ajM (b7-v5))).bind λcq=>ar (ajM (v5+cq)) (ajM (v6+1))) ( zK n k6 v5)
def s8(n:Nat)(k6:Expr→Int→ajP)(b7:Int)(e:Expr):Nat→Int→Int→ajP
 | 0=>λ_ _=>none
 |m+1=>zL n k6 b7 e (s8 n k6 b7 e m)
def zM(k6:Expr→Int→ajP)(e:Expr)(b7:Int):ajP:=s8 n k6 b7 e n (ajM (1+(ajM (Int.tdiv ((e.S.length:Nat):Int) 64)))) 0
def nY:Nat→Expr→Int→ajP
 | 0=>λ_ _=>none
 |m+1=>zM m (nY m)
def GC(n:Nat)(kA:(List Stmt)→Int→ajP)(v25:Int):ajP:=some v25
def GD(kA:(List Stmt)→Int→ajP)(l:List Stmt)(b7:Int)(ar:Int→Int→ajP)(v12:Int)(cc:Int):ajP:=cond (cond (decide (cc<((l.length:Nat):Int))) (decide (v12≤b7)) false) ( au (aP cc l.length)<|au (aP cc l.length)<|(nY n ((ajN l cc).A) (ajM (b7-(ajM ((ajM (v12+1))+(ajM (Int.tdiv ((((ajN l cc).Name).length:Nat):Int) 64))))))).bind λdD=>au (aP cc l.length)<|(nY n ((ajN l cc).B) (ajM (b7-(ajM ((ajM ((ajM (v12+1))+(ajM (Int.tdiv ((((ajN l cc).Name).length:Nat):Int) 64))))+dD))))).bind λfE=>au (aP cc l.length)<|(kA ((ajN l cc).Body) (ajM (b7-(ajM ((ajM ((ajM ((ajM (v12+1))+(ajM (Int.tdiv ((((ajN l cc).Name).length:Nat):Int) 64))))+dD))+fE))))).bind λd9=>au (aP cc l.length)<|(kA ((ajN l cc).c7) (ajM (b7-(ajM ((ajM ((ajM ((ajM ((ajM (v12+1))+(ajM (Int.tdiv ((((ajN l cc).Name).length:Nat):Int) 64))))+dD))+fE))+d9))))).bind λd'=>ar (ajM ((ajM ((ajM ((ajM ((ajM ((ajM (v12+1))+(ajM (Int.tdiv ((((ajN l cc).Name).length:Nat):Int) 64))))+dD))+fE))+d9))+d')) (ajM (cc+1))) ( GC n kA v12)
def vR(n:Nat)(kA:(List Stmt)→Int→ajP)(l:List Stmt)(b7:Int):Nat→Int→Int→ajP
 | 0=>λ_ _=>none
 |m+1=>GD n kA l b7 (vR n kA l b7 m)
def GE(kA:(List Stmt)→Int→ajP)(l:List Stmt)(b7:Int):ajP:=vR n kA l b7 n 0 0
def s9:Nat→(List Stmt)→Int→ajP
 | 0=>λ_ _=>none
 |m+1=>GE m (s9 m)
def GF(b7:Int)(p:bj):ajO:=(s9 n p.Body b7).bind λb4=>some (decide (b4≤b7))
def GG(b7:Int)(p:bj)(ar:Int→ajO)(v4:Int):ajO:=cond (decide (v4<((p.Params.length:Nat):Int))) ( au (aP v4 p.Params.length)<|cond (decide (200<((((ajN p.Params v4).Name).length:Nat):Int))) ( some false) ( ar (ajM (v4+1)))) ( GF n b7 p)
def vS(n:Nat)(b7:Int)(p:bj):Nat→Int→ajO
 | 0=>λ_=>none
 |m+1=>GG n b7 p (vS n b7 p m)
def vT(p:bj)(b7:Int):ajO:=cond (cond (decide (40<((p.Params.length:Nat):Int))) true (decide (200<((p.Name.length:Nat):Int)))) ( some false) ( vS n b7 p n 0)
def GH(n:Nat):ajO:=some true
def zN(f:eX)(eS:Int→ajO)(v9:Int):ajO:=cond (decide (v9<((f.da.length:Nat):Int))) ( au (aP v9 f.da.length)<|cond (decide (100<(((ajN f.da v9).length:Nat):Int))) ( some false) ( eS (ajM (v9+1)))) ( GH n)
def rq(n:Nat)(f:eX):Nat→Int→ajO
 | 0=>λ_=>none
 |m+1=>zN n f (rq n f m)
def GI(f:eX):ajO:=rq n f n 0
def zO(f:eX)(dS:Int→ajO)(v4:Int):ajO:=cond (decide (v4<((f.Reads.length:Nat):Int))) ( au (aP v4 f.Reads.length)<|cond (decide (100<(((ajN f.Reads v4).length:Nat):Int))) ( some false) ( dS (ajM (v4+1)))) ( GI n f)
def s'(n:Nat)(f:eX):Nat→Int→ajO
 | 0=>λ_=>none
 |m+1=>zO n f (s' n f m)
def rr(f:eX)(b7:Int):ajO:=cond (cond (decide (b7<((f.Reads.length:Nat):Int))) true (decide (b7<((f.da.length:Nat):Int)))) ( some false) ( s' n f n 0)
def GJ(n:Nat):ajO:=some true
def zP(ag:Request)(ar:Int→ajO)(v5:Int):ajO:=cond (decide (v5<((ag.az.length:Nat):Int))) ( au (aP v5 ag.az.length)<|cond (decide (300<((((ajN ag.az v5).S).length:Nat):Int))) ( some false) ( ar (ajM (v5+1)))) ( GJ n)
def s_(n:Nat)(ag:Request):Nat→Int→ajO
 | 0=>λ_=>none
 |m+1=>zP n ag (s_ n ag m)
def vU(ag:Request):ajO:=Option.bind (cond (!(cond (decide (300<((ag.bj.length:Nat):Int))) true (decide (40<((ag.az.length:Nat):Int))))) (rr n ag.bY 100) (some default)) λae=>cond (cond (cond (decide (300<((ag.bj.length:Nat):Int))) true (decide (40<((ag.az.length:Nat):Int)))) true (!ae)) ( some false) ( s_ n ag n 0)
def GK(n:Nat):ajO:=some true
def zQ(ag:bF)(dS:Int→ajO)(cG:Int):ajO:=cond (decide (cG<((ag.Queue.length:Nat):Int))) ( au (aP cG ag.Queue.length)<|(vU n (ajN ag.Queue cG)).bind λd9=>cond (!d9) ( some false) ( dS (ajM (cG+1)))) ( GK n)
def ru(n:Nat)(ag:bF):Nat→Int→ajO
 | 0=>λ_=>none
 |m+1=>zQ n ag (ru n ag m)
def GL(ag:bF):ajO:=ru n ag n 0
def zR(ag:bF)(m6:Int→ajO)(v12:Int):ajO:=cond (decide (v12<((ag.bT.length:Nat):Int))) ( au (aP v12 ag.bT.length)<|cond (decide (20<((((ajN ag.bT v12).c').length:Nat):Int))) ( some false) ( m6 (ajM (v12+1)))) ( GL n ag)
def rv(n:Nat)(ag:bF):Nat→Int→ajO
 | 0=>λ_=>none
 |m+1=>zR n ag (rv n ag m)
def GM(ag:bF):ajO:=rv n ag n 0
def zS(ag:bF)(nV:Int→ajO)(v6:Int):ajO:=cond (decide (v6<((ag.bI.length:Nat):Int))) ( au (aP v6 ag.bI.length)<|(vT n (ajN ag.bI v6) 600).bind λcq=>cond (!cq) ( some false) ( nV (ajM (v6+1)))) ( GM n ag)
def ta(n:Nat)(ag:bF):Nat→Int→ajO
 | 0=>λ_=>none
 |m+1=>zS n ag (ta n ag m)
def vV(ag:bF):ajO:=(s7 n ag.ao).bind λae=>cond (cond (cond (cond (cond (cond (!ae) true (decide (16<((ag.bI.length:Nat):Int)))) true (decide (10<((ag.bT.length:Nat):Int)))) true (decide (40<((ag.bc.length:Nat):Int)))) true (decide (70<((ag.Queue.length:Nat):Int)))) true (decide (40<((ag.Place.a7.length:Nat):Int)))) ( some false) ( ta n ag n 0)
def Q2(ag:bF):Option (ajK×Int):=(zI n ag).bind λae=>cond (!ae) ( some (([]:ajK),1)) ( (E6 n ag).bind λaB=>cond (decide (16384<((aB.length:Nat):Int))) ( some (([]:ajK),2)) ( some (aB,0)))
def GN(n:Nat)(bZ:List Int):ajP:=some ((bZ.length:Nat):Int)
def Q3(c:de)(v24:List Int):Option (ajK×Int×Int):=(GN n v24).bind λe9=>cond (cond (decide (16384<e9)) true (decide ((ajM (1099511627776-c.bH))<((c.cU.length:Nat):Int)))) ( some (([]:ajK),0,2)) ( (q7 n v24).bind λdC=>some (dC.1,(ajM (c.bH+((c.cU.length:Nat):Int))),0))
def Q4(c:de)(ar:(List Int)→Int→Option (ajK×Int×Int))(di:List Int)(aW:Int):Option (ajK×Int×Int):=cond (decide (aW<((c.cU.length:Nat):Int))) ( au (aP aW c.cU.length)<|Option.bind (cond (!(decide (4096<(((ajN c.cU aW).length:Nat):Int)))) (GN n di) (some default)) λeC=>cond (cond (decide (4096<(((ajN c.cU aW).length:Nat):Int))) true (decide (16384<eC))) ( some (([]:ajK),0,2)) ( (mW n (ajN c.cU aW)).bind λd9=>(iu n d9 di).bind λeU=>ar eU.2 (ajM (aW+1)))) ( Q3 n c di)
def GO(n:Nat)(c:de):Nat→(List Int)→Int→Option (ajK×Int×Int)
 | 0=>λ_ _=>none
 |m+1=>Q4 n c (GO n c m)
def GP(c:de):Option (ajK×Int×Int):=cond (!c.cN) ( some (([]:ajK),0,16)) ( (Gz n c.c8 c.bH).bind λan=>cond (!decide (an.2=0)) ( some (([]:ajK),0,an.2)) ( (Q2 n (⟨c.Rest.Pos,an.1,c.Rest.bI,c.Rest.bT,c.Rest.Place,c.Rest.bc,c.Rest.Queue,c.Rest.b6⟩:bF)).bind λaQ=>cond (!decide (aQ.2=0)) ( some (([]:ajK),0,aQ.2)) ( (mW n aQ.1).bind λba=>(hV n (IntKind.u64.wrap ((c.cU.length:Nat):Int))).bind λb4=>au (b3 (ba.length+b4.length))<|(iu n (ba++b4) ([]:List Int)).bind λcE=>GO n c n cE.2 0)))
def zT(n:Nat)(s:List aI):Option (List aI):=au (room (([]:List aI).length+s.length) 48)<|some (([]:List aI)++s)
def zU(n:Nat)(s:List ajK):Option (List ajK):=au (room (([]:List ajK).length+s.length) 16)<|some (([]:List ajK)++s)
def vW(c:de):Option de:=(zT n c.c8).bind λae=>(zU n c.cU).bind λan=>some (⟨c.bH,c.Rest,c.Next,c.cN,ae,an⟩:de)
def vX(c:de)(data:ajK):Option de:=(vW n c).bind λae=>au (room (ae.cU.length+([data]:List ajK).length) 16)<|some (⟨ae.bH,ae.Rest,ae.Next,ae.cN,ae.c8,(ae.cU++([data]:List ajK))⟩:de)
def GQ(n:Nat)(ae:ajK×Int×Int)(af:ajK)(v2:Int):Option (ajK×Int×Int):=some (ae.1,ae.2.2,v2)
def GR(b7:Int)(af:ajK)(e_:Int):Option (ajK×Int×Int):=(rc n af e_ b7).bind λae=>cond (decide (ae.2.2=0)) ( GQ n ae af ae.2.1) ( GQ n ae af e_)
def Q5(s:ajK):Option (bF×Int):=cond (decide (16384<((s.length:Nat):Int))) ( some ((⟨0,⟨0,0,[]⟩,[],[],⟨0,[]⟩,[],[],0⟩:bF),2)) ( (GA n s).bind λan=>some (an.1,an.2))
def Q6(n:Nat)(ba:Int×Int×Int)(s:ajK)(aQ:bF×Int)(v21:Int)(v22:List ajK):Option (bF×(List ajK)×Int):=cond (cond (!decide (v21=((s.length:Nat):Int))) true (decide ((ajM (1099511627776-aQ.1.Pos))<ba.1))) ( some ((⟨0,⟨0,0,[]⟩,[],[],⟨0,[]⟩,[],[],0⟩:bF),([]:List ajK),5)) ( some (aQ.1,v22,0))
def Q7(ba:Int×Int×Int)(s:ajK)(aQ:bF×Int)(ar:Int→(List ajK)→Int→Option (bF×(List ajK)×Int))(cc:Int)(bL:List ajK)(bx:Int):Option (bF×(List ajK)×Int):=cond (decide (bx<ba.1)) ( (GR n 4096 s cc).bind λdD=>cond (!decide (dD.2.1=0)) ( some ((⟨0,⟨0,0,[]⟩,[],[],⟨0,[]⟩,[],[],0⟩:bF),([]:List ajK),dD.2.1)) ( au (room (bL.length+([dD.1]:List ajK).length) 16)<|ar dD.2.2 (bL++([dD.1]:List ajK)) (ajM (bx+1)))) ( Q6 n ba s aQ cc bL)
def GS(n:Nat)(ba:Int×Int×Int)(s:ajK)(aQ:bF×Int):Nat→Int→(List ajK)→Int→Option (bF×(List ajK)×Int)
 | 0=>λ_ _ _=>none
 |m+1=>Q7 n ba s aQ (GS n ba s aQ m)
def Q8(s:ajK):Option (bF×(List ajK)×Int):=cond (decide (16384<((s.length:Nat):Int))) ( some ((⟨0,⟨0,0,[]⟩,[],[],⟨0,[]⟩,[],[],0⟩:bF),([]:List ajK),2)) ( (GR n 16384 s 0).bind λan=>cond (!decide (an.2.1=0)) ( some ((⟨0,⟨0,0,[]⟩,[],[],⟨0,[]⟩,[],[],0⟩:bF),([]:List ajK),an.2.1)) ( (Q5 n an.1).bind λaQ=>cond (!decide (aQ.2=0)) ( some ((⟨0,⟨0,0,[]⟩,[],[],⟨0,[]⟩,[],[],0⟩:bF),([]:List ajK),aQ.2)) ( (nX n s an.2.2 16384).bind λba=>cond (!decide (ba.2.2=0)) ( some ((⟨0,⟨0,0,[]⟩,[],[],⟨0,[]⟩,[],[],0⟩:bF),([]:List ajK),ba.2.2)) ( GS n ba s aQ n ba.2.1 ([]:List ajK) 0))))
def GT(n:Nat)(c:Int):ajO:=some (cond (decide (33≤c)) (decide (c≤126)) false)
def GU(n:Nat):ajO:=some true
def zV(s:ajK)(ar:Int→ajO)(v5:Int):ajO:=cond (decide (v5<((s.length:Nat):Int))) ( au (aP v5 s.length)<|(GT n (((s.getD (v5).toNat 0).toNat:Nat):Int)).bind λb4=>cond (!b4) ( some false) ( ar (ajM (v5+1)))) ( GU n)
def tb(n:Nat)(s:ajK):Nat→Int→ajO
 | 0=>λ_=>none
 |m+1=>zV n s (tb n s m)
def GV(s:ajK):ajO:=cond (decide (24<((s.length:Nat):Int))) ( some false) ( tb n s n 0)
def vY(s:ajK):ajO:=(GV n s).bind λae=>some ae
def tc(ag:Range):ajO:=(vY n ag.dY).bind λae=>Option.bind (cond ae (vY n ag.hU) (some default)) λan=>some (cond (cond ae an false) (cond (decide (ag.hU=([]:ajK))) true (!((Op.bytesLess ag.hU ag.dY)||(decide (ag.hU=ag.dY))))) false)
def zW(ag:Range)(k:ajK):ajO:=(tc n ag).bind λae=>some (cond (cond ae ((Op.bytesLess ag.dY k)||(decide (ag.dY=k))) false) (cond (decide (ag.hU=([]:ajK))) true (Op.bytesLess k ag.hU)) false)
def GW(n:Nat)(cY:List aI):Option ((List aI)×ajK×Int):=some (cY,([]:ajK),0)
def vZ(n:Nat)(ar:(List aI)→Int→Option ((List aI)×ajK×Int))(b7:Int)(aB:(List aI)×Int)(v12:Int)(ag:Range)(di:List aI):Option ((List aI)×ajK×Int):=ar di (ajM (v12+1))
def GX(b7:Int)(aB:(List aI)×Int)(ag:Range)(ar:(List aI)→Int→Option ((List aI)×ajK×Int))(v11:List aI)(v12:Int):Option ((List aI)×ajK×Int):=cond (decide (v12<((aB.1.length:Nat):Int))) ( au (aP v12 aB.1.length)<|(zW n ag ((ajN aB.1 v12).Key)).bind λer=>cond (!er) ( vZ n ar b7 aB v12 ag v11) ( cond (decide (b7≤((v11.length:Nat):Int))) ( some (v11,(ajN aB.1 v12).Key,0)) ( au (room (v11.length+([(⟨(ajN aB.1 v12).Key,⟨((ajN aB.1 v12).bo).Kind,((ajN aB.1 v12).bo).N,((ajN aB.1 v12).bo).S⟩⟩:aI)]:List aI).length) 48)<|vZ n ar b7 aB v12 ag (v11++([(⟨(ajN aB.1 v12).Key,⟨((ajN aB.1 v12).bo).Kind,((ajN aB.1 v12).bo).N,((ajN aB.1 v12).bo).S⟩⟩:aI)]:List aI))))) ( GW n v11)
def v7(n:Nat)(b7:Int)(aB:(List aI)×Int)(ag:Range):Nat→(List aI)→Int→Option ((List aI)×ajK×Int)
 | 0=>λ_ _=>none
 |m+1=>GX n b7 aB ag (v7 n b7 aB ag m)
def zX(s:ao)(at_:Int)(ag:Range)(b7:Int):Option ((List aI)×ajK×Int):=(tc n ag).bind λae=>cond (!ae) ( some (([]:List aI),([]:ajK),1)) ( (vr n s at_).bind λaB=>cond (!decide (aB.2=0)) ( some (([]:List aI),([]:ajK),aB.2)) ( v7 n b7 aB ag n ([]:List aI) 0))
def td(c:de)(s:ao)(dp:Int):Option (de×Int):=Option.bind (cond (!(decide (dp<1))) (sW n s) (some default)) λae=>Option.bind (cond (!(cond (decide (dp<1)) true (!ae))) (tc n (⟨c.Next,[]⟩:Range)) (some default)) λan=>cond (cond (cond (decide (dp<1)) true (!ae)) true (!an)) ( some ((⟨0,⟨0,⟨0,0,[]⟩,[],[],⟨0,[]⟩,[],[],0⟩,[],false,[],[]⟩:de),1)) ( (vW n c).bind λaQ=>cond c.cN ( some (aQ,0)) ( (zX n s c.bH (⟨c.Next,[]⟩:Range) dp).bind λba=>cond (!decide (ba.2.2=0)) ( some ((⟨0,⟨0,⟨0,0,[]⟩,[],[],⟨0,[]⟩,[],[],0⟩,[],false,[],[]⟩:de),ba.2.2)) ( au (room (aQ.c8.length+ba.1.length) 48)<|some ((⟨aQ.bH,aQ.Rest,ba.2.1,(decide (ba.2.1=([]:ajK))),(aQ.c8++ba.1),aQ.cU⟩:de),0))))
def zY(n:Nat)(k:ajK):Option aI:=some (⟨k,⟨1,1,[]⟩⟩:aI)
def Q9(n:Nat):ajO:=some true
def GY(s:ajK)(ar:Int→ajO)(v5:Int):ajO:=cond (decide (v5<((s.length:Nat):Int))) ( au (aP v5 s.length)<|au ((decide ((((s.getD (v5).toNat 0).toNat:Nat):Int)<32))||aP v5 s.length)<|cond (cond (decide ((((s.getD (v5).toNat 0).toNat:Nat):Int)<32)) true (decide (126<(((s.getD (v5).toNat 0).toNat:Nat):Int)))) ( some false) ( ar (ajM (v5+1)))) ( Q9 n)
def v8(n:Nat)(s:ajK):Nat→Int→ajO
 | 0=>λ_=>none
 |m+1=>GY n s (v8 n s m)
def zZ(s:ajK):ajO:=cond (decide (64<((s.length:Nat):Int))) ( some false) ( v8 n s n 0)
def pG(v:bB):ajO:=cond (decide (v.Kind=0)) ( some (cond (decide (v.N=0)) (decide (v.S=([]:ajK))) false)) ( cond (decide (v.Kind=1)) ( some (decide (v.S=([]:ajK)))) ( Option.bind (cond (cond (decide (v.Kind=2)) (decide (v.N=0)) false) (zZ n v.S) (some default)) λaB=>some (cond (cond (decide (v.Kind=2)) (decide (v.N=0)) false) aB false)))
def GZ(n:Nat)(k:ajK):ajO:=some (cond (decide (1≤((k.length:Nat):Int))) (decide (((k.length:Nat):Int)≤24)) false)
def z1(k:ajK)(ar:Int→ajO)(v3:Int):ajO:=cond (decide (v3<((k.length:Nat):Int))) ( au (aP v3 k.length)<|cond (cond (cond (cond (cond (cond (cond (decide ((((k.getD (v3).toNat 0).toNat:Nat):Int)<97)) true (decide (122<(((k.getD (v3).toNat 0).toNat:Nat):Int)))) (cond (decide ((((k.getD (v3).toNat 0).toNat:Nat):Int)<48)) true (decide (57<(((k.getD (v3).toNat 0).toNat:Nat):Int)))) false) (!decide ((((k.getD (v3).toNat 0).toNat:Nat):Int)=47)) false) (!decide ((((k.getD (v3).toNat 0).toNat:Nat):Int)=46)) false) (!decide ((((k.getD (v3).toNat 0).toNat:Nat):Int)=95)) false) (!decide ((((k.getD (v3).toNat 0).toNat:Nat):Int)=45)) false) ( some false) ( ar (ajM (v3+1)))) ( GZ n k)
def te(n:Nat)(k:ajK):Nat→Int→ajO
 | 0=>λ_=>none
 |m+1=>z1 n k (te n k m)
def rx(k:ajK):ajO:=te n k n 0
def Q'(n:Nat):ajO:=some true
def Q_(l:List aI)(ar:Int→ajO)(v6:Int):ajO:=cond (decide (v6<((l.length:Nat):Int))) ( au (aP v6 l.length)<|(rx n ((ajN l v6).Key)).bind λcq=>au ((!cq)||(!(decide (0<v6))||aP v6 l.length))<|au ((!cq)||(!(decide (0<v6))||aP (ajM (v6-1)) l.length))<|cond (cond (!cq) true (cond (decide (0<v6)) ((Op.bytesLess ((ajN l v6).Key) ((ajN l (ajM (v6-1))).Key))||(decide (((ajN l v6).Key)=((ajN l (ajM (v6-1))).Key)))) false)) ( some false) ( ar (ajM (v6+1)))) ( Q' n)
def G0(n:Nat)(l:List aI):Nat→Int→ajO
 | 0=>λ_=>none
 |m+1=>Q_ n l (G0 n l m)
def Ra(l:List aI):ajO:=G0 n l n 0
def Rb(l:List aI):ajO:=(Ra n l).bind λcq=>some cq
def Rc(l:List aI)(ar:Int→ajO)(v4:Int):ajO:=cond (decide (v4<((l.length:Nat):Int))) ( au (aP v4 l.length)<|(pG n ((ajN l v4).bo)).bind λba=>cond (!ba) ( some false) ( ar (ajM (v4+1)))) ( Rb n l)
def G1(n:Nat)(l:List aI):Nat→Int→ajO
 | 0=>λ_=>none
 |m+1=>Rc n l (G1 n l m)
def G2(l:List aI):ajO:=G1 n l n 0
def Rd(l:List aI):ajO:=(G2 n l).bind λba=>some ba
def Re(l:List aI)(ar:Int→ajO)(v3:Int):ajO:=cond (decide (v3<((l.length:Nat):Int))) ( au (aP v3 l.length)<|cond (decide (((ajN l v3).bo).Kind=0)) ( some false) ( ar (ajM (v3+1)))) ( Rd n l)
def G3(n:Nat)(l:List aI):Nat→Int→ajO
 | 0=>λ_=>none
 |m+1=>Re n l (G3 n l m)
def Rf(l:List aI):ajO:=G3 n l n 0
def Rg(n:Nat)(at_:Int)(bx:List Row):Option (ao×Int):=some ((⟨at_,at_,bx⟩:ao),0)
def Rh(l:List aI)(at_:Int)(ar:(List Row)→Int→Option (ao×Int))(bp:List Row)(v9:Int):Option (ao×Int):=cond (decide (v9<((l.length:Nat):Int))) ( au (aP v9 l.length)<|au (aP v9 l.length)<|au (room (bp.length+([(⟨(ajN l v9).Key,[⟨at_,⟨((ajN l v9).bo).Kind,((ajN l v9).bo).N,((ajN l v9).bo).S⟩⟩]⟩:Row)]:List Row).length) 40)<|ar (bp++([(⟨(ajN l v9).Key,[⟨at_,⟨((ajN l v9).bo).Kind,((ajN l v9).bo).N,((ajN l v9).bo).S⟩⟩]⟩:Row)]:List Row)) (ajM (v9+1))) ( Rg n at_ bp)
def G4(n:Nat)(l:List aI)(at_:Int):Nat→(List Row)→Int→Option (ao×Int)
 | 0=>λ_ _=>none
 |m+1=>Rh n l at_ (G4 n l at_ m)
def G5(l:List aI)(at_:Int):Option (ao×Int):=(Rf n l).bind λae=>cond (cond (cond (!ae) true (decide (at_<0))) true (decide (1099511627776<at_))) ( some ((⟨0,0,[]⟩:ao),1)) ( G4 n l at_ n ([]:List Row) 0)
def Ri:Option bF:=(zY n ([97]:ajK)).bind λae=>(zY n ([98]:ajK)).bind λan=>(zY n ([99]:ajK)).bind λaB=>(G5 n ([ae,an,aB]:List aI) 5).bind λaQ=>some (⟨5,aQ.1,[],[],⟨0,[⟨1,[],1,0,[]⟩]⟩,[],[],0⟩:bF)
def G6(n:Nat):ajO:=some true
def z6(a:List ajK)(b:List ajK)(ar:Int→ajO)(v5:Int):ajO:=cond (decide (v5<((a.length:Nat):Int))) ( au (aP v5 a.length)<|au (aP v5 b.length)<|cond (!(decide ((ajN a v5)=(ajN b v5)))) ( some false) ( ar (ajM (v5+1)))) ( G6 n)
def tf(n:Nat)(a:List ajK)(b:List ajK):Nat→Int→ajO
 | 0=>λ_=>none
 |m+1=>z6 n a b (tf n a b m)
def ry(a:List ajK)(b:List ajK):ajO:=cond (!decide (((a.length:Nat):Int)=((b.length:Nat):Int))) ( some false) ( tf n a b n 0)
def Rj(n:Nat)(l:List ajK)(k:ajK)(v6:Int):Option (List ajK):=au (!(decide (v6<((l.length:Nat):Int)))||aP v6 l.length)<|cond (cond (decide (v6<((l.length:Nat):Int))) (decide ((ajN l v6)=k)) false) ( some l) ( au (gb v6 l.length)<|au (room (([]:List ajK).length+(l.take (v6).toNat).length) 16)<|au (room ((([]:List ajK)++(l.take (v6).toNat)).length+([k]:List ajK).length) 16)<|au (gb v6 l.length)<|au (room (((([]:List ajK)++(l.take (v6).toNat))++([k]:List ajK)).length+(l.drop (v6).toNat).length) 16)<|some (((([]:List ajK)++(l.take (v6).toNat))++([k]:List ajK))++(l.drop (v6).toNat)))
def Rk(l:List ajK)(k:ajK)(ar:Int→Option (List ajK))(v3:Int):Option (List ajK):=au (!(decide (v3<((l.length:Nat):Int)))||aP v3 l.length)<|cond (cond (decide (v3<((l.length:Nat):Int))) (Op.bytesLess (ajN l v3) k) false) ( ar (ajM (v3+1))) ( Rj n l k v3)
def G7(n:Nat)(l:List ajK)(k:ajK):Nat→Int→Option (List ajK)
 | 0=>λ_=>none
 |m+1=>Rk n l k (G7 n l k m)
def Rl(l:List ajK)(k:ajK):Option (List ajK):=G7 n l k n 0
def G8(v:bB):ajO:=(pG n v).bind λae=>some ae
def G9(n:Nat):ajO:=some true
def z7(floor:Int)(last:Int)(ag:Row)(ar:Int→ajO)(v9:Int):ajO:=cond (decide (v9<((ag.bi.length:Nat):Int))) ( au (aP v9 ag.bi.length)<|(G8 n (⟨((ajN ag.bi v9).bo).Kind,((ajN ag.bi v9).bo).N,((ajN ag.bi v9).bo).S⟩:bB)).bind λbU=>cond (cond (cond (!bU) true (decide ((ajN ag.bi v9).bH<floor))) true (decide (last<(ajN ag.bi v9).bH))) ( some false) ( au (!(decide (0<v9))||aP (ajM (v9-1)) ag.bi.length)<|au (!(decide (0<v9))||((decide ((ajN ag.bi v9).bH≤(ajN ag.bi (ajM (v9-1))).bH))||aP (ajM (v9-1)) ag.bi.length))<|cond (cond (decide (0<v9)) (cond (decide ((ajN ag.bi v9).bH≤(ajN ag.bi (ajM (v9-1))).bH)) true ((decide (((ajN ag.bi v9).bo).Kind=((ajN ag.bi (ajM (v9-1))).bo).Kind))&&((decide (((ajN ag.bi v9).bo).N=((ajN ag.bi (ajM (v9-1))).bo).N))&&((decide (((ajN ag.bi v9).bo).S=((ajN ag.bi (ajM (v9-1))).bo).S))&&true)))) false) ( some false) ( ar (ajM (v9+1))))) ( G9 n)
def tg(n:Nat)(floor:Int)(last:Int)(ag:Row):Nat→Int→ajO
 | 0=>λ_=>none
 |m+1=>z7 n floor last ag (tg n floor last ag m)
def z8(ag:Row)(floor:Int)(last:Int):ajO:=(rx n ag.Key).bind λae=>au ((cond (!ae) true (decide (((ag.bi.length:Nat):Int)=0)))||aP 0 ag.bi.length)<|cond (cond (cond (!ae) true (decide (((ag.bi.length:Nat):Int)=0))) true (decide (((ag.bi.getD 0 default).bo).Kind=0))) ( some false) ( tg n floor last ag n 0)
def G'(n:Nat):ajO:=some true
def z'(s:ao)(ar:Int→ajO)(bu:Int):ajO:=cond (decide (bu<((s.Rows.length:Nat):Int))) ( au (aP bu s.Rows.length)<|(z8 n (ajN s.Rows bu) s.bm s.bk).bind λcE=>au ((!cE)||(!(decide (0<bu))||aP (ajM (bu-1)) s.Rows.length))<|au ((!cE)||(!(decide (0<bu))||aP bu s.Rows.length))<|cond (cond (!cE) true (cond (decide (0<bu)) (!(Op.bytesLess ((ajN s.Rows (ajM (bu-1))).Key) ((ajN s.Rows bu).Key))) false)) ( some false) ( ar (ajM (bu+1)))) ( G' n)
def th(n:Nat)(s:ao):Nat→Int→ajO
 | 0=>λ_=>none
 |m+1=>z' n s (th n s m)
def rz(s:ao):ajO:=cond (cond (cond (decide (s.bm<0)) true (decide (s.bk<s.bm))) true (decide (1099511627776<s.bk))) ( some false) ( th n s n 0)
def Rm(n:Nat)(key:ajK):Option Row:=some (⟨key,[]⟩:Row)
def Rn(key:ajK)(s:ao)(ar:Int→Option Row)(v4:Int):Option Row:=cond (decide (v4<((s.Rows.length:Nat):Int))) ( au (aP v4 s.Rows.length)<|cond (decide (((ajN s.Rows v4).Key)=key)) ( au (aP v4 s.Rows.length)<|some (ajN s.Rows v4)) ( ar (ajM (v4+1)))) ( Rm n key)
def G_(n:Nat)(key:ajK)(s:ao):Nat→Int→Option Row
 | 0=>λ_=>none
 |m+1=>Rn n key s (G_ n key s m)
def Ro(s:ao)(key:ajK):Option Row:=G_ n key s n 0
def Ha(n:Nat)(v23:Int)(v24:Int)(v25:ajK):Option bB:=some (⟨v23,v24,v25⟩:bB)
def z_(n:Nat)(ar:Int→Int→ajK→Int→Option bB)(at_:Int)(cc:Int)(ag:Row)(di:Int)(aW:Int)(cG:ajK):Option bB:=ar di aW cG (ajM (cc+1))
def Hb(at_:Int)(ag:Row)(ar:Int→Int→ajK→Int→Option bB)(v10:Int)(v11:Int)(v12:ajK)(cc:Int):Option bB:=cond (decide (cc<((ag.bi.length:Nat):Int))) ( au (aP cc ag.bi.length)<|cond (decide ((ajN ag.bi cc).bH≤at_)) ( au (aP cc ag.bi.length)<|z_ n ar at_ cc ag (((ajN ag.bi cc).bo).Kind) (((ajN ag.bi cc).bo).N) (((ajN ag.bi cc).bo).S)) ( z_ n ar at_ cc ag v10 v11 v12)) ( Ha n v10 v11 v12)
def v'(n:Nat)(at_:Int)(ag:Row):Nat→Int→Int→ajK→Int→Option bB
 | 0=>λ_ _ _ _=>none
 |m+1=>Hb n at_ ag (v' n at_ ag m)
def v_(ag:Row)(at_:Int):Option bB:=v' n at_ ag n 0 0 ([]:ajK) 0
def Rp(n:Nat)(s:ao)(at_:Int)(Aa:List Row):Option (ao×Int):=some ((⟨s.bm,at_,Aa⟩:ao),0)
def Hc(n:Nat)(dS:(List Row)→Int→Option (ao×Int))(at_:Int)(writes:List aI)(v26:List ajK)(gr:Int)(s:ao)(Ac:List Row):Option (ao×Int):=dS Ac (ajM (gr+1))
def Rq(dS:(List Row)→Int→Option (ao×Int))(at_:Int)(writes:List aI)(v26:List ajK)(gr:Int)(s:ao)(v53:List Row)(eJ:Row)(v76:List Version):Option (ao×Int):=cond (decide (0<((v76.length:Nat):Int))) ( au (room (v53.length+([(⟨eJ.Key,v76⟩:Row)]:List Row).length) 40)<|Hc n dS at_ writes v26 gr s (v53++([(⟨eJ.Key,v76⟩:Row)]:List Row))) ( Hc n dS at_ writes v26 gr s v53)
def Hd(n:Nat)(oH:(List Version)→Int→Option (ao×Int))(dS:(List Row)→Int→Option (ao×Int))(at_:Int)(writes:List aI)(v26:List ajK)(gr:Int)(fL:Int)(s:ao)(v53:List Row)(eJ:Row)(Ad:List Version):Option (ao×Int):=oH Ad (ajM (fL+1))
def Rr(dS:(List Row)→Int→Option (ao×Int))(at_:Int)(writes:List aI)(v26:List ajK)(gr:Int)(s:ao)(v53:List Row)(eJ:Row)(oH:(List Version)→Int→Option (ao×Int))(oI:List Version)(fL:Int):Option (ao×Int):=cond (decide (fL<((writes.length:Nat):Int))) ( au (aP fL writes.length)<|au (!(decide (((ajN writes fL).Key)=eJ.Key))||aP fL writes.length)<|Option.bind (cond (decide (((ajN writes fL).Key)=eJ.Key)) (v_ n eJ s.bk) (some default)) λkz=>cond (cond (decide (((ajN writes fL).Key)=eJ.Key)) (!((decide (((ajN writes fL).bo).Kind=kz.Kind))&&((decide (((ajN writes fL).bo).N=kz.N))&&((decide (((ajN writes fL).bo).S=kz.S))&&true)))) false) ( au (aP fL writes.length)<|au (room (oI.length+([(⟨at_,⟨((ajN writes fL).bo).Kind,((ajN writes fL).bo).N,((ajN writes fL).bo).S⟩⟩:Version)]:List Version).length) 40)<|Hd n oH dS at_ writes v26 gr fL s v53 eJ (oI++([(⟨at_,⟨((ajN writes fL).bo).Kind,((ajN writes fL).bo).N,((ajN writes fL).bo).S⟩⟩:Version)]:List Version))) ( Hd n oH dS at_ writes v26 gr fL s v53 eJ oI)) ( Rq n dS at_ writes v26 gr s v53 eJ oI)
def He(n:Nat)(dS:(List Row)→Int→Option (ao×Int))(at_:Int)(writes:List aI)(v26:List ajK)(gr:Int)(s:ao)(v53:List Row)(eJ:Row):Nat→(List Version)→Int→Option (ao×Int)
 | 0=>λ_ _=>none
 |m+1=>Rr n dS at_ writes v26 gr s v53 eJ (He n dS at_ writes v26 gr s v53 eJ m)
def Rs(at_:Int)(writes:List aI)(v26:List ajK)(s:ao)(dS:(List Row)→Int→Option (ao×Int))(v53:List Row)(gr:Int):Option (ao×Int):=cond (decide (gr<((v26.length:Nat):Int))) ( au (aP gr v26.length)<|(Ro n s (ajN v26 gr)).bind λeJ=>au (room (([]:List Version).length+eJ.bi.length) 40)<|He n dS at_ writes v26 gr s v53 eJ n (([]:List Version)++eJ.bi) 0) ( Rp n s at_ v53)
def Hf(n:Nat)(at_:Int)(writes:List aI)(v26:List ajK)(s:ao):Nat→(List Row)→Int→Option (ao×Int)
 | 0=>λ_ _=>none
 |m+1=>Rs n at_ writes v26 s (Hf n at_ writes v26 s m)
def Rt(at_:Int)(writes:List aI)(s:ao)(v26:List ajK):Option (ao×Int):=Hf n at_ writes v26 s n ([]:List Row) 0
def Ru(at_:Int)(writes:List aI)(s:ao)(Rv:Int→(List ajK)→Option (ao×Int))(v20:Int)(v21:List ajK):Option (ao×Int):=cond (decide (v20<((writes.length:Nat):Int))) ( au (aP v20 writes.length)<|(Rl n v21 ((ajN writes v20).Key)).bind λeH=>Rv (ajM (v20+1)) eH) ( Rt n at_ writes s v21)
def Hg(n:Nat)(at_:Int)(writes:List aI)(s:ao):Nat→Int→(List ajK)→Option (ao×Int)
 | 0=>λ_ _=>none
 |m+1=>Ru n at_ writes s (Hg n at_ writes s m)
def Rw(at_:Int)(writes:List aI)(s:ao)(bx:List ajK):Option (ao×Int):=Hg n at_ writes s n 0 bx
def Rx(at_:Int)(writes:List aI)(s:ao)(Ry:(List ajK)→Int→Option (ao×Int))(v9:List ajK)(v10:Int):Option (ao×Int):=cond (decide (v10<((s.Rows.length:Nat):Int))) ( au (aP v10 s.Rows.length)<|au (room (v9.length+([(ajN s.Rows v10).Key]:List ajK).length) 16)<|Ry (v9++([(ajN s.Rows v10).Key]:List ajK)) (ajM (v10+1))) ( Rw n at_ writes s v9)
def Hh(n:Nat)(at_:Int)(writes:List aI)(s:ao):Nat→(List ajK)→Int→Option (ao×Int)
 | 0=>λ_ _=>none
 |m+1=>Rx n at_ writes s (Hh n at_ writes s m)
def Rz(s:ao)(at_:Int)(writes:List aI):Option (ao×Int):=(rz n s).bind λae=>Option.bind (cond (!(!ae)) (G2 n writes) (some default)) λan=>cond (cond (!ae) true (!an)) ( some ((⟨0,0,[]⟩:ao),1)) ( cond (cond (decide (at_≤s.bk)) true (decide (1099511627776<at_))) ( some ((⟨0,0,[]⟩:ao),16)) ( Hh n at_ writes s n ([]:List ajK) 0))
def Hi(n:Nat)(k7:Expr→Expr→ajO):ajO:=some true
def Hj(k7:Expr→Expr→ajO)(a:Expr)(b:Expr)(ar:Int→ajO)(v6:Int):ajO:=cond (decide (v6<((a.az.length:Nat):Int))) ( au (aP v6 a.az.length)<|au (aP v6 b.az.length)<|(k7 (ajN a.az v6) (ajN b.az v6)).bind λcE=>cond (!cE) ( some false) ( ar (ajM (v6+1)))) ( Hi n k7)
def wa(n:Nat)(k7:Expr→Expr→ajO)(a:Expr)(b:Expr):Nat→Int→ajO
 | 0=>λ_=>none
 |m+1=>Hj n k7 a b (wa n k7 a b m)
def Hk(k7:Expr→Expr→ajO)(a:Expr)(b:Expr):ajO:=cond (cond (cond (cond (!decide (a.Op=b.Op)) true (!decide (a.N=b.N))) true (!(decide (a.S=b.S)))) true (!decide (((a.az.length:Nat):Int)=((b.az.length:Nat):Int)))) ( some false) ( wa n k7 a b n 0)
def rA:Nat→Expr→Expr→ajO
 | 0=>λ_ _=>none
 |m+1=>Hk m (rA m)
def Hl(n:Nat)(kB:(List Stmt)→(List Stmt)→ajO):ajO:=some true
def Hm(kB:(List Stmt)→(List Stmt)→ajO)(a:List Stmt)(b:List Stmt)(ar:Int→ajO)(v9:Int):ajO:=cond (decide (v9<((a.length:Nat):Int))) ( au (aP v9 a.length)<|au (aP v9 b.length)<|Option.bind (cond (!(cond (cond (!decide ((ajN a v9).Op=(ajN b v9).Op)) true (!(decide (((ajN a v9).Name)=((ajN b v9).Name))))) true (!decide ((ajN a v9).Max=(ajN b v9).Max)))) (rA n (⟨((ajN a v9).A).Op,((ajN a v9).A).N,((ajN a v9).A).S,((ajN a v9).A).az⟩:Expr) (⟨((ajN b v9).A).Op,((ajN b v9).A).N,((ajN b v9).A).S,((ajN b v9).A).az⟩:Expr)) (some default)) λeV=>Option.bind (cond (!(cond (cond (cond (!decide ((ajN a v9).Op=(ajN b v9).Op)) true (!(decide (((ajN a v9).Name)=((ajN b v9).Name))))) true (!decide ((ajN a v9).Max=(ajN b v9).Max))) true (!eV))) (rA n (⟨((ajN a v9).B).Op,((ajN a v9).B).N,((ajN a v9).B).S,((ajN a v9).B).az⟩:Expr) (⟨((ajN b v9).B).Op,((ajN b v9).B).N,((ajN b v9).B).S,((ajN b v9).B).az⟩:Expr)) (some default)) λdI=>Option.bind (cond (!(cond (cond (cond (cond (!decide ((ajN a v9).Op=(ajN b v9).Op)) true (!(decide (((ajN a v9).Name)=((ajN b v9).Name))))) true (!decide ((ajN a v9).Max=(ajN b v9).Max))) true (!eV)) true (!dI))) (kB ((ajN a v9).Body) ((ajN b v9).Body)) (some default)) λer=>Option.bind (cond (!(cond (cond (cond (cond (cond (!decide ((ajN a v9).Op=(ajN b v9).Op)) true (!(decide (((ajN a v9).Name)=((ajN b v9).Name))))) true (!decide ((ajN a v9).Max=(ajN b v9).Max))) true (!eV)) true (!dI)) true (!er))) (kB ((ajN a v9).c7) ((ajN b v9).c7)) (some default)) λdJ=>cond (cond (cond (cond (cond (cond (cond (!decide ((ajN a v9).Op=(ajN b v9).Op)) true (!(decide (((ajN a v9).Name)=((ajN b v9).Name))))) true (!decide ((ajN a v9).Max=(ajN b v9).Max))) true (!eV)) true (!dI)) true (!er)) true (!dJ)) ( some false) ( ar (ajM (v9+1)))) ( Hl n kB)
def wb(n:Nat)(kB:(List Stmt)→(List Stmt)→ajO)(a:List Stmt)(b:List Stmt):Nat→Int→ajO
 | 0=>λ_=>none
 |m+1=>Hm n kB a b (wb n kB a b m)
def Hn(kB:(List Stmt)→(List Stmt)→ajO)(a:List Stmt)(b:List Stmt):ajO:=cond (!decide (((a.length:Nat):Int)=((b.length:Nat):Int))) ( some false) ( wb n kB a b n 0)
def ti:Nat→(List Stmt)→(List Stmt)→ajO
 | 0=>λ_ _=>none
 |m+1=>Hn m (ti m)
def Ho(a:bj)(b:bj):ajO:=(ti n a.Body b.Body).bind λcE=>some cE
def Hp(a:bj)(b:bj)(ar:Int→ajO)(v5:Int):ajO:=cond (decide (v5<((a.Params.length:Nat):Int))) ( au (aP v5 a.Params.length)<|au (aP v5 b.Params.length)<|cond (!((decide ((ajN a.Params v5).Name=(ajN b.Params v5).Name))&&((decide ((ajN a.Params v5).hT=(ajN b.Params v5).hT))&&true))) ( some false) ( ar (ajM (v5+1)))) ( Ho n a b)
def wc(n:Nat)(a:bj)(b:bj):Nat→Int→ajO
 | 0=>λ_=>none
 |m+1=>Hp n a b (wc n a b m)
def Ae(a:bj)(b:bj):ajO:=cond (cond (!(decide (a.Name=b.Name))) true (!decide (((a.Params.length:Nat):Int)=((b.Params.length:Nat):Int)))) ( some false) ( wc n a b n 0)
def Hq(n:Nat):ajO:=some true
def Af(a:List bj)(b:List bj)(ar:Int→ajO)(v6:Int):ajO:=cond (decide (v6<((a.length:Nat):Int))) ( au (aP v6 a.length)<|au (aP v6 b.length)<|(Ae n (ajN a v6) (ajN b v6)).bind λcE=>cond (!cE) ( some false) ( ar (ajM (v6+1)))) ( Hq n)
def tj(n:Nat)(a:List bj)(b:List bj):Nat→Int→ajO
 | 0=>λ_=>none
 |m+1=>Af n a b (tj n a b m)
def Ag(a:List bj)(b:List bj):ajO:=cond (!decide (((a.length:Nat):Int)=((b.length:Nat):Int))) ( some false) ( tj n a b n 0)
def Hr(n:Nat):ajO:=some true
def Hs(n:Nat)(ar:Int→ajO)(v12:Int)(a:ao)(b:ao):ajO:=ar (ajM (v12+1))
def Ah(ar:Int→ajO)(v12:Int)(a:ao)(b:ao)(dS:Int→ajO)(cG:Int):ajO:=cond (decide (cG<((((ajN a.Rows v12).bi).length:Nat):Int))) ( au (aP cG ((ajN a.Rows v12).bi).length)<|au (aP cG ((ajN b.Rows v12).bi).length)<|cond (!((decide ((((ajN a.Rows v12).bi).getD (cG).toNat default).bH=(((ajN b.Rows v12).bi).getD (cG).toNat default).bH))&&((decide (((((ajN a.Rows v12).bi).getD (cG).toNat default).bo).Kind=((((ajN b.Rows v12).bi).getD (cG).toNat default).bo).Kind))&&((decide (((((ajN a.Rows v12).bi).getD (cG).toNat default).bo).N=((((ajN b.Rows v12).bi).getD (cG).toNat default).bo).N))&&((decide (((((ajN a.Rows v12).bi).getD (cG).toNat default).bo).S=((((ajN b.Rows v12).bi).getD (cG).toNat default).bo).S))&&true))))) ( some false) ( dS (ajM (cG+1)))) ( Hs n ar v12 a b)
def tk(n:Nat)(ar:Int→ajO)(v12:Int)(a:ao)(b:ao):Nat→Int→ajO
 | 0=>λ_=>none
 |m+1=>Ah n ar v12 a b (tk n ar v12 a b m)
def Ai(a:ao)(b:ao)(ar:Int→ajO)(v12:Int):ajO:=cond (decide (v12<((a.Rows.length:Nat):Int))) ( au (aP v12 a.Rows.length)<|au (aP v12 b.Rows.length)<|cond (cond (!(decide (((ajN a.Rows v12).Key)=((ajN b.Rows v12).Key)))) true (!decide (((((ajN a.Rows v12).bi).length:Nat):Int)=((((ajN b.Rows v12).bi).length:Nat):Int)))) ( some false) ( tk n ar v12 a b n 0)) ( Hr n)
def pH(n:Nat)(a:ao)(b:ao):Nat→Int→ajO
 | 0=>λ_=>none
 |m+1=>Ai n a b (pH n a b m)
def Aj(a:ao)(b:ao):ajO:=cond (cond (cond (!decide (a.bm=b.bm)) true (!decide (a.bk=b.bk))) true (!decide (((a.Rows.length:Nat):Int)=((b.Rows.length:Nat):Int)))) ( some false) ( pH n a b n 0)
def Ht(n:Nat):ajO:=some true
def Ak(a:bX)(b:bX)(ar:Int→ajO)(v5:Int):ajO:=cond (decide (v5<((a.a7.length:Nat):Int))) ( au (aP v5 a.a7.length)<|au (aP v5 b.a7.length)<|cond (!((decide ((ajN a.a7 v5).Id=(ajN b.a7 v5).Id))&&((decide ((ajN a.a7 v5).dY=(ajN b.a7 v5).dY))&&((decide ((ajN a.a7 v5).Node=(ajN b.a7 v5).Node))&&((decide ((ajN a.a7 v5).gQ=(ajN b.a7 v5).gQ))&&((decide ((ajN a.a7 v5).cN=(ajN b.a7 v5).cN))&&true)))))) ( some false) ( ar (ajM (v5+1)))) ( Ht n)
def tl(n:Nat)(a:bX)(b:bX):Nat→Int→ajO
 | 0=>λ_=>none
 |m+1=>Ak n a b (tl n a b m)
def Al(a:bX)(b:bX):ajO:=cond (cond (!decide (a.Version=b.Version)) true (!decide (((a.a7.length:Nat):Int)=((b.a7.length:Nat):Int)))) ( some false) ( tl n a b n 0)
def Hu(n:Nat):ajO:=some true
def Am(a:List bc)(b:List bc)(ar:Int→ajO)(v5:Int):ajO:=cond (decide (v5<((a.length:Nat):Int))) ( au (aP v5 a.length)<|au (aP v5 b.length)<|cond (!((decide ((ajN a v5).Key=(ajN b v5).Key))&&((decide ((ajN a v5).Count=(ajN b v5).Count))&&true))) ( some false) ( ar (ajM (v5+1)))) ( Hu n)
def tm(n:Nat)(a:List bc)(b:List bc):Nat→Int→ajO
 | 0=>λ_=>none
 |m+1=>Am n a b (tm n a b m)
def An(a:List bc)(b:List bc):ajO:=cond (!decide (((a.length:Nat):Int)=((b.length:Nat):Int))) ( some false) ( tm n a b n 0)
def Hv(a:eX)(b:eX):ajO:=Option.bind (cond (a.ep == b.ep) (ry n a.Reads b.Reads) (some default)) λae=>Option.bind (cond (cond (a.ep == b.ep) ae false) (ry n a.da b.da) (some default)) λan=>some (cond (cond (a.ep == b.ep) ae false) an false)
def Hw(n:Nat):ajO:=some true
def Ao(a:Request)(b:Request)(ar:Int→ajO)(v6:Int):ajO:=cond (decide (v6<((a.az.length:Nat):Int))) ( au (aP v6 a.az.length)<|au (aP v6 b.az.length)<|cond (!((decide ((ajN a.az v6).Kind=(ajN b.az v6).Kind))&&((decide ((ajN a.az v6).N=(ajN b.az v6).N))&&((decide ((ajN a.az v6).S=(ajN b.az v6).S))&&true)))) ( some false) ( ar (ajM (v6+1)))) ( Hw n)
def tn(n:Nat)(a:Request)(b:Request):Nat→Int→ajO
 | 0=>λ_=>none
 |m+1=>Ao n a b (tn n a b m)
def Ap(a:Request)(b:Request):ajO:=Option.bind (cond (!(cond (cond (cond (cond (!decide (a.Client=b.Client)) true (!decide (a.Seq=b.Seq))) true (!(decide (a.bj=b.bj)))) true (!(a.fD == b.fD))) true (!decide (((a.az.length:Nat):Int)=((b.az.length:Nat):Int))))) (Hv n a.bY b.bY) (some default)) λae=>cond (cond (cond (cond (cond (cond (!decide (a.Client=b.Client)) true (!decide (a.Seq=b.Seq))) true (!(decide (a.bj=b.bj)))) true (!(a.fD == b.fD))) true (!decide (((a.az.length:Nat):Int)=((b.az.length:Nat):Int)))) true (!ae)) ( some false) ( tn n a b n 0)
def Hx(n:Nat):ajO:=some true
def Aq(a:Outcome)(b:Outcome)(ar:Int→ajO)(v5:Int):ajO:=cond (decide (v5<((a.Out.length:Nat):Int))) ( au (aP v5 a.Out.length)<|au (aP v5 b.Out.length)<|cond (!((decide ((ajN a.Out v5).Kind=(ajN b.Out v5).Kind))&&((decide ((ajN a.Out v5).N=(ajN b.Out v5).N))&&((decide ((ajN a.Out v5).S=(ajN b.Out v5).S))&&true)))) ( some false) ( ar (ajM (v5+1)))) ( Hx n)
def tp(n:Nat)(a:Outcome)(b:Outcome):Nat→Int→ajO
 | 0=>λ_=>none
 |m+1=>Aq n a b (tp n a b m)
def wd(a:Outcome)(b:Outcome):ajO:=cond (cond (cond (!decide (a.Status=b.Status)) true (!decide (a.Code=b.Code))) true (!decide (((a.Out.length:Nat):Int)=((b.Out.length:Nat):Int)))) ( some false) ( tp n a b n 0)
def Hy(a:eT)(b:eT):ajO:=Option.bind (cond (cond (decide (a.Client=b.Client)) (decide (a.Seq=b.Seq)) false) (wd n a.Outcome b.Outcome) (some default)) λae=>some (cond (cond (decide (a.Client=b.Client)) (decide (a.Seq=b.Seq)) false) ae false)
def Hz(n:Nat):ajO:=some true
def Ar(a:List eT)(b:List eT)(ar:Int→ajO)(v6:Int):ajO:=cond (decide (v6<((a.length:Nat):Int))) ( au (aP v6 a.length)<|au (aP v6 b.length)<|(Hy n (ajN a v6) (ajN b v6)).bind λcE=>cond (!cE) ( some false) ( ar (ajM (v6+1)))) ( Hz n)
def tq(n:Nat)(a:List eT)(b:List eT):Nat→Int→ajO
 | 0=>λ_=>none
 |m+1=>Ar n a b (tq n a b m)
def As(a:List eT)(b:List eT):ajO:=cond (!decide (((a.length:Nat):Int)=((b.length:Nat):Int))) ( some false) ( tq n a b n 0)
def HA(n:Nat):ajO:=some true
def At(a:List b1)(b:List b1)(ar:Int→ajO)(v10:Int):ajO:=cond (decide (v10<((a.length:Nat):Int))) ( au (aP v10 a.length)<|au (aP v10 b.length)<|au ((!decide ((ajN a v10).Client=(ajN b v10).Client))||aP v10 a.length)<|au ((!decide ((ajN a v10).Client=(ajN b v10).Client))||aP v10 b.length)<|au ((cond (!decide ((ajN a v10).Client=(ajN b v10).Client)) true (!decide ((ajN a v10).Next=(ajN b v10).Next)))||aP v10 a.length)<|au ((cond (!decide ((ajN a v10).Client=(ajN b v10).Client)) true (!decide ((ajN a v10).Next=(ajN b v10).Next)))||aP v10 b.length)<|Option.bind (cond (!(cond (!decide ((ajN a v10).Client=(ajN b v10).Client)) true (!decide ((ajN a v10).Next=(ajN b v10).Next)))) (As n ((ajN a v10).c') ((ajN b v10).c')) (some default)) λeI=>cond (cond (cond (!decide ((ajN a v10).Client=(ajN b v10).Client)) true (!decide ((ajN a v10).Next=(ajN b v10).Next))) true (!eI)) ( some false) ( ar (ajM (v10+1)))) ( HA n)
def tr(n:Nat)(a:List b1)(b:List b1):Nat→Int→ajO
 | 0=>λ_=>none
 |m+1=>At n a b (tr n a b m)
def Au(a:List b1)(b:List b1):ajO:=cond (!decide (((a.length:Nat):Int)=((b.length:Nat):Int))) ( some false) ( tr n a b n 0)
def HB(n:Nat):ajO:=some true
def Av(a:bF)(b:bF)(ar:Int→ajO)(v11:Int):ajO:=cond (decide (v11<((a.Queue.length:Nat):Int))) ( au (aP v11 a.Queue.length)<|au (aP v11 b.Queue.length)<|(Ap n (ajN a.Queue v11) (ajN b.Queue v11)).bind λer=>cond (!er) ( some false) ( ar (ajM (v11+1)))) ( HB n)
def tu(n:Nat)(a:bF)(b:bF):Nat→Int→ajO
 | 0=>λ_=>none
 |m+1=>Av n a b (tu n a b m)
def we(a:bF)(b:bF):ajO:=Option.bind (cond (!(cond (!decide (a.Pos=b.Pos)) true (!decide (a.b6=b.b6)))) (Aj n a.ao b.ao) (some default)) λae=>Option.bind (cond (!(cond (cond (!decide (a.Pos=b.Pos)) true (!decide (a.b6=b.b6))) true (!ae))) (Ag n a.bI b.bI) (some default)) λan=>Option.bind (cond (!(cond (cond (cond (!decide (a.Pos=b.Pos)) true (!decide (a.b6=b.b6))) true (!ae)) true (!an))) (Au n a.bT b.bT) (some default)) λaB=>Option.bind (cond (!(cond (cond (cond (cond (!decide (a.Pos=b.Pos)) true (!decide (a.b6=b.b6))) true (!ae)) true (!an)) true (!aB))) (Al n a.Place b.Place) (some default)) λaQ=>Option.bind (cond (!(cond (cond (cond (cond (cond (!decide (a.Pos=b.Pos)) true (!decide (a.b6=b.b6))) true (!ae)) true (!an)) true (!aB)) true (!aQ))) (An n a.bc b.bc) (some default)) λbN=>cond (cond (cond (cond (cond (cond (cond (cond (!decide (a.Pos=b.Pos)) true (!decide (a.b6=b.b6))) true (!ae)) true (!an)) true (!aB)) true (!aQ)) true (!bN)) true (!decide (((a.Queue.length:Nat):Int)=((b.Queue.length:Nat):Int)))) ( some false) ( tu n a b n 0)
def HC(n:Nat)(aW:List aI):Option (List aI):=some aW
def wg(n:Nat)(ar:(List aI)→Int→Option (List aI))(at_:Int)(v9:Int)(s:ao)(bL:List aI):Option (List aI):=ar bL (ajM (v9+1))
def HD(at_:Int)(s:ao)(ar:(List aI)→Int→Option (List aI))(bp:List aI)(v9:Int):Option (List aI):=cond (decide (v9<((s.Rows.length:Nat):Int))) ( au (aP v9 s.Rows.length)<|(v_ n (ajN s.Rows v9) at_).bind λbU=>cond (!decide (bU.Kind=0)) ( au (aP v9 s.Rows.length)<|au (room (bp.length+([(⟨(ajN s.Rows v9).Key,bU⟩:aI)]:List aI).length) 48)<|wg n ar at_ v9 s (bp++([(⟨(ajN s.Rows v9).Key,bU⟩:aI)]:List aI))) ( wg n ar at_ v9 s bp)) ( HC n bp)
def tv(n:Nat)(at_:Int)(s:ao):Nat→(List aI)→Int→Option (List aI)
 | 0=>λ_ _=>none
 |m+1=>HD n at_ s (tv n at_ s m)
def HE(s:ao)(at_:Int):Option (List aI):=tv n at_ s n ([]:List aI) 0
def wh(s:ao)(at_:Int):Option ((List aI)×Int):=(rz n s).bind λae=>cond (!ae) ( some (([]:List aI),1)) ( cond (cond (decide (at_<s.bm)) true (decide (s.bk<at_))) ( some (([]:List aI),15)) ( (HE n s at_).bind λaQ=>some (aQ,0)))
def RA(n:Nat):ajO:=some true
def RB(s:ajK)(ar:Int→ajO)(v5:Int):ajO:=cond (decide (v5<((s.length:Nat):Int))) ( au (aP v5 s.length)<|au ((decide ((((s.getD (v5).toNat 0).toNat:Nat):Int)<33))||aP v5 s.length)<|cond (cond (decide ((((s.getD (v5).toNat 0).toNat:Nat):Int)<33)) true (decide (126<(((s.getD (v5).toNat 0).toNat:Nat):Int)))) ( some false) ( ar (ajM (v5+1)))) ( RA n)
def HF(n:Nat)(s:ajK):Nat→Int→ajO
 | 0=>λ_=>none
 |m+1=>RB n s (HF n s m)
def HG(s:ajK):ajO:=cond (decide (24<((s.length:Nat):Int))) ( some false) ( HF n s n 0)
def RC(x:Part)(next:ajK)(last:Bool):ajO:=cond (decide (x.gQ=0)) ( some (decide (x.cN=([]:ajK)))) ( Option.bind (cond (cond (cond (decide (1≤x.gQ)) (decide (x.gQ≤16)) false) (!decide (x.gQ=x.Node)) false) (HG n x.cN) (some default)) λan=>some (cond (cond (cond (cond (cond (decide (1≤x.gQ)) (decide (x.gQ≤16)) false) (!decide (x.gQ=x.Node)) false) an false) (!(Op.bytesLess x.cN x.dY)) false) (cond last true (Op.bytesLess x.cN next)) false))
def RD(n:Nat):ajO:=some true
def RE(n:Nat)(ar:Int→ajO)(p:bX)(bx:Int):ajO:=ar (ajM (bx+1))
def RF(ar:Int→ajO)(p:bX)(bx:Int)(m6:Int→ajO)(v24:Int):ajO:=cond (decide (v24<bx)) ( au (aP v24 p.a7.length)<|cond (decide ((ajN p.a7 v24).Id=(ajN p.a7 bx).Id)) ( some false) ( m6 (ajM (v24+1)))) ( RE n ar p bx)
def HH(n:Nat)(ar:Int→ajO)(p:bX)(bx:Int):Nat→Int→ajO
 | 0=>λ_=>none
 |m+1=>RF n ar p bx (HH n ar p bx m)
def HI(ar:Int→ajO)(p:bX)(bx:Int)(cG:ajK):ajO:=(HG n ((ajN p.a7 bx).dY)).bind λeC=>au ((!eC)||(!(decide (0<bx))||aP (ajM (bx-1)) p.a7.length))<|Option.bind (cond (!(cond (cond (cond (cond (cond (!eC) true (cond (decide (0<bx)) ((Op.bytesLess ((ajN p.a7 bx).dY) ((ajN p.a7 (ajM (bx-1))).dY))||(decide (((ajN p.a7 bx).dY)=((ajN p.a7 (ajM (bx-1))).dY)))) false)) true (decide ((ajN p.a7 bx).Id<1))) true (decide (1099511627776<(ajN p.a7 bx).Id))) true (decide ((ajN p.a7 bx).Node<1))) true (decide (16<(ajN p.a7 bx).Node)))) (RC n (ajN p.a7 bx) cG (decide ((ajM (bx+1))=((p.a7.length:Nat):Int)))) (some default)) λeU=>cond (cond (cond (cond (cond (cond (cond (!eC) true (cond (decide (0<bx)) ((Op.bytesLess ((ajN p.a7 bx).dY) ((ajN p.a7 (ajM (bx-1))).dY))||(decide (((ajN p.a7 bx).dY)=((ajN p.a7 (ajM (bx-1))).dY)))) false)) true (decide ((ajN p.a7 bx).Id<1))) true (decide (1099511627776<(ajN p.a7 bx).Id))) true (decide ((ajN p.a7 bx).Node<1))) true (decide (16<(ajN p.a7 bx).Node))) true (!eU)) ( some false) ( HH n ar p bx n 0)
def RG(p:bX)(ar:Int→ajO)(bx:Int):ajO:=cond (decide (bx<((p.a7.length:Nat):Int))) ( au (aP bx p.a7.length)<|cond (decide ((ajM (bx+1))<((p.a7.length:Nat):Int))) ( au (aP (ajM (bx+1)) p.a7.length)<|HI n ar p bx ((ajN p.a7 (ajM (bx+1))).dY)) ( HI n ar p bx ([]:ajK))) ( RD n)
def HJ(n:Nat)(p:bX):Nat→Int→ajO
 | 0=>λ_=>none
 |m+1=>RG n p (HJ n p m)
def RH(p:bX):ajO:=au ((cond (cond (cond (decide (p.Version<0)) true (decide (1099511627776<p.Version))) true (decide (((p.a7.length:Nat):Int)<1))) true (decide (16<((p.a7.length:Nat):Int))))||aP 0 p.a7.length)<|cond (cond (cond (cond (cond (decide (p.Version<0)) true (decide (1099511627776<p.Version))) true (decide (((p.a7.length:Nat):Int)<1))) true (decide (16<((p.a7.length:Nat):Int)))) true (!(decide (((p.a7.getD 0 default).dY)=([]:ajK))))) ( some false) ( HJ n p n 0)
def RI(n:Nat)(l:List bc):ajO:=some (decide (((l.length:Nat):Int)≤32))
def RJ(l:List bc)(ar:Int→ajO)(bp:Int):ajO:=cond (decide (bp<((l.length:Nat):Int))) ( au (aP bp l.length)<|(rx n ((ajN l bp).Key)).bind λdZ=>au ((!dZ)||aP bp l.length)<|au ((cond (!dZ) true (decide ((ajN l bp).Count<1)))||aP bp l.length)<|au ((cond (cond (!dZ) true (decide ((ajN l bp).Count<1))) true (decide (1099511627776<(ajN l bp).Count)))||(!(decide (0<bp))||aP bp l.length))<|au ((cond (cond (!dZ) true (decide ((ajN l bp).Count<1))) true (decide (1099511627776<(ajN l bp).Count)))||(!(decide (0<bp))||aP (ajM (bp-1)) l.length))<|cond (cond (cond (cond (!dZ) true (decide ((ajN l bp).Count<1))) true (decide (1099511627776<(ajN l bp).Count))) true (cond (decide (0<bp)) ((Op.bytesLess ((ajN l bp).Key) ((ajN l (ajM (bp-1))).Key))||(decide (((ajN l bp).Key)=((ajN l (ajM (bp-1))).Key)))) false)) ( some false) ( ar (ajM (bp+1)))) ( RI n l)
def HK(n:Nat)(l:List bc):Nat→Int→ajO
 | 0=>λ_=>none
 |m+1=>RJ n l (HK n l m)
def RK(l:List bc):ajO:=HK n l n 0
def RL(n:Nat)(l:List bB):ajO:=some (decide (((l.length:Nat):Int)≤16))
def RM(l:List bB)(ar:Int→ajO)(v5:Int):ajO:=cond (decide (v5<((l.length:Nat):Int))) ( au (aP v5 l.length)<|(pG n (ajN l v5)).bind λb4=>au ((!b4)||aP v5 l.length)<|cond (cond (!b4) true (decide ((ajN l v5).Kind=0))) ( some false) ( ar (ajM (v5+1)))) ( RL n l)
def HL(n:Nat)(l:List bB):Nat→Int→ajO
 | 0=>λ_=>none
 |m+1=>RM n l (HL n l m)
def RN(l:List bB):ajO:=HL n l n 0
def RO(o:Outcome):ajO:=cond (decide (o.Status=1)) ( Option.bind (cond (decide (o.Code=0)) (RN n o.Out) (some default)) λan=>some (cond (decide (o.Code=0)) an false)) ( some (cond (cond (cond (decide (o.Status=2)) (decide (0≤o.Code)) false) (decide (o.Code≤1009)) false) (decide (((o.Out.length:Nat):Int)=0)) false))
def RP(n:Nat)(next:Int):ajP:=some (cond (decide ((ajM (next-1))<8)) (ajM (next-1)) 8)
def RQ(n:Nat):ajO:=some true
def RR(s:b1)(ar:Int→ajO)(v6:Int):ajO:=cond (decide (v6<((s.c'.length:Nat):Int))) ( au (aP v6 s.c'.length)<|Option.bind (cond (!(cond (!decide ((ajN s.c' v6).Client=s.Client)) true (!decide ((ajN s.c' v6).Seq=(ajM (s.Next-(ajM (((s.c'.length:Nat):Int)-v6)))))))) (RO n (⟨((ajN s.c' v6).Outcome).Status,((ajN s.c' v6).Outcome).Code,((ajN s.c' v6).Outcome).Out⟩:Outcome)) (some default)) λcq=>cond (cond (cond (!decide ((ajN s.c' v6).Client=s.Client)) true (!decide ((ajN s.c' v6).Seq=(ajM (s.Next-(ajM (((s.c'.length:Nat):Int)-v6))))))) true (!cq)) ( some false) ( ar (ajM (v6+1)))) ( RQ n)
def HM(n:Nat)(s:b1):Nat→Int→ajO
 | 0=>λ_=>none
 |m+1=>RR n s (HM n s m)
def RS(s:b1):ajO:=Option.bind (cond (!(cond (cond (cond (decide (s.Client<1)) true (decide (32<s.Client))) true (decide (s.Next<1))) true (decide (1099511627776<s.Next)))) (RP n s.Next) (some default)) λae=>cond (cond (cond (cond (cond (decide (s.Client<1)) true (decide (32<s.Client))) true (decide (s.Next<1))) true (decide (1099511627776<s.Next))) true (!decide (((s.c'.length:Nat):Int)=ae))) ( some false) ( HM n s n 0)
def RT(n:Nat):ajO:=some true
def RU(l:List b1)(ar:Int→ajO)(v6:Int):ajO:=cond (decide (v6<((l.length:Nat):Int))) ( au (aP v6 l.length)<|(RS n (ajN l v6)).bind λcq=>au ((!cq)||(!(decide (0<v6))||aP v6 l.length))<|au ((!cq)||(!(decide (0<v6))||aP (ajM (v6-1)) l.length))<|cond (cond (!cq) true (cond (decide (0<v6)) (decide ((ajN l v6).Client≤(ajN l (ajM (v6-1))).Client)) false)) ( some false) ( ar (ajM (v6+1)))) ( RT n)
def HN(n:Nat)(l:List b1):Nat→Int→ajO
 | 0=>λ_=>none
 |m+1=>RU n l (HN n l m)
def RV(l:List b1):ajO:=HN n l n 0
def RW(n:Nat):Option (List ajK):=some ([([112,114,111,99]:ajK),([108,101,116]:ajK),([112,117,116]:ajK),([100,101,108,101,116,101]:ajK),([105,102]:ajK),([101,108,115,101]:ajK),([102,111,114]:ajK),([116,111]:ajK),([109,97,120]:ajK),([101,109,105,116]:ajK),([97,98,111,114,116]:ajK),([110,111,116]:ajK),([97,110,100]:ajK),([111,114]:ajK),([105,110,116]:ajK),([115,116,114]:ajK),([98,111,111,108]:ajK),([116,101,120,116]:ajK),([108,101,110]:ajK),([103,101,116,105,110,116]:ajK),([103,101,116,115,116,114]:ajK),([104,97,115]:ajK),([110,111,119]:ajK),([114,97,110,100,111,109]:ajK),([110,111,100,101]:ajK)]:List ajK)
def RX(n:Nat):ajO:=some false
def RY(l:List ajK)(s:ajK)(ar:Int→ajO)(v3:Int):ajO:=cond (decide (v3<((l.length:Nat):Int))) ( au (aP v3 l.length)<|cond (decide ((ajN l v3)=s)) ( some true) ( ar (ajM (v3+1)))) ( RX n)
def HO(n:Nat)(l:List ajK)(s:ajK):Nat→Int→ajO
 | 0=>λ_=>none
 |m+1=>RY n l s (HO n l s m)
def RZ(l:List ajK)(s:ajK):ajO:=HO n l s n 0
def R0(s:ajK):ajO:=(RW n).bind λae=>(RZ n ae s).bind λan=>some an
def HP(n:Nat)(c:Int):ajO:=some (cond (decide (97≤c)) (decide (c≤122)) false)
def R1(n:Nat)(c:Int):ajO:=some (cond (decide (48≤c)) (decide (c≤57)) false)
def R2(c:Int):ajO:=(HP n c).bind λae=>Option.bind (cond (!ae) (R1 n c) (some default)) λan=>some (cond (cond ae true an) true (decide (c=95)))
def R3(n:Nat)(bp:Int):ajP:=some bp
def R4(s:ajK)(ar:Int→ajP)(v4:Int):ajP:=au (!(decide (v4<((s.length:Nat):Int)))||aP v4 s.length)<|Option.bind (cond (decide (v4<((s.length:Nat):Int))) (R2 n (((s.getD (v4).toNat 0).toNat:Nat):Int)) (some default)) λba=>cond (cond (decide (v4<((s.length:Nat):Int))) ba false) ( ar (ajM (v4+1))) ( R3 n v4)
def HQ(n:Nat)(s:ajK):Nat→Int→ajP
 | 0=>λ_=>none
 |m+1=>R4 n s (HQ n s m)
def R5(s:ajK)(at_:Int):ajP:=HQ n s n at_
def tw(s:ajK):ajO:=au (!(cond (decide (1≤((s.length:Nat):Int))) (decide (((s.length:Nat):Int)≤16)) false)||aP 0 s.length)<|Option.bind (cond (cond (decide (1≤((s.length:Nat):Int))) (decide (((s.length:Nat):Int)≤16)) false) (HP n (((s.getD 0 0).toNat:Nat):Int)) (some default)) λan=>Option.bind (cond (cond (cond (decide (1≤((s.length:Nat):Int))) (decide (((s.length:Nat):Int)≤16)) false) an false) (R5 n s 0) (some default)) λaB=>Option.bind (cond (cond (cond (cond (decide (1≤((s.length:Nat):Int))) (decide (((s.length:Nat):Int)≤16)) false) an false) (decide (aB=((s.length:Nat):Int))) false) (R0 n s) (some default)) λaQ=>some (cond (cond (cond (cond (decide (1≤((s.length:Nat):Int))) (decide (((s.length:Nat):Int)≤16)) false) an false) (decide (aB=((s.length:Nat):Int))) false) (!aQ) false)
def wi(n:Nat)(e:Expr):ajO:=some (cond (cond (cond (decide (e.Op=0)) (decide (e.N=0)) false) (decide (e.S=([]:ajK))) false) (decide (((e.az.length:Nat):Int)=0)) false)
def R6(n:Nat)(k8:(List ct)→Expr→Bool→Option (List ct))(cc:List ct):Option (List ct):=some cc
def R7(k8:(List ct)→Expr→Bool→Option (List ct))(e:Expr)(ar:(List ct)→Int→Option (List ct))(bu:List ct)(bp:Int):Option (List ct):=cond (cond (decide (bp<((e.az.length:Nat):Int))) (decide (((bu.length:Nat):Int)≤400)) false) ( au (aP bp e.az.length)<|(k8 bu (ajN e.az bp) false).bind λdZ=>ar dZ (ajM (bp+1))) ( R6 n k8 bu)
def HR(n:Nat)(k8:(List ct)→Expr→Bool→Option (List ct))(e:Expr):Nat→(List ct)→Int→Option (List ct)
 | 0=>λ_ _=>none
 |m+1=>R7 n k8 e (HR n k8 e m)
def R8(k8:(List ct)→Expr→Bool→Option (List ct))(out:List ct)(e:Expr)(root:Bool):Option (List ct):=cond (decide (400<((out.length:Nat):Int))) ( some out) ( au (room (out.length+([(⟨false,⟨0,[],0,⟨0,0,[],[]⟩,⟨0,0,[],[]⟩,[],[]⟩,0,e,root⟩:ct)]:List ct).length) 272)<|HR n k8 e n (out++([(⟨false,⟨0,[],0,⟨0,0,[],[]⟩,⟨0,0,[],[]⟩,[],[]⟩,0,e,root⟩:ct)]:List ct)) 0)
def Aw:Nat→(List ct)→Expr→Bool→Option (List ct)
 | 0=>λ_ _ _=>none
 |m+1=>R8 m (Aw m)
def R9(n:Nat)(gZ:(List ct)→(List Stmt)→Int→Option (List ct))(iv:List ct):Option (List ct):=some iv
def R'(n:Nat)(gZ:(List ct)→(List Stmt)→Int→Option (List ct))(ar:(List ct)→Int→Option (List ct))(l:List Stmt)(depth:Int)(v21:Int)(gY:List ct):Option (List ct):=ar gY (ajM (v21+1))
def HS(gZ:(List ct)→(List Stmt)→Int→Option (List ct))(ar:(List ct)→Int→Option (List ct))(l:List Stmt)(depth:Int)(v21:Int)(oF:List ct):Option (List ct):=au (aP v21 l.length)<|(gZ oF ((ajN l v21).Body) (ajM (depth+1))).bind λlG=>au (aP v21 l.length)<|(gZ lG ((ajN l v21).c7) (ajM (depth+1))).bind λro=>R' n gZ ar l depth v21 ro
def HT(gZ:(List ct)→(List Stmt)→Int→Option (List ct))(ar:(List ct)→Int→Option (List ct))(l:List Stmt)(depth:Int)(v21:Int)(v28:List ct):Option (List ct):=au (aP v21 l.length)<|(wi n ((ajN l v21).B)).bind λhz=>cond (!hz) ( au (aP v21 l.length)<|(Aw n v28 ((ajN l v21).B) true).bind λk1=>HS n gZ ar l depth v21 k1) ( HS n gZ ar l depth v21 v28)
def R_(gZ:(List ct)→(List Stmt)→Int→Option (List ct))(l:List Stmt)(depth:Int)(ar:(List ct)→Int→Option (List ct))(v20:List ct)(v21:Int):Option (List ct):=cond (cond (decide (v21<((l.length:Nat):Int))) (decide (((v20.length:Nat):Int)≤400)) false) ( au (aP v21 l.length)<|au (room (v20.length+([(⟨true,⟨(ajN l v21).Op,(ajN l v21).Name,(ajN l v21).Max,⟨((ajN l v21).A).Op,((ajN l v21).A).N,((ajN l v21).A).S,((ajN l v21).A).az⟩,⟨((ajN l v21).B).Op,((ajN l v21).B).N,((ajN l v21).B).S,((ajN l v21).B).az⟩,(ajN l v21).Body,(ajN l v21).c7⟩,depth,⟨0,0,[],[]⟩,false⟩:ct)]:List ct).length) 272)<|au (aP v21 l.length)<|(wi n ((ajN l v21).A)).bind λe9=>cond (!e9) ( au (aP v21 l.length)<|(Aw n (v20++([(⟨true,⟨(ajN l v21).Op,(ajN l v21).Name,(ajN l v21).Max,⟨((ajN l v21).A).Op,((ajN l v21).A).N,((ajN l v21).A).S,((ajN l v21).A).az⟩,⟨((ajN l v21).B).Op,((ajN l v21).B).N,((ajN l v21).B).S,((ajN l v21).B).az⟩,(ajN l v21).Body,(ajN l v21).c7⟩,depth,⟨0,0,[],[]⟩,false⟩:ct)]:List ct)) ((ajN l v21).A) true).bind λdC=>HT n gZ ar l depth v21 dC) ( HT n gZ ar l depth v21 (v20++([(⟨true,⟨(ajN l v21).Op,(ajN l v21).Name,(ajN l v21).Max,⟨((ajN l v21).A).Op,((ajN l v21).A).N,((ajN l v21).A).S,((ajN l v21).A).az⟩,⟨((ajN l v21).B).Op,((ajN l v21).B).N,((ajN l v21).B).S,((ajN l v21).B).az⟩,(ajN l v21).Body,(ajN l v21).c7⟩,depth,⟨0,0,[],[]⟩,false⟩:ct)]:List ct)))) ( R9 n gZ v20)
def HU(n:Nat)(gZ:(List ct)→(List Stmt)→Int→Option (List ct))(l:List Stmt)(depth:Int):Nat→(List ct)→Int→Option (List ct)
 | 0=>λ_ _=>none
 |m+1=>R_ n gZ l depth (HU n gZ l depth m)
def Sa(gZ:(List ct)→(List Stmt)→Int→Option (List ct))(out:List ct)(l:List Stmt)(depth:Int):Option (List ct):=HU n gZ l depth n out 0
def HV:Nat→(List ct)→(List Stmt)→Int→Option (List ct)
 | 0=>λ_ _ _=>none
 |m+1=>Sa m (HV m)
def Sb(p:bj):Option (List ct):=(HV n ([]:List ct) p.Body 1).bind λae=>some ae
def Sc(n:Nat):ajP:=some 0
def Sd(n:Nat)(ar:Int→ajP)(l:List Param)(bL:Int):ajP:=ar (ajM (bL+1))
def Se(ar:Int→ajP)(l:List Param)(bL:Int)(dS:Int→ajP)(v22:Int):ajP:=cond (decide (v22<bL)) ( au (aP v22 l.length)<|au (aP bL l.length)<|cond (decide (((ajN l v22).Name)=((ajN l bL).Name))) ( some 8) ( dS (ajM (v22+1)))) ( Sd n ar l bL)
def HW(n:Nat)(ar:Int→ajP)(l:List Param)(bL:Int):Nat→Int→ajP
 | 0=>λ_=>none
 |m+1=>Se n ar l bL (HW n ar l bL m)
def Sf(l:List Param)(ar:Int→ajP)(bL:Int):ajP:=cond (decide (bL<((l.length:Nat):Int))) ( au (aP bL l.length)<|(tw n ((ajN l bL).Name)).bind λdD=>cond (!dD) ( some 7) ( au (aP bL l.length)<|au ((decide ((ajN l bL).hT<1))||aP bL l.length)<|cond (cond (decide ((ajN l bL).hT<1)) true (decide (3<(ajN l bL).hT))) ( some 10) ( HW n ar l bL n 0))) ( Sc n)
def HX(n:Nat)(l:List Param):Nat→Int→ajP
 | 0=>λ_=>none
 |m+1=>Sf n l (HX n l m)
def Sg(l:List Param):ajP:=cond (decide (6<((l.length:Nat):Int))) ( some 2) ( HX n l n 0)
def Sh(n:Nat)(op:Int):ajP:=cond (cond (decide (4≤op)) (decide (op≤19)) false) ( some 2) ( some (-1))
def pI(op:Int)(v2:Bool):ajP:=cond v2 ( some 1) ( Sh n op)
def rB(op:Int)(v1:Bool):ajP:=cond v1 ( some 0) ( cond (decide (op=9)) ( pI n op (decide (op=9))) ( cond (decide (op=18)) ( pI n op (decide (op=18))) ( cond (decide (op=20)) ( pI n op (decide (op=20))) ( cond (decide (op=21)) ( pI n op (decide (op=21))) ( cond (decide (op=22)) ( pI n op (decide (op=22))) ( cond (decide (op=23)) ( pI n op (decide (op=23))) ( pI n op (decide (op=24)))))))))
def HY(op:Int):ajP:=cond (decide (op=1)) ( rB n op (decide (op=1))) ( cond (decide (op=2)) ( rB n op (decide (op=2))) ( cond (decide (op=3)) ( rB n op (decide (op=3))) ( cond (decide (op=25)) ( rB n op (decide (op=25))) ( cond (decide (op=26)) ( rB n op (decide (op=26))) ( rB n op (decide (op=27)))))))
def Si(n:Nat):ajO:=some true
def Sj(s:ajK)(ar:Int→ajO)(v5:Int):ajO:=cond (decide (v5<((s.length:Nat):Int))) ( au (aP v5 s.length)<|au ((decide ((((s.getD (v5).toNat 0).toNat:Nat):Int)<32))||aP v5 s.length)<|cond (cond (decide ((((s.getD (v5).toNat 0).toNat:Nat):Int)<32)) true (decide (126<(((s.getD (v5).toNat 0).toNat:Nat):Int)))) ( some false) ( ar (ajM (v5+1)))) ( Si n)
def HZ(n:Nat)(s:ajK):Nat→Int→ajO
 | 0=>λ_=>none
 |m+1=>Sj n s (HZ n s m)
def Sk(s:ajK):ajO:=cond (decide (64<((s.length:Nat):Int))) ( some false) ( HZ n s n 0)
def Sl(e:Expr)(depth:Int):ajP:=(HY n e.Op).bind λae=>cond (cond (cond (decide (ae<0)) true (cond (!decide (e.Op=1)) (!decide (e.N=0)) false)) true (cond (cond (!decide (e.Op=2)) (!decide (e.Op=3)) false) (!(decide (e.S=([]:ajK)))) false)) ( some 1) ( Option.bind (cond (decide (e.Op=3)) (tw n e.S) (some default)) λaB=>cond (cond (decide (e.Op=3)) (!aB) false) ( some 7) ( Option.bind (cond ((!(decide (e.N<0)))&&(decide (e.Op=2))) (Sk n e.S) (some default)) λbN=>Option.bind (cond (!(cond (decide (e.N<0)) true (cond (decide (e.Op=2)) (!bN) false))) (HY n e.Op) (some default)) λba=>cond (cond (cond (decide (e.N<0)) true (cond (decide (e.Op=2)) (!bN) false)) true (!decide (((e.az.length:Nat):Int)=ba))) ( some 1) ( cond (decide (12<depth)) ( some 2) ( some 0))))
def Sm(n:Nat)(k9:Expr→Int→ajP):ajP:=some 0
def Sn(k9:Expr→Int→ajP)(depth:Int)(e:Expr)(ar:Int→ajP)(v6:Int):ajP:=cond (decide (v6<((e.az.length:Nat):Int))) ( au (aP v6 e.az.length)<|(k9 (ajN e.az v6) (ajM (depth+1))).bind λcq=>cond (!decide (cq=0)) ( some cq) ( ar (ajM (v6+1)))) ( Sm n k9)
def H0(n:Nat)(k9:Expr→Int→ajP)(depth:Int)(e:Expr):Nat→Int→ajP
 | 0=>λ_=>none
 |m+1=>Sn n k9 depth e (H0 n k9 depth e m)
def So(k9:Expr→Int→ajP)(e:Expr)(depth:Int):ajP:=(Sl n e depth).bind λae=>cond (!decide (ae=0)) ( some ae) ( H0 n k9 depth e n 0)
def H2:Nat→Expr→Int→ajP
 | 0=>λ_ _=>none
 |m+1=>So m (H2 m)
def H3(e:Expr):ajP:=(H2 n e 1).bind λae=>some ae
def Sp(n:Nat):Option (Bool×Bool×Bool×Bool×Bool×Bool):=some (false,true,false,false,false,false)
def H4(op:Int)(v2:Bool):Option (Bool×Bool×Bool×Bool×Bool×Bool):=cond v2 ( some (false,false,true,false,false,false)) ( cond (decide (op=5)) ( some (false,false,true,false,true,true)) ( cond (decide (op=6)) ( some (true,true,true,true,true,false)) ( Sp n)))
def H5(op:Int)(v1:Bool):Option (Bool×Bool×Bool×Bool×Bool×Bool):=cond v1 ( some (true,false,true,false,false,false)) ( cond (decide (op=3)) ( some (false,false,true,true,false,false)) ( cond (decide (op=4)) ( H4 n op (decide (op=4))) ( H4 n op (decide (op=7)))))
def Sq(op:Int):Option (Bool×Bool×Bool×Bool×Bool×Bool):=cond (decide (op=1)) ( H5 n op (decide (op=1))) ( H5 n op (decide (op=2)))
def H6(n:Nat)(depth:Int):ajP:=cond (decide (12<depth)) ( some 2) ( some 0)
def H7(depth:Int)(ae:Bool×Bool×Bool×Bool×Bool×Bool)(s:Stmt):ajP:=cond ae.2.2.2.1 ( (H3 n (⟨s.B.Op,s.B.N,s.B.S,s.B.az⟩:Expr)).bind λcE=>cond (!decide (cE=0)) ( some cE) ( H6 n depth)) ( H6 n depth)
def Sr(s:Stmt)(depth:Int):ajP:=(Sq n s.Op).bind λae=>Option.bind (cond ((!(cond (cond (cond (decide (s.Op<1)) true (decide (8<s.Op))) true (cond (!ae.1) (!(decide (s.Name=([]:ajK)))) false)) true (cond (!ae.2.1) (!decide (s.Max=0)) false)))&&(!ae.2.2.1)) (wi n (⟨s.A.Op,s.A.N,s.A.S,s.A.az⟩:Expr)) (some default)) λan=>Option.bind (cond ((!(cond (cond (cond (cond (decide (s.Op<1)) true (decide (8<s.Op))) true (cond (!ae.1) (!(decide (s.Name=([]:ajK)))) false)) true (cond (!ae.2.1) (!decide (s.Max=0)) false)) true (cond (!ae.2.2.1) (!an) false)))&&(!ae.2.2.2.1)) (wi n (⟨s.B.Op,s.B.N,s.B.S,s.B.az⟩:Expr)) (some default)) λaB=>cond (cond (cond (cond (cond (cond (cond (cond (decide (s.Op<1)) true (decide (8<s.Op))) true (cond (!ae.1) (!(decide (s.Name=([]:ajK)))) false)) true (cond (!ae.2.1) (!decide (s.Max=0)) false)) true (cond (!ae.2.2.1) (!an) false)) true (cond (!ae.2.2.2.1) (!aB) false)) true (cond (!ae.2.2.2.2.1) (decide (0<((s.Body.length:Nat):Int))) false)) true (cond (!ae.2.2.2.2.2) (decide (0<((s.c7.length:Nat):Int))) false)) ( some 1) ( cond (cond (cond (decide (s.Op=6)) (cond (decide (s.Max<1)) true (decide (16<s.Max))) false) true (cond (decide (s.Op=8)) (cond (decide (s.Max<0)) true (decide (999<s.Max))) false)) ( some 1) ( Option.bind (cond ae.1 (tw n s.Name) (some default)) λba=>cond (cond ae.1 (!ba) false) ( some 7) ( cond ae.2.2.1 ( (H3 n (⟨s.A.Op,s.A.N,s.A.S,s.A.az⟩:Expr)).bind λcq=>cond (!decide (cq=0)) ( some cq) ( H7 n depth ae s)) ( H7 n depth ae s))))
def Ss(n:Nat)(bN:(List ct)):ajP:=cond (decide (400<((bN.length:Nat):Int))) ( some 2) ( some 0)
def H8(n:Nat)(ar:Int→ajP)(bN:(List ct))(v11:Int):ajP:=ar (ajM (v11+1))
def St(bN:(List ct))(ar:Int→ajP)(v11:Int):ajP:=cond (decide (v11<((bN.length:Nat):Int))) ( au (aP v11 bN.length)<|cond ((ajN bN v11).Nf) ( au (aP v11 bN.length)<|au (aP v11 bN.length)<|(Sr n ((ajN bN v11).Stmt) ((ajN bN v11).Ng)).bind λdJ=>cond (!decide (dJ=0)) ( some dJ) ( H8 n ar bN v11)) ( H8 n ar bN v11)) ( Ss n bN)
def H9(n:Nat)(bN:(List ct)):Nat→Int→ajP
 | 0=>λ_=>none
 |m+1=>St n bN (H9 n bN m)
def Su(p:bj):ajP:=(tw n p.Name).bind λae=>cond (!ae) ( some 7) ( (Sg n p.Params).bind λaB=>cond (!decide (aB=0)) ( some aB) ( (Sb n p).bind λbN=>H9 n bN n 0))
def Sv(n:Nat)(a:Int):ajP:=cond (decide (a<0)) ( some (IntKind.u64.wrap (0-(IntKind.u64.wrap a)))) ( some (IntKind.u64.wrap a))
def Sw(n:Nat)(dp:Int)(v12:ajK):Option ajK:=cond (decide (dp<0)) ( au (b3 (([45]:ajK).length+v12.length))<|some (([45]:ajK)++v12)) ( some v12)
def Sx(dp:Int)(ar:Int→ajK→Option ajK)(v6:Int)(bu:ajK):Option ajK:=cond (cond (decide (0<v6)) true (decide (bu=([]:ajK)))) ( au (ow ([(IntKind.u8.wrap (IntKind.u64.wrap (48+(Int.tmod v6 10))))]:List Int))<|au (b3 ((jT ([(IntKind.u8.wrap (IntKind.u64.wrap (48+(Int.tmod v6 10))))]:List Int)).length+bu.length))<|ar (IntKind.u64.wrap (Int.tdiv v6 10)) ((jT ([(IntKind.u8.wrap (IntKind.u64.wrap (48+(Int.tmod v6 10))))]:List Int))++bu)) ( Sw n dp bu)
def H_(n:Nat)(dp:Int):Nat→Int→ajK→Option ajK
 | 0=>λ_ _=>none
 |m+1=>Sx n dp (H_ n dp m)
def Ax(dp:Int):Option ajK:=(Sv n dp).bind λae=>H_ n dp n ae ([]:ajK)
def Sy(n:Nat)(v9:ajK):Option ajK:=some v9
def Sz(depth:Int)(ar:ajK→Int→Option ajK)(v4:ajK)(v5:Int):Option ajK:=cond (decide (v5<depth)) ( au (b3 (v4.length+([32,32,32,32]:ajK).length))<|ar (v4++([32,32,32,32]:ajK)) (ajM (v5+1))) ( Sy n v4)
def Ia(n:Nat)(depth:Int):Nat→ajK→Int→Option ajK
 | 0=>λ_ _=>none
 |m+1=>Sz n depth (Ia n depth m)
def SA(depth:Int):Option ajK:=Ia n depth n ([]:ajK) 0
def Ib(n:Nat):ajO:=some true
def Ic(s:ajK)(ar:Int→ajO)(v4:Int):ajO:=cond (decide (v4<((s.length:Nat):Int))) ( au (aP v4 s.length)<|au ((decide ((((s.getD (v4).toNat 0).toNat:Nat):Int)<32))||aP v4 s.length)<|cond (cond (decide ((((s.getD (v4).toNat 0).toNat:Nat):Int)<32)) true (decide (126<(((s.getD (v4).toNat 0).toNat:Nat):Int)))) ( some false) ( ar (ajM (v4+1)))) ( Ib n)
def tx(n:Nat)(s:ajK):Nat→Int→ajO
 | 0=>λ_=>none
 |m+1=>Ic n s (tx n s m)
def Ie(s:ajK):ajO:=tx n s n 0
def SB(n:Nat)(v24:ajK):Option (ajK×Int):=au (b3 (v24.length+([34]:ajK).length))<|some ((v24++([34]:ajK)),0)
def SC(n:Nat)(ar:ajK→Int→Option (ajK×Int))(s:ajK)(bL:Int)(v21:ajK):Option (ajK×Int):=ar v21 (ajM (bL+1))
def If(ar:ajK→Int→Option (ajK×Int))(s:ajK)(bL:Int)(cG:ajK):Option (ajK×Int):=au (np bL (ajM (bL+1)) s.length)<|au (b3 (cG.length+((s.take ((ajM (bL+1))).toNat).drop (bL).toNat).length))<|SC n ar s bL (cG++((s.take ((ajM (bL+1))).toNat).drop (bL).toNat))
def SD(s:ajK)(ar:ajK→Int→Option (ajK×Int))(cc:ajK)(bL:Int):Option (ajK×Int):=cond (decide (bL<((s.length:Nat):Int))) ( au (aP bL s.length)<|au ((decide ((((s.getD (bL).toNat 0).toNat:Nat):Int)=34))||aP bL s.length)<|cond (cond (decide ((((s.getD (bL).toNat 0).toNat:Nat):Int)=34)) true (decide ((((s.getD (bL).toNat 0).toNat:Nat):Int)=92))) ( au (b3 (cc.length+([92]:ajK).length))<|If n ar s bL (cc++([92]:ajK))) ( If n ar s bL cc)) ( SB n cc)
def Ig(n:Nat)(s:ajK):Nat→ajK→Int→Option (ajK×Int)
 | 0=>λ_ _=>none
 |m+1=>SD n s (Ig n s m)
def SE(s:ajK):Option (ajK×Int):=cond (decide (64<((s.length:Nat):Int))) ( some (([]:ajK),2)) ( (Ie n s).bind λan=>cond (!an) ( some (([]:ajK),1)) ( Ig n s n ([34]:ajK) 0))
def SF(n:Nat):ajP:=some 9
def Ay(op:Int)(v3:Bool):ajP:=cond v3 ( some 7) ( cond (decide (op=9)) ( some 8) ( SF n))
def Ih(op:Int)(v2:Bool):ajP:=cond v2 ( some 6) ( cond (decide (op=6)) ( Ay n op (decide (op=6))) ( cond (decide (op=7)) ( Ay n op (decide (op=7))) ( Ay n op (decide (op=8)))))
def rC(op:Int)(v1:Bool):ajP:=cond v1 ( some 4) ( cond (decide (op=19)) ( some 5) ( cond (decide (op=4)) ( Ih n op (decide (op=4))) ( Ih n op (decide (op=5)))))
def Ii(op:Int):ajP:=cond (decide (op=17)) ( some 1) ( cond (decide (op=16)) ( some 2) ( cond (decide (op=18)) ( some 3) ( cond (decide (op=10)) ( rC n op (decide (op=10))) ( cond (decide (op=11)) ( rC n op (decide (op=11))) ( cond (decide (op=12)) ( rC n op (decide (op=12))) ( cond (decide (op=13)) ( rC n op (decide (op=13))) ( cond (decide (op=14)) ( rC n op (decide (op=14))) ( rC n op (decide (op=15))))))))))
def Ij(n:Nat)(op:Int):Option ajK:=cond (decide (op=17)) ( some ([111,114]:ajK)) ( cond (decide (op=16)) ( some ([97,110,100]:ajK)) ( cond (decide (op=10)) ( some ([61,61]:ajK)) ( cond (decide (op=11)) ( some ([33,61]:ajK)) ( cond (decide (op=12)) ( some ([60]:ajK)) ( cond (decide (op=13)) ( some ([60,61]:ajK)) ( cond (decide (op=14)) ( some ([62]:ajK)) ( cond (decide (op=15)) ( some ([62,61]:ajK)) ( cond (decide (op=19)) ( some ([43,43]:ajK)) ( cond (decide (op=4)) ( some ([43]:ajK)) ( cond (decide (op=5)) ( some ([45]:ajK)) ( cond (decide (op=6)) ( some ([42]:ajK)) ( cond (decide (op=7)) ( some ([47]:ajK)) ( some ([37]:ajK))))))))))))))
def Ik(n:Nat)(op:Int):Option ajK:=cond (decide (op=20)) ( some ([116,101,120,116]:ajK)) ( cond (decide (op=21)) ( some ([108,101,110]:ajK)) ( cond (decide (op=22)) ( some ([103,101,116,105,110,116]:ajK)) ( cond (decide (op=23)) ( some ([103,101,116,115,116,114]:ajK)) ( cond (decide (op=24)) ( some ([104,97,115]:ajK)) ( cond (decide (op=25)) ( some ([110,111,119]:ajK)) ( cond (decide (op=26)) ( some ([114,97,110,100,111,109]:ajK)) ( some ([110,111,100,101]:ajK))))))))
def SG(nZ:Expr→Option ajK)(lH:Expr→Int→Option ajK)(e:Expr):Option ajK:=(Ii n e.Op).bind λae=>cond (decide (e.Op=1)) ( (Ax n e.N).bind λaB=>some aB) ( cond (decide (e.Op=2)) ( (SE n e.S).bind λbN=>some bN.1) ( cond (decide (e.Op=3)) ( some e.S) ( cond (decide (e.Op=18)) ( au (aP 0 e.az.length)<|(lH (e.az.getD 0 default) ae).bind λcE=>au (b3 (([110,111,116,32]:ajK).length+cE.length))<|some (([110,111,116,32]:ajK)++cE)) ( cond (decide (e.Op=9)) ( au (aP 0 e.az.length)<|(lH (e.az.getD 0 default) ae).bind λdI=>au (b3 (([45]:ajK).length+dI.length))<|some (([45]:ajK)++dI)) ( cond (cond (decide (ae=9)) (decide (((e.az.length:Nat):Int)=0)) false) ( (Ik n e.Op).bind λdD=>au (b3 (dD.length+([40,41]:ajK).length))<|some (dD++([40,41]:ajK))) ( cond (decide (ae=9)) ( (Ik n e.Op).bind λeC=>au (b3 (eC.length+([40]:ajK).length))<|au (aP 0 e.az.length)<|(nZ (e.az.getD 0 default)).bind λd'=>au (b3 ((eC++([40]:ajK)).length+d'.length))<|au (b3 (((eC++([40]:ajK))++d').length+([41]:ajK).length))<|some (((eC++([40]:ajK))++d')++([41]:ajK))) ( cond (decide (ae=4)) ( au (aP 0 e.az.length)<|(lH (e.az.getD 0 default) 5).bind λdC=>au (b3 (dC.length+([32]:ajK).length))<|(Ij n e.Op).bind λfa=>au (b3 ((dC++([32]:ajK)).length+fa.length))<|au (b3 (((dC++([32]:ajK))++fa).length+([32]:ajK).length))<|au (aP 1 e.az.length)<|(lH (e.az.getD 1 default) 5).bind λmi=>au (b3 ((((dC++([32]:ajK))++fa)++([32]:ajK)).length+mi.length))<|some ((((dC++([32]:ajK))++fa)++([32]:ajK))++mi)) ( au (aP 0 e.az.length)<|(lH (e.az.getD 0 default) ae).bind λlD=>au (b3 (lD.length+([32]:ajK).length))<|(Ij n e.Op).bind λmY=>au (b3 ((lD++([32]:ajK)).length+mY.length))<|au (b3 (((lD++([32]:ajK))++mY).length+([32]:ajK).length))<|au (aP 1 e.az.length)<|(lH (e.az.getD 1 default) (ajM (ae+1))).bind λgf=>au (b3 ((((lD++([32]:ajK))++mY)++([32]:ajK)).length+gf.length))<|some ((((lD++([32]:ajK))++mY)++([32]:ajK))++gf)))))))))
def SH(nZ:Expr→Option ajK)(lH:Expr→Int→Option ajK)(e:Expr)(least:Int):Option ajK:=(Ii n e.Op).bind λae=>cond (decide (ae<least)) ( (nZ e).bind λaB=>au (b3 (([40]:ajK).length+aB.length))<|au (b3 ((([40]:ajK)++aB).length+([41]:ajK).length))<|some ((([40]:ajK)++aB)++([41]:ajK))) ( (nZ e).bind λba=>some ba)
def tz:Nat→(Expr→Option ajK)×(Expr→Int→Option ajK)
 | 0=>(λ_=>none,λ_ _=>none)
 |m+1=>(SG m ((tz m).1) ((tz m).2),SH m ((tz m).1) ((tz m).2))
def m7:Expr→Option ajK:=(tz n).1
def abg:Expr→Int→Option ajK:=(tz n).2
def SI(n:Nat)(hM:(List Stmt)→Int→Option ajK)(ic:Stmt→Int→Option ajK)(cc:ajK):Option ajK:=some cc
def SJ(hM:(List Stmt)→Int→Option ajK)(ic:Stmt→Int→Option ajK)(l:List Stmt)(depth:Int)(ar:ajK→Int→Option ajK)(v6:ajK)(bu:Int):Option ajK:=cond (decide (bu<((l.length:Nat):Int))) ( au (aP bu l.length)<|(ic (ajN l bu) depth).bind λcE=>au (b3 (v6.length+cE.length))<|ar (v6++cE) (ajM (bu+1))) ( SI n hM ic v6)
def Il(n:Nat)(hM:(List Stmt)→Int→Option ajK)(ic:Stmt→Int→Option ajK)(l:List Stmt)(depth:Int):Nat→ajK→Int→Option ajK
 | 0=>λ_ _=>none
 |m+1=>SJ n hM ic l depth (Il n hM ic l depth m)
def SK(hM:(List Stmt)→Int→Option ajK)(ic:Stmt→Int→Option ajK)(l:List Stmt)(depth:Int):Option ajK:=Il n hM ic l depth n ([]:ajK) 0
def Im(n:Nat)(hM:(List Stmt)→Int→Option ajK)(ic:Stmt→Int→Option ajK)(wj:ajK):Option ajK:=au (b3 (wj.length+([10]:ajK).length))<|some (wj++([10]:ajK))
def SL(hM:(List Stmt)→Int→Option ajK)(ic:Stmt→Int→Option ajK)(x:Stmt)(depth:Int):Option ajK:=(SA n depth).bind λae=>cond (decide (x.Op=1)) ( au (b3 (ae.length+([108,101,116,32]:ajK).length))<|au (b3 ((ae++([108,101,116,32]:ajK)).length+x.Name.length))<|au (b3 (((ae++([108,101,116,32]:ajK))++x.Name).length+([32,61,32]:ajK).length))<|(m7 n (⟨x.A.Op,x.A.N,x.A.S,x.A.az⟩:Expr)).bind λba=>au (b3 ((((ae++([108,101,116,32]:ajK))++x.Name)++([32,61,32]:ajK)).length+ba.length))<|au (b3 (((((ae++([108,101,116,32]:ajK))++x.Name)++([32,61,32]:ajK))++ba).length+([59,10]:ajK).length))<|some (((((ae++([108,101,116,32]:ajK))++x.Name)++([32,61,32]:ajK))++ba)++([59,10]:ajK))) ( cond (decide (x.Op=2)) ( au (b3 (ae.length+x.Name.length))<|au (b3 ((ae++x.Name).length+([32,61,32]:ajK).length))<|(m7 n (⟨x.A.Op,x.A.N,x.A.S,x.A.az⟩:Expr)).bind λeV=>au (b3 (((ae++x.Name)++([32,61,32]:ajK)).length+eV.length))<|au (b3 ((((ae++x.Name)++([32,61,32]:ajK))++eV).length+([59,10]:ajK).length))<|some ((((ae++x.Name)++([32,61,32]:ajK))++eV)++([59,10]:ajK))) ( cond (decide (x.Op=3)) ( au (b3 (ae.length+([112,117,116,32]:ajK).length))<|(m7 n (⟨x.A.Op,x.A.N,x.A.S,x.A.az⟩:Expr)).bind λeI=>au (b3 ((ae++([112,117,116,32]:ajK)).length+eI.length))<|au (b3 (((ae++([112,117,116,32]:ajK))++eI).length+([32,61,32]:ajK).length))<|(m7 n (⟨x.B.Op,x.B.N,x.B.S,x.B.az⟩:Expr)).bind λd9=>au (b3 ((((ae++([112,117,116,32]:ajK))++eI)++([32,61,32]:ajK)).length+d9.length))<|au (b3 (((((ae++([112,117,116,32]:ajK))++eI)++([32,61,32]:ajK))++d9).length+([59,10]:ajK).length))<|some (((((ae++([112,117,116,32]:ajK))++eI)++([32,61,32]:ajK))++d9)++([59,10]:ajK))) ( cond (decide (x.Op=4)) ( au (b3 (ae.length+([100,101,108,101,116,101,32]:ajK).length))<|(m7 n (⟨x.A.Op,x.A.N,x.A.S,x.A.az⟩:Expr)).bind λe9=>au (b3 ((ae++([100,101,108,101,116,101,32]:ajK)).length+e9.length))<|au (b3 (((ae++([100,101,108,101,116,101,32]:ajK))++e9).length+([59,10]:ajK).length))<|some (((ae++([100,101,108,101,116,101,32]:ajK))++e9)++([59,10]:ajK))) ( cond (decide (x.Op=7)) ( au (b3 (ae.length+([101,109,105,116,32]:ajK).length))<|(m7 n (⟨x.A.Op,x.A.N,x.A.S,x.A.az⟩:Expr)).bind λhz=>au (b3 ((ae++([101,109,105,116,32]:ajK)).length+hz.length))<|au (b3 (((ae++([101,109,105,116,32]:ajK))++hz).length+([59,10]:ajK).length))<|some (((ae++([101,109,105,116,32]:ajK))++hz)++([59,10]:ajK))) ( cond (decide (x.Op=8)) ( au (b3 (ae.length+([97,98,111,114,116,32]:ajK).length))<|(Ax n x.Max).bind λlG=>au (b3 ((ae++([97,98,111,114,116,32]:ajK)).length+lG.length))<|au (b3 (((ae++([97,98,111,114,116,32]:ajK))++lG).length+([59,10]:ajK).length))<|some (((ae++([97,98,111,114,116,32]:ajK))++lG)++([59,10]:ajK))) ( cond (decide (x.Op=6)) ( au (b3 (ae.length+([102,111,114,32]:ajK).length))<|au (b3 ((ae++([102,111,114,32]:ajK)).length+x.Name.length))<|au (b3 (((ae++([102,111,114,32]:ajK))++x.Name).length+([32,61,32]:ajK).length))<|(m7 n (⟨x.A.Op,x.A.N,x.A.S,x.A.az⟩:Expr)).bind λgf=>au (b3 ((((ae++([102,111,114,32]:ajK))++x.Name)++([32,61,32]:ajK)).length+gf.length))<|au (b3 (((((ae++([102,111,114,32]:ajK))++x.Name)++([32,61,32]:ajK))++gf).length+([32,116,111,32]:ajK).length))<|(m7 n (⟨x.B.Op,x.B.N,x.B.S,x.B.az⟩:Expr)).bind λhL=>au (b3 ((((((ae++([102,111,114,32]:ajK))++x.Name)++([32,61,32]:ajK))++gf)++([32,116,111,32]:ajK)).length+hL.length))<|au (b3 (((((((ae++([102,111,114,32]:ajK))++x.Name)++([32,61,32]:ajK))++gf)++([32,116,111,32]:ajK))++hL).length+([32,109,97,120,32]:ajK).length))<|(Ax n x.Max).bind λnW=>au (b3 ((((((((ae++([102,111,114,32]:ajK))++x.Name)++([32,61,32]:ajK))++gf)++([32,116,111,32]:ajK))++hL)++([32,109,97,120,32]:ajK)).length+nW.length))<|au (b3 (((((((((ae++([102,111,114,32]:ajK))++x.Name)++([32,61,32]:ajK))++gf)++([32,116,111,32]:ajK))++hL)++([32,109,97,120,32]:ajK))++nW).length+([32,123,10]:ajK).length))<|(hM x.Body (ajM (depth+1))).bind λm5=>au (b3 ((((((((((ae++([102,111,114,32]:ajK))++x.Name)++([32,61,32]:ajK))++gf)++([32,116,111,32]:ajK))++hL)++([32,109,97,120,32]:ajK))++nW)++([32,123,10]:ajK)).length+m5.length))<|au (b3 (((((((((((ae++([102,111,114,32]:ajK))++x.Name)++([32,61,32]:ajK))++gf)++([32,116,111,32]:ajK))++hL)++([32,109,97,120,32]:ajK))++nW)++([32,123,10]:ajK))++m5).length+ae.length))<|au (b3 ((((((((((((ae++([102,111,114,32]:ajK))++x.Name)++([32,61,32]:ajK))++gf)++([32,116,111,32]:ajK))++hL)++([32,109,97,120,32]:ajK))++nW)++([32,123,10]:ajK))++m5)++ae).length+([125,10]:ajK).length))<|some ((((((((((((ae++([102,111,114,32]:ajK))++x.Name)++([32,61,32]:ajK))++gf)++([32,116,111,32]:ajK))++hL)++([32,109,97,120,32]:ajK))++nW)++([32,123,10]:ajK))++m5)++ae)++([125,10]:ajK))) ( au (b3 (ae.length+([105,102,32]:ajK).length))<|(m7 n (⟨x.A.Op,x.A.N,x.A.S,x.A.az⟩:Expr)).bind λeJ=>au (b3 ((ae++([105,102,32]:ajK)).length+eJ.length))<|au (b3 (((ae++([105,102,32]:ajK))++eJ).length+([32,123,10]:ajK).length))<|(hM x.Body (ajM (depth+1))).bind λmm=>au (b3 ((((ae++([105,102,32]:ajK))++eJ)++([32,123,10]:ajK)).length+mm.length))<|au (b3 (((((ae++([105,102,32]:ajK))++eJ)++([32,123,10]:ajK))++mm).length+ae.length))<|au (b3 ((((((ae++([105,102,32]:ajK))++eJ)++([32,123,10]:ajK))++mm)++ae).length+([125]:ajK).length))<|cond (decide (0<((x.c7.length:Nat):Int))) ( au (b3 (((((((ae++([105,102,32]:ajK))++eJ)++([32,123,10]:ajK))++mm)++ae)++([125]:ajK)).length+([32,101,108,115,101,32,123,10]:ajK).length))<|(hM x.c7 (ajM (depth+1))).bind λiO=>au (b3 ((((((((ae++([105,102,32]:ajK))++eJ)++([32,123,10]:ajK))++mm)++ae)++([125]:ajK))++([32,101,108,115,101,32,123,10]:ajK)).length+iO.length))<|au (b3 (((((((((ae++([105,102,32]:ajK))++eJ)++([32,123,10]:ajK))++mm)++ae)++([125]:ajK))++([32,101,108,115,101,32,123,10]:ajK))++iO).length+ae.length))<|au (b3 ((((((((((ae++([105,102,32]:ajK))++eJ)++([32,123,10]:ajK))++mm)++ae)++([125]:ajK))++([32,101,108,115,101,32,123,10]:ajK))++iO)++ae).length+([125]:ajK).length))<|Im n hM ic ((((((((((ae++([105,102,32]:ajK))++eJ)++([32,123,10]:ajK))++mm)++ae)++([125]:ajK))++([32,101,108,115,101,32,123,10]:ajK))++iO)++ae)++([125]:ajK))) ( Im n hM ic ((((((ae++([105,102,32]:ajK))++eJ)++([32,123,10]:ajK))++mm)++ae)++([125]:ajK))))))))))
def tA:Nat→((List Stmt)→Int→Option ajK)×(Stmt→Int→Option ajK)
 | 0=>(λ_ _=>none,λ_ _=>none)
 |m+1=>(SK m ((tA m).1) ((tA m).2),SL m ((tA m).1) ((tA m).2))
def In:(List Stmt)→Int→Option ajK:=(tA n).1
def abh:Stmt→Int→Option ajK:=(tA n).2
def SM(n:Nat)(ty:Int):Option ajK:=cond (decide (ty=1)) ( some ([105,110,116]:ajK)) ( cond (decide (ty=2)) ( some ([115,116,114]:ajK)) ( some ([98,111,111,108]:ajK)))
def SN(p:bj)(ge:ajK):Option ajK:=au (b3 (ge.length+([41,32,123,10]:ajK).length))<|(In n p.Body 1).bind λfK=>au (b3 ((ge++([41,32,123,10]:ajK)).length+fK.length))<|au (b3 (((ge++([41,32,123,10]:ajK))++fK).length+([125,10]:ajK).length))<|some (((ge++([41,32,123,10]:ajK))++fK)++([125,10]:ajK))
def SO(n:Nat)(ar:ajK→Int→Option ajK)(aW:Int)(p:bj)(v26:ajK):Option ajK:=ar v26 (ajM (aW+1))
def Io(ar:ajK→Int→Option ajK)(aW:Int)(p:bj)(cY:ajK):Option ajK:=au (aP aW p.Params.length)<|au (b3 (cY.length+((ajN p.Params aW).Name).length))<|au (b3 ((cY++((ajN p.Params aW).Name)).length+([58,32]:ajK).length))<|au (aP aW p.Params.length)<|(SM n ((ajN p.Params aW).hT)).bind λfF=>au (b3 (((cY++((ajN p.Params aW).Name))++([58,32]:ajK)).length+fF.length))<|SO n ar aW p (((cY++((ajN p.Params aW).Name))++([58,32]:ajK))++fF)
def SP(p:bj)(ar:ajK→Int→Option ajK)(di:ajK)(aW:Int):Option ajK:=cond (decide (aW<((p.Params.length:Nat):Int))) ( cond (decide (0<aW)) ( au (b3 (di.length+([44,32]:ajK).length))<|Io n ar aW p (di++([44,32]:ajK))) ( Io n ar aW p di)) ( SN n p di)
def Ip(n:Nat)(p:bj):Nat→ajK→Int→Option ajK
 | 0=>λ_ _=>none
 |m+1=>SP n p (Ip n p m)
def SQ(p:bj):Option ajK:=(Su n p).bind λae=>cond (!decide (ae=0)) ( some ([]:ajK)) ( au (b3 (([112,114,111,99,32]:ajK).length+p.Name.length))<|au (b3 ((([112,114,111,99,32]:ajK)++p.Name).length+([40]:ajK).length))<|Ip n p n ((([112,114,111,99,32]:ajK)++p.Name)++([40]:ajK)) 0)
def SR(n:Nat)(l:List bj):ajO:=some (decide (((l.length:Nat):Int)≤16))
def SS(l:List bj)(ar:Int→ajO)(v6:Int):ajO:=cond (decide (v6<((l.length:Nat):Int))) ( au (aP v6 l.length)<|(SQ n (ajN l v6)).bind λcq=>au ((cond (decide (cq=([]:ajK))) true (decide (16384<((cq.length:Nat):Int))))||(!(decide (0<v6))||aP (ajM (v6-1)) l.length))<|au ((cond (decide (cq=([]:ajK))) true (decide (16384<((cq.length:Nat):Int))))||(!(decide (0<v6))||aP v6 l.length))<|cond (cond (cond (decide (cq=([]:ajK))) true (decide (16384<((cq.length:Nat):Int)))) true (cond (decide (0<v6)) (!(Op.bytesLess ((ajN l (ajM (v6-1))).Name) ((ajN l v6).Name))) false)) ( some false) ( ar (ajM (v6+1)))) ( SR n l)
def Iq(n:Nat)(l:List bj):Nat→Int→ajO
 | 0=>λ_=>none
 |m+1=>SS n l (Iq n l m)
def ST(l:List bj):ajO:=Iq n l n 0
def SU(n:Nat):ajO:=some true
def SV(l:List ajK)(ar:Int→ajO)(v6:Int):ajO:=cond (decide (v6<((l.length:Nat):Int))) ( au (aP v6 l.length)<|(rx n (ajN l v6)).bind λcq=>au ((!cq)||(!(decide (0<v6))||aP (ajM (v6-1)) l.length))<|au ((!cq)||(!(decide (0<v6))||aP v6 l.length))<|cond (cond (!cq) true (cond (decide (0<v6)) (!(Op.bytesLess (ajN l (ajM (v6-1))) (ajN l v6))) false)) ( some false) ( ar (ajM (v6+1)))) ( SU n)
def Ir(n:Nat)(l:List ajK):Nat→Int→ajO
 | 0=>λ_=>none
 |m+1=>SV n l (Ir n l m)
def Is(l:List ajK):ajO:=Ir n l n 0
def SW(f:eX):ajO:=cond f.ep ( some (cond (decide (((f.Reads.length:Nat):Int)=0)) (decide (((f.da.length:Nat):Int)=0)) false)) ( Option.bind (cond (cond (decide (((f.Reads.length:Nat):Int)≤64)) (decide (((f.da.length:Nat):Int)≤64)) false) (Is n f.Reads) (some default)) λan=>Option.bind (cond (cond (cond (decide (((f.Reads.length:Nat):Int)≤64)) (decide (((f.da.length:Nat):Int)≤64)) false) an false) (Is n f.da) (some default)) λaB=>some (cond (cond (cond (decide (((f.Reads.length:Nat):Int)≤64)) (decide (((f.da.length:Nat):Int)≤64)) false) an false) aB false))
def SX(ag:Request):ajP:=(SW n ag.bY).bind λer=>cond (cond (cond (!er) true ag.bY.ep) true (cond (!ag.fD) (decide (0<(ajM (((ag.bY.Reads.length:Nat):Int)+((ag.bY.da.length:Nat):Int))))) false)) ( some 1) ( some 0)
def SY(ag:Request)(ar:Int→ajP)(v9:Int):ajP:=cond (decide (v9<((ag.az.length:Nat):Int))) ( au (aP v9 ag.az.length)<|(pG n (ajN ag.az v9)).bind λbU=>au ((!bU)||aP v9 ag.az.length)<|cond (cond (!bU) true (decide ((ajN ag.az v9).Kind=0))) ( some 1) ( ar (ajM (v9+1)))) ( SX n ag)
def It(n:Nat)(ag:Request):Nat→Int→ajP
 | 0=>λ_=>none
 |m+1=>SY n ag (It n ag m)
def SZ(ag:Request):ajP:=cond (cond (cond (cond (decide (ag.Client<1)) true (decide (32<ag.Client))) true (decide (ag.Seq<1))) true (decide (1099511627776<ag.Seq))) ( some 1) ( (tw n ag.bj).bind λan=>cond (!an) ( some 7) ( cond (decide (6<((ag.az.length:Nat):Int))) ( some 2) ( It n ag n 0)))
def S0(n:Nat)(l:List Request):ajO:=some (decide (((l.length:Nat):Int)≤64))
def S1(l:List Request)(ar:Int→ajO)(v4:Int):ajO:=cond (decide (v4<((l.length:Nat):Int))) ( au (aP v4 l.length)<|(SZ n (ajN l v4)).bind λba=>cond (!decide (ba=0)) ( some false) ( ar (ajM (v4+1)))) ( S0 n l)
def Iu(n:Nat)(l:List Request):Nat→Int→ajO
 | 0=>λ_=>none
 |m+1=>S1 n l (Iu n l m)
def S2(l:List Request):ajO:=Iu n l n 0
def S3(ag:bF):ajO:=Option.bind (cond (cond (decide (0≤ag.Pos)) (decide (ag.Pos≤1099511627776)) false) (rz n ag.ao) (some default)) λae=>Option.bind (cond (cond (cond (cond (decide (0≤ag.Pos)) (decide (ag.Pos≤1099511627776)) false) ae false) (decide (ag.ao.bk=ag.Pos)) false) (ST n ag.bI) (some default)) λan=>Option.bind (cond (cond (cond (cond (cond (decide (0≤ag.Pos)) (decide (ag.Pos≤1099511627776)) false) ae false) (decide (ag.ao.bk=ag.Pos)) false) an false) (RV n ag.bT) (some default)) λaB=>Option.bind (cond (cond (cond (cond (cond (cond (decide (0≤ag.Pos)) (decide (ag.Pos≤1099511627776)) false) ae false) (decide (ag.ao.bk=ag.Pos)) false) an false) aB false) (RH n ag.Place) (some default)) λaQ=>Option.bind (cond (cond (cond (cond (cond (cond (cond (decide (0≤ag.Pos)) (decide (ag.Pos≤1099511627776)) false) ae false) (decide (ag.ao.bk=ag.Pos)) false) an false) aB false) aQ false) (RK n ag.bc) (some default)) λbN=>Option.bind (cond (cond (cond (cond (cond (cond (cond (cond (decide (0≤ag.Pos)) (decide (ag.Pos≤1099511627776)) false) ae false) (decide (ag.ao.bk=ag.Pos)) false) an false) aB false) aQ false) bN false) (S2 n ag.Queue) (some default)) λba=>some (cond (cond (cond (cond (cond (cond (cond (cond (decide (0≤ag.Pos)) (decide (ag.Pos≤1099511627776)) false) ae false) (decide (ag.ao.bk=ag.Pos)) false) an false) aB false) aQ false) bN false) ba false)
def Iv(ag:bF):Option (bF×Int):=(S3 n ag).bind λae=>cond (!ae) ( some ((⟨0,⟨0,0,[]⟩,[],[],⟨0,[]⟩,[],[],0⟩:bF),1)) ( (wh n ag.ao ag.Pos).bind λaB=>(G5 n aB.1 ag.Pos).bind λaQ=>some ((⟨ag.Pos,aQ.1,ag.bI,ag.bT,ag.Place,ag.bc,ag.Queue,ag.b6⟩:bF),0))
def S4(a:bF)(b:bF):ajO:=(Iv n a).bind λae=>(Iv n b).bind λan=>Option.bind (cond (cond (decide (ae.2=0)) (decide (an.2=0)) false) (we n ae.1 an.1) (some default)) λaB=>some (cond (cond (decide (ae.2=0)) (decide (an.2=0)) false) aB false)
def Az:ajO:=(Ri n).bind λae=>(Q1 n ae).bind λan=>(td n an.1 ae.ao 2).bind λaB=>(Rz n ae.ao 6 ([(⟨[99],⟨0,0,[]⟩⟩:aI)]:List aI)).bind λaQ=>(vX n aB.1 ([120]:ajK)).bind λbN=>(td n bN aQ.1 2).bind λba=>(GP n ba.1).bind λb4=>(Q8 n b4.1).bind λcq=>(GP n aB.1).bind λcE=>cond (cond (cond (cond (cond (cond (!decide (an.2=0)) true (!decide (aB.2=0))) true (!decide (ba.2=0))) true (!decide (b4.2.2=0))) true (!decide (cq.2.2=0))) true (!decide (cE.2.2=16))) ( some false) ( Option.bind (cond (cond (cond (cond (cond (cond (cond (cond (decide (an.1.bH=5)) (decide (((aB.1.c8.length:Nat):Int)=2)) false) (decide (aB.1.Next=([99]:ajK))) false) (!aB.1.cN) false) (decide (((ba.1.c8.length:Nat):Int)=3)) false) (decide (ba.1.Next=([]:ajK))) false) ba.1.cN false) (decide (b4.2.1=6)) false) (S4 n cq.1 ae) (some default)) λbU=>Option.bind (cond (cond (cond (cond (cond (cond (cond (cond (cond (decide (an.1.bH=5)) (decide (((aB.1.c8.length:Nat):Int)=2)) false) (decide (aB.1.Next=([99]:ajK))) false) (!aB.1.cN) false) (decide (((ba.1.c8.length:Nat):Int)=3)) false) (decide (ba.1.Next=([]:ajK))) false) ba.1.cN false) (decide (b4.2.1=6)) false) bU false) (ry n cq.2.1 ([([120]:ajK)]:List ajK)) (some default)) λeV=>some (cond (cond (cond (cond (cond (cond (cond (cond (cond (decide (an.1.bH=5)) (decide (((aB.1.c8.length:Nat):Int)=2)) false) (decide (aB.1.Next=([99]:ajK))) false) (!aB.1.cN) false) (decide (((ba.1.c8.length:Nat):Int)=3)) false) (decide (ba.1.Next=([]:ajK))) false) ba.1.cN false) (decide (b4.2.1=6)) false) bU false) eV false))
def Iw(n:Nat):ajO:=some true
def AA(a:List aI)(b:List aI)(ar:Int→ajO)(v5:Int):ajO:=cond (decide (v5<((a.length:Nat):Int))) ( au (aP v5 a.length)<|au (aP v5 b.length)<|cond (!((decide ((ajN a v5).Key=(ajN b v5).Key))&&((decide (((ajN a v5).bo).Kind=((ajN b v5).bo).Kind))&&((decide (((ajN a v5).bo).N=((ajN b v5).bo).N))&&((decide (((ajN a v5).bo).S=((ajN b v5).bo).S))&&true))))) ( some false) ( ar (ajM (v5+1)))) ( Iw n)
def tB(n:Nat)(a:List aI)(b:List aI):Nat→Int→ajO
 | 0=>λ_=>none
 |m+1=>AA n a b (tB n a b m)
def AB(a:List aI)(b:List aI):ajO:=cond (!decide (((a.length:Nat):Int)=((b.length:Nat):Int))) ( some false) ( tB n a b n 0)
def Ix(a:List ajK)(b:List ajK):ajO:=(ry n a b).bind λae=>some ae
def wk(a:de)(b:de):ajO:=Option.bind (cond (cond (cond (decide (a.bH=b.bH)) (decide (a.Next=b.Next)) false) (a.cN == b.cN) false) (AB n a.c8 b.c8) (some default)) λae=>Option.bind (cond (cond (cond (cond (decide (a.bH=b.bH)) (decide (a.Next=b.Next)) false) (a.cN == b.cN) false) ae false) (Ix n a.cU b.cU) (some default)) λan=>Option.bind (cond (cond (cond (cond (cond (decide (a.bH=b.bH)) (decide (a.Next=b.Next)) false) (a.cN == b.cN) false) ae false) an false) (we n a.Rest b.Rest) (some default)) λaB=>some (cond (cond (cond (cond (cond (decide (a.bH=b.bH)) (decide (a.Next=b.Next)) false) (a.cN == b.cN) false) ae false) an false) aB false)
def Iy(n:Nat):ajO:=some true
def AC(c:de)(ar:Int→ajO)(v5:Int):ajO:=cond (decide (v5<((c.cU.length:Nat):Int))) ( au (aP v5 c.cU.length)<|cond (decide (5000<(((ajN c.cU v5).length:Nat):Int))) ( some false) ( ar (ajM (v5+1)))) ( Iy n)
def tC(n:Nat)(c:de):Nat→Int→ajO
 | 0=>λ_=>none
 |m+1=>AC n c (tC n c m)
def wm(c:de):ajO:=(vV n c.Rest).bind λae=>cond (cond (cond (!ae) true (decide (60<((c.c8.length:Nat):Int)))) true (decide (40<((c.cU.length:Nat):Int)))) ( some false) ( tC n c n 0)
def AD(n:Nat)(c:de)(data:ajK):Option de:=au (room (([]:List ajK).length+c.cU.length) 16)<|au (room ((([]:List ajK)++c.cU).length+([data]:List ajK).length) 16)<|some (⟨c.bH,c.Rest,c.Next,c.cN,c.c8,((([]:List ajK)++c.cU)++([data]:List ajK))⟩:de)
def Iz(n:Nat)(s:ajK):ajO:=some (decide (((s.length:Nat):Int)≤24))
def AE(s:ajK)(ar:Int→ajO)(v4:Int):ajO:=cond (decide (v4<((s.length:Nat):Int))) ( au (aP v4 s.length)<|au ((decide ((((s.getD (v4).toNat 0).toNat:Nat):Int)<33))||aP v4 s.length)<|cond (cond (decide ((((s.getD (v4).toNat 0).toNat:Nat):Int)<33)) true (decide (126<(((s.getD (v4).toNat 0).toNat:Nat):Int)))) ( some false) ( ar (ajM (v4+1)))) ( Iz n s)
def tD(n:Nat)(s:ajK):Nat→Int→ajO
 | 0=>λ_=>none
 |m+1=>AE n s (tD n s m)
def tE(s:ajK):ajO:=tD n s n 0
def AF(ag:Range):ajO:=(tE n ag.dY).bind λae=>Option.bind (cond ae (tE n ag.hU) (some default)) λan=>some (cond (cond ae an false) (cond (decide (ag.hU=([]:ajK))) true (!((Op.bytesLess ag.hU ag.dY)||(decide (ag.hU=ag.dY))))) false)
def AG(ag:Range)(k:ajK):ajO:=(AF n ag).bind λae=>some (cond (cond ae (!(Op.bytesLess k ag.dY)) false) (cond (decide (ag.hU=([]:ajK))) true (Op.bytesLess k ag.hU)) false)
def IA(n:Nat)(aW:List aI):Option (List aI):=some aW
def wn(n:Nat)(ar:(List aI)→Int→Option (List aI))(l:List aI)(v9:Int)(ag:Range)(bL:List aI):Option (List aI):=ar bL (ajM (v9+1))
def IB(l:List aI)(ag:Range)(ar:(List aI)→Int→Option (List aI))(bp:List aI)(v9:Int):Option (List aI):=cond (decide (v9<((l.length:Nat):Int))) ( au (aP v9 l.length)<|(AG n ag ((ajN l v9).Key)).bind λbU=>cond bU ( au (aP v9 l.length)<|au (room (bp.length+([(ajN l v9)]:List aI).length) 48)<|wn n ar l v9 ag (bp++([(ajN l v9)]:List aI))) ( wn n ar l v9 ag bp)) ( IA n bp)
def wo(n:Nat)(l:List aI)(ag:Range):Nat→(List aI)→Int→Option (List aI)
 | 0=>λ_ _=>none
 |m+1=>IB n l ag (wo n l ag m)
def IC(l:List aI)(ag:Range):Option (List aI):=wo n l ag n ([]:List aI) 0
def wq(n:Nat)(c:de)(cc:ajK)(bL:Bool)(bx:List aI):Option (de×Int):=some ((⟨c.bH,c.Rest,cc,bL,bx,c.cU⟩:de),0)
def AH(c:de)(s:ao)(dp:Int):Option (de×Int):=Option.bind (cond (!(decide (dp<1))) (rz n s) (some default)) λae=>Option.bind (cond (!(cond (decide (dp<1)) true (!ae))) (tE n c.Next) (some default)) λan=>cond (cond (cond (decide (dp<1)) true (!ae)) true (!an)) ( some ((⟨0,⟨0,⟨0,0,[]⟩,[],[],⟨0,[]⟩,[],[],0⟩,[],false,[],[]⟩:de),1)) ( cond c.cN ( some (c,0)) ( (wh n s c.bH).bind λbN=>cond (!decide (bN.2=0)) ( some ((⟨0,⟨0,⟨0,0,[]⟩,[],[],⟨0,[]⟩,[],[],0⟩,[],false,[],[]⟩:de),bN.2)) ( (IC n bN.1 (⟨c.Next,[]⟩:Range)).bind λb4=>au (room (([]:List aI).length+c.c8.length) 48)<|cond (decide (dp<((b4.length:Nat):Int))) ( au (aP dp b4.length)<|au (gb dp b4.length)<|au (room ((([]:List aI)++c.c8).length+(b4.take (dp).toNat).length) 48)<|wq n c ((ajN b4 dp).Key) c.cN ((([]:List aI)++c.c8)++(b4.take (dp).toNat))) ( au (room ((([]:List aI)++c.c8).length+b4.length) 48)<|wq n c ([]:ajK) true ((([]:List aI)++c.c8)++b4)))))
def ID(c:de)(s:ao)(dp:Int):ajO:=(wm n c).bind λae=>Option.bind (cond (!(!ae)) (s7 n s) (some default)) λan=>cond (cond (!ae) true (!an)) ( (Az n).bind λaQ=>some aQ) ( (td n c s dp).bind λbN=>(AH n c s dp).bind λba=>(wk n bN.1 ba.1).bind λb4=>Option.bind (cond (cond b4 (decide (bN.2=ba.2)) false) (vX n c ([120]:ajK)) (some default)) λcq=>Option.bind (cond (cond b4 (decide (bN.2=ba.2)) false) (AD n c ([120]:ajK)) (some default)) λcE=>Option.bind (cond (cond b4 (decide (bN.2=ba.2)) false) (wk n cq cE) (some default)) λdZ=>Option.bind (cond (cond (cond b4 (decide (bN.2=ba.2)) false) dZ false) (Az n) (some default)) λbU=>some (cond (cond (cond b4 (decide (bN.2=ba.2)) false) dZ false) bU false))
end Go.Ab.Y

/- What each function computes, over plain data, with fuel. Printed by a program. -/
import Derived.Test.YtcjbfnojhpfchaaGreatDoorHand
set_option linter.all false
namespace Go.Ab.Y
open Go Go.Ab Go.Proofs
variable (n:Nat)
def OQ(n:Nat)(c:Int):at0:=some (cond (cond (cond (cond (cond (cond (decide (97≤c)) (decide (c≤122)) false) true (cond (decide (48≤c)) (decide (c≤57)) false)) true (decide (c=47))) true (decide (c=46))) true (decide (c=95))) true (decide (c=45)))
def OR(n:Nat):at0:=some true
def Hs(s:atW)(ak:Int→at0)(v5:Int):at0:=cond (decide (v5<((s.length:Nat):Int))) ( ax (aJ v5 s.length)<|(OQ n (((s.getD (v5).toNat 0).toNat:Nat):Int)).bind λcS=>cond (!cS) ( some false) ( ak (atY (v5+1)))) ( OR n)
def yw(n:Nat)(s:atW):Nat→Int→at0
 | 0=>λ_=>none
 |m+1=>Hs n s (yw n s m)
def Ht(s:atW):at0:=cond (decide (24<((s.length:Nat):Int))) ( some false) ( yw n s n 0)
def vY(k:atW):at0:=Option.bind (cond (!(decide (k=([]:atW)))) (Ht n k) (some default)) λr1=>some (cond (!(decide (k=([]:atW)))) r1 false)
def OS(n:Nat)(l:List atW):at0:=some (decide (((l.length:Nat):Int)≤64))
def Hu(l:List atW)(ak:Int→at0)(v5:Int):at0:=cond (decide (v5<((l.length:Nat):Int))) ( ax (aJ v5 l.length)<|(vY n (atZ l v5)).bind λcS=>ax ((!cS)||(!(decide (0<v5))||aJ (atY (v5-1)) l.length))<|cond (cond (!cS) true (cond (decide (0<v5)) ((Op.bytesLess (atZ l v5) (atZ l (atY (v5-1))))||(decide ((atZ l v5)=(atZ l (atY (v5-1)))))) false)) ( some false) ( ak (atY (v5+1)))) ( OS n l)
def yx(n:Nat)(l:List atW):Nat→Int→at0
 | 0=>λ_=>none
 |m+1=>Hu n l (yx n l m)
def CG(l:List atW):at0:=yx n l n 0
def CH(f:fg):at0:=cond f.ee ( some (cond (decide (((f.Reads.length:Nat):Int)=0)) (decide (((f.cA.length:Nat):Int)=0)) false)) ( (CG n f.Reads).bind λr2=>Option.bind (cond r2 (CG n f.cA) (some default)) λr3=>some (cond r2 r3 false))
def OT(n:Nat):at0:=some false
def il(v1:Bool):at0:=cond v1 ( some true) ( OT n)
def CI(s:atW):at0:=cond (decide (s=([112,114,111,99]:atW))) ( il n (decide (s=([112,114,111,99]:atW)))) ( cond (decide (s=([108,101,116]:atW))) ( il n (decide (s=([108,101,116]:atW)))) ( cond (decide (s=([112,117,116]:atW))) ( il n (decide (s=([112,117,116]:atW)))) ( cond (decide (s=([100,101,108,101,116,101]:atW))) ( il n (decide (s=([100,101,108,101,116,101]:atW)))) ( cond (decide (s=([105,102]:atW))) ( il n (decide (s=([105,102]:atW)))) ( cond (decide (s=([101,108,115,101]:atW))) ( il n (decide (s=([101,108,115,101]:atW)))) ( cond (decide (s=([102,111,114]:atW))) ( il n (decide (s=([102,111,114]:atW)))) ( cond (decide (s=([116,111]:atW))) ( il n (decide (s=([116,111]:atW)))) ( cond (decide (s=([109,97,120]:atW))) ( il n (decide (s=([109,97,120]:atW)))) ( cond (decide (s=([101,109,105,116]:atW))) ( il n (decide (s=([101,109,105,116]:atW)))) ( cond (decide (s=([97,98,111,114,116]:atW))) ( il n (decide (s=([97,98,111,114,116]:atW)))) ( cond (decide (s=([110,111,116]:atW))) ( il n (decide (s=([110,111,116]:atW)))) ( cond (decide (s=([97,110,100]:atW))) ( il n (decide (s=([97,110,100]:atW)))) ( cond (decide (s=([111,114]:atW))) ( il n (decide (s=([111,114]:atW)))) ( cond (decide (s=([105,110,116]:atW))) ( il n (decide (s=([105,110,116]:atW)))) ( cond (decide (s=([115,116,114]:atW))) ( il n (decide (s=([115,116,114]:atW)))) ( cond (decide (s=([98,111,111,108]:atW))) ( il n (decide (s=([98,111,111,108]:atW)))) ( cond (decide (s=([116,101,120,116]:atW))) ( il n (decide (s=([116,101,120,116]:atW)))) ( cond (decide (s=([108,101,110]:atW))) ( il n (decide (s=([108,101,110]:atW)))) ( cond (decide (s=([103,101,116,105,110,116]:atW))) ( il n (decide (s=([103,101,116,105,110,116]:atW)))) ( cond (decide (s=([103,101,116,115,116,114]:atW))) ( il n (decide (s=([103,101,116,115,116,114]:atW)))) ( cond (decide (s=([104,97,115]:atW))) ( il n (decide (s=([104,97,115]:atW)))) ( cond (decide (s=([110,111,119]:atW))) ( il n (decide (s=([110,111,119]:atW)))) ( cond (decide (s=([114,97,110,100,111,109]:atW))) ( il n (decide (s=([114,97,110,100,111,109]:atW)))) ( il n (decide (s=([110,111,100,101]:atW)))))))))))))))))))))))))))
def CJ(n:Nat)(c:Int):at0:=some (cond (decide (97≤c)) (decide (c≤122)) false)
def sA(s:atW):at0:=ax (!(cond (!(decide (s=([]:atW)))) (decide (((s.length:Nat):Int)≤16)) false)||aJ 0 s.length)<|Option.bind (cond (cond (!(decide (s=([]:atW)))) (decide (((s.length:Nat):Int)≤16)) false) (CJ n (IntKind.i32.wrap (((s.getD 0 0).toNat:Nat):Int))) (some default)) λr2=>Option.bind (cond (cond (cond (!(decide (s=([]:atW)))) (decide (((s.length:Nat):Int)≤16)) false) r2 false) (yt n s) (some default)) λr3=>Option.bind (cond (cond (cond (cond (!(decide (s=([]:atW)))) (decide (((s.length:Nat):Int)≤16)) false) r2 false) (decide (r3=((s.length:Nat):Int))) false) (CI n s) (some default)) λbj=>some (cond (cond (cond (cond (!(decide (s=([]:atW)))) (decide (((s.length:Nat):Int)≤16)) false) r2 false) (decide (r3=((s.length:Nat):Int))) false) (!bj) false)
def Ya(n:Nat)(s:atW):at0:=some (decide (((s.length:Nat):Int)≤64))
def OU(s:atW)(ak:Int→at0)(v4:Int):at0:=cond (decide (v4<((s.length:Nat):Int))) ( ax (aJ v4 s.length)<|ax ((decide ((((s.getD (v4).toNat 0).toNat:Nat):Int)<32))||aJ v4 s.length)<|cond (cond (decide ((((s.getD (v4).toNat 0).toNat:Nat):Int)<32)) true (decide (126<(((s.getD (v4).toNat 0).toNat:Nat):Int)))) ( some false) ( ak (atY (v4+1)))) ( Ya n s)
def CK(n:Nat)(s:atW):Nat→Int→at0
 | 0=>λ_=>none
 |m+1=>OU n s (CK n s m)
def CL(s:atW):at0:=CK n s n 0
def sB(v:bp):at0:=cond (decide (v.Kind=0)) ( some ((decide (v.Kind=0))&&((decide (v.N=0))&&((decide (v.S=([]:atW)))&&true)))) ( cond (decide (v.Kind=1)) ( some (decide (v.S=([]:atW)))) ( cond (decide (v.Kind=2)) ( Option.bind (cond (decide (v.N=0)) (CL n v.S) (some default)) λbj=>some (cond (decide (v.N=0)) bj false)) ( some false)))
def OV(v:bp):at0:=Option.bind (cond (!(decide (v.Kind=0))) (sB n v) (some default)) λr1=>some (cond (decide (v.Kind=0)) true (!r1))
def OW(n:Nat):at1:=some (-1)
def Hv(s:List bp)(ak:Int→at1)(v4:Int):at1:=cond (decide (v4<((s.length:Nat):Int))) ( ax (aJ v4 s.length)<|(OV n (atZ s v4)).bind λbO=>cond bO ( some v4) ( ak (atY (v4+1)))) ( OW n)
def yy(n:Nat)(s:List bp):Nat→Int→at1
 | 0=>λ_=>none
 |m+1=>Hv n s (yy n s m)
def OX(s:List bp):at1:=yy n s n 0
def OY(s:List bp):at0:=(OX n s).bind λr1=>some (decide (0≤r1))
def ot(ag:Request):at1:=cond (cond (cond (cond (decide (ag.Client<1)) true (decide (32<ag.Client))) true (decide (ag.Seq<1))) true (decide (1099511627776<ag.Seq))) ( some 1) ( (sA n ag.bc).bind λr2=>cond (!r2) ( some 7) ( cond (decide (6<((ag.ar.length:Nat):Int))) ( some 2) ( (OY n ag.ar).bind λbZ=>cond bZ ( some 1) ( (CH n ag.br).bind λcS=>cond (cond (cond (!cS) true ag.br.ee) true (cond (!ag.eN) (decide (0<(atY (((ag.br.Reads.length:Nat):Int)+((ag.br.cA.length:Nat):Int))))) false)) ( some 1) ( some 0)))))
def Hw(n:Nat)(b:List Int)(c:Int):Option (List Int):=ax (room (b.length+([c]:List Int).length) 1)<|some (b++([c]:List Int))
def OZ(v9:Int)(v10:List Int):Option atW:=(Hw n v10 (IntKind.u8.wrap v9)).bind λb4=>ax (nv b4)<|some (jR b4)
def O0(ak:Int→(List Int)→Option atW)(v4:Int)(v5:List Int):Option atW:=cond (decide (128≤v4)) ( (Hw n v5 (qK .u8 (IntKind.u8.wrap v4) 128)).bind λbO=>ak (nj .u64 v4 7) bO) ( OZ n v4 v5)
def CM(n:Nat):Nat→Int→(List Int)→Option atW
 | 0=>λ_ _=>none
 |m+1=>O0 n (CM n m)
def hY(u:Int):Option atW:=CM n n u ([]:List Int)
def p4(s:atW):Option atW:=(hY n (IntKind.u64.wrap ((s.length:Nat):Int))).bind λr1=>ax (b0 (r1.length+s.length))<|some (r1++s)
def O1(n:Nat)(bD:atW):Option atW:=some bD
def Hx(l:List atW)(ak:Int→atW→Option atW)(bz:Int)(bq:atW):Option atW:=cond (decide (bz<((l.length:Nat):Int))) ( ax (aJ bz l.length)<|(p4 n (atZ l bz)).bind λdg=>ax (b0 (bq.length+dg.length))<|ak (atY (bz+1)) (bq++dg)) ( O1 n bq)
def yz(n:Nat)(l:List atW):Nat→Int→atW→Option atW
 | 0=>λ_ _=>none
 |m+1=>Hx n l (yz n l m)
def CN(l:List atW):Option atW:=(hY n (IntKind.u64.wrap ((l.length:Nat):Int))).bind λr1=>yz n l n 0 r1
def q9(fw:Int):Option atW:=(hY n (mP .u64 (oP .u64 (IntKind.u64.wrap fw) 1) (IntKind.u64.wrap (nj .i64 fw 63)))).bind λr1=>some r1
def vZ(v:bp):Option atW:=cond (decide (v.Kind=1)) ( (hY n 1).bind λr2=>(q9 n v.N).bind λr3=>ax (b0 (r2.length+r3.length))<|some (r2++r3)) ( cond (decide (v.Kind=2)) ( (hY n 2).bind λbO=>(p4 n v.S).bind λcS=>ax (b0 (bO.length+cS.length))<|some (bO++cS)) ( (hY n 0).bind λcP=>some cP))
def O2(n:Nat)(b:Bool):Option atW:=cond b ( some ([1]:atW)) ( some ([0]:atW))
def CO(n:Nat)(hM:atW):Option atW:=some hM
def CP(ag:Request)(c7:atW):Option atW:=(O2 n ag.eN).bind λft=>ax (b0 (c7.length+ft.length))<|cond ag.eN ( (CN n ag.br.Reads).bind λf9=>(CN n ag.br.cA).bind λr26=>ax (b0 (f9.length+r26.length))<|ax (b0 ((c7++ft).length+(f9++r26).length))<|CO n ((c7++ft)++(f9++r26))) ( CO n (c7++ft))
def Hy(ag:Request)(eC:atW→Int→Option atW)(bB:atW)(dK:Int):Option atW:=cond (decide (dK<((ag.ar.length:Nat):Int))) ( ax (aJ dK ag.ar.length)<|(vZ n (atZ ag.ar dK)).bind λgt=>ax (b0 (bB.length+gt.length))<|eC (bB++gt) (atY (dK+1))) ( CP n ag bB)
def yA(n:Nat)(ag:Request):Nat→atW→Int→Option atW
 | 0=>λ_ _=>none
 |m+1=>Hy n ag (yA n ag m)
def Hz(ag:Request):Option atW:=(ot n ag).bind λr1=>cond (!decide (r1=0)) ( some ([]:atW)) ( (hY n (IntKind.u64.wrap ag.Client)).bind λr3=>(hY n (IntKind.u64.wrap ag.Seq)).bind λbj=>ax (b0 (r3.length+bj.length))<|(p4 n ag.bc).bind λbO=>ax (b0 ((r3++bj).length+bO.length))<|(hY n (IntKind.u64.wrap ((ag.ar.length:Nat):Int))).bind λcU=>ax (b0 (((r3++bj)++bO).length+cU.length))<|yA n ag n (((r3++bj)++bO)++cU) 0)
def O3(n:Nat)(a1:atW):Option atW:=some a1
def HA(l:List Request)(ak:Int→atW→Option atW)(v9:Int)(v10:atW):Option atW:=cond (decide (v9<((l.length:Nat):Int))) ( ax (aJ v9 l.length)<|(ot n (⟨(atZ l v9).Client,(atZ l v9).Seq,(atZ l v9).bc,(atZ l v9).ar,(atZ l v9).eN,⟨((atZ l v9).br).ee,((atZ l v9).br).Reads,((atZ l v9).br).cA⟩⟩:Request)).bind λeT=>cond (!decide (eT=0)) ( some ([]:atW)) ( (Hz n (⟨(atZ l v9).Client,(atZ l v9).Seq,(atZ l v9).bc,(atZ l v9).ar,(atZ l v9).eN,⟨((atZ l v9).br).ee,((atZ l v9).br).Reads,((atZ l v9).br).cA⟩⟩:Request)).bind λdR=>ax (b0 (v10.length+dR.length))<|ak (atY (v9+1)) (v10++dR))) ( O3 n v10)
def yB(n:Nat)(l:List Request):Nat→Int→atW→Option atW
 | 0=>λ_ _=>none
 |m+1=>HA n l (yB n l m)
def yC(l:List Request):Option atW:=cond (decide (64<((l.length:Nat):Int))) ( some ([]:atW)) ( (hY n (IntKind.u64.wrap ((l.length:Nat):Int))).bind λr2=>yB n l n 0 r2)
def O4(n:Nat):at0:=some true
def HB(floor:Int)(last:Int)(ag:Row)(ak:Int→at0)(bq:Int):at0:=cond (decide (bq<((ag.bl.length:Nat):Int))) ( ax (aJ bq ag.bl.length)<|Option.bind (cond (!(cond (decide ((atZ ag.bl bq).ck<floor)) true (decide (last<(atZ ag.bl bq).ck)))) (sB n (⟨((atZ ag.bl bq).bA).Kind,((atZ ag.bl bq).bA).N,((atZ ag.bl bq).bA).S⟩:bp)) (some default)) λdg=>cond (cond (cond (decide ((atZ ag.bl bq).ck<floor)) true (decide (last<(atZ ag.bl bq).ck))) true (!dg)) ( some false) ( ax (!(decide (0<bq))||aJ (atY (bq-1)) ag.bl.length)<|ax (!(decide (0<bq))||((decide ((atZ ag.bl bq).ck≤(atZ ag.bl (atY (bq-1))).ck))||aJ (atY (bq-1)) ag.bl.length))<|cond (cond (decide (0<bq)) (cond (decide ((atZ ag.bl bq).ck≤(atZ ag.bl (atY (bq-1))).ck)) true ((decide (((atZ ag.bl bq).bA).Kind=((atZ ag.bl (atY (bq-1))).bA).Kind))&&((decide (((atZ ag.bl bq).bA).N=((atZ ag.bl (atY (bq-1))).bA).N))&&((decide (((atZ ag.bl bq).bA).S=((atZ ag.bl (atY (bq-1))).bA).S))&&true)))) false) ( some false) ( ak (atY (bq+1))))) ( O4 n)
def yD(n:Nat)(floor:Int)(last:Int)(ag:Row):Nat→Int→at0
 | 0=>λ_=>none
 |m+1=>HB n floor last ag (yD n floor last ag m)
def HC(ag:Row)(floor:Int)(last:Int):at0:=ax ((decide (((ag.bl.length:Nat):Int)=0))||aJ 0 ag.bl.length)<|cond (cond (decide (((ag.bl.length:Nat):Int)=0)) true (decide (((ag.bl.getD 0 default).bA).Kind=0))) ( some false) ( yD n floor last ag n 0)
def O5(n:Nat):at0:=some true
def HD(s:aB)(ak:Int→at0)(bz:Int):at0:=cond (decide (bz<((s.Rows.length:Nat):Int))) ( ax (aJ bz s.Rows.length)<|(vY n ((atZ s.Rows bz).Key)).bind λcP=>ax ((!cP)||(!(decide (0<bz))||aJ (atY (bz-1)) s.Rows.length))<|Option.bind (cond (!(cond (!cP) true (cond (decide (0<bz)) ((Op.bytesLess ((atZ s.Rows bz).Key) ((atZ s.Rows (atY (bz-1))).Key))||(decide (((atZ s.Rows bz).Key)=((atZ s.Rows (atY (bz-1))).Key)))) false))) (HC n (atZ s.Rows bz) s.cl s.b9) (some default)) λb4=>cond (cond (cond (!cP) true (cond (decide (0<bz)) ((Op.bytesLess ((atZ s.Rows bz).Key) ((atZ s.Rows (atY (bz-1))).Key))||(decide (((atZ s.Rows bz).Key)=((atZ s.Rows (atY (bz-1))).Key)))) false)) true (!b4)) ( some false) ( ak (atY (bz+1)))) ( O5 n)
def yE(n:Nat)(s:aB):Nat→Int→at0
 | 0=>λ_=>none
 |m+1=>HD n s (yE n s m)
def v7(s:aB):at0:=cond (cond (cond (decide (s.cl<0)) true (decide (s.b9<s.cl))) true (decide (1099511627776<s.b9))) ( some false) ( yE n s n 0)
def yF(n:Nat)(s:aB)(at_:Int):at1:=cond (cond (decide (at_<s.cl)) true (decide (s.b9<at_))) ( some 15) ( some 0)
def HE(n:Nat)(v6:Int):at1:=some v6
def HF(at_:Int)(ag:Row)(ak:Int→at1)(v3:Int):at1:=ax (!(decide (v3<((ag.bl.length:Nat):Int)))||aJ v3 ag.bl.length)<|cond (cond (decide (v3<((ag.bl.length:Nat):Int))) (decide ((atZ ag.bl v3).ck≤at_)) false) ( ak (atY (v3+1))) ( HE n v3)
def v8(n:Nat)(at_:Int)(ag:Row):Nat→Int→at1
 | 0=>λ_=>none
 |m+1=>HF n at_ ag (v8 n at_ ag m)
def CQ(ag:Row)(at_:Int):at1:=v8 n at_ ag n 0
def yG(ag:Row)(at_:Int):Option bp:=(CQ n ag at_).bind λr1=>cond (decide (r1=0)) ( some (⟨0,0,[]⟩:bp)) ( ax (aJ (atY (r1-1)) ag.bl.length)<|some (⟨((atZ ag.bl (atY (r1-1))).bA).Kind,((atZ ag.bl (atY (r1-1))).bA).N,((atZ ag.bl (atY (r1-1))).bA).S⟩:bp))
def HG(n:Nat)(cW:List bn):Option ((List bn)×Int):=some (cW,0)
def yH(n:Nat)(ak:Int→(List bn)→Option ((List bn)×Int))(at_:Int)(s:aB)(v11:Int)(dK:List bn):Option ((List bn)×Int):=ak (atY (v11+1)) dK
def HH(at_:Int)(s:aB)(ak:Int→(List bn)→Option ((List bn)×Int))(v11:Int)(v12:List bn):Option ((List bn)×Int):=cond (decide (v11<((s.Rows.length:Nat):Int))) ( ax (aJ v11 s.Rows.length)<|(yG n (atZ s.Rows v11) at_).bind λeY=>cond (!decide (eY.Kind=0)) ( ax (room (v12.length+([(⟨(atZ s.Rows v11).Key,eY⟩:bn)]:List bn).length) 48)<|yH n ak at_ s v11 (v12++([(⟨(atZ s.Rows v11).Key,eY⟩:bn)]:List bn))) ( yH n ak at_ s v11 v12)) ( HG n v12)
def v'(n:Nat)(at_:Int)(s:aB):Nat→Int→(List bn)→Option ((List bn)×Int)
 | 0=>λ_ _=>none
 |m+1=>HH n at_ s (v' n at_ s m)
def v_(s:aB)(at_:Int):Option ((List bn)×Int):=(v7 n s).bind λr1=>cond (!r1) ( some (([]:List bn),1)) ( (yF n s at_).bind λr3=>cond (!decide (r3=0)) ( some (([]:List bn),r3)) ( v' n at_ s n 0 ([]:List bn)))
def O6(n:Nat)(m5:atW):Option atW:=some m5
def HI(p:cb)(ak:Int→atW→Option atW)(a1:Int)(cm:atW):Option atW:=cond (decide (a1<((p.aE.length:Nat):Int))) ( ax (aJ a1 p.aE.length)<|(q9 n ((atZ p.aE a1).Id)).bind λeO=>(p4 n ((atZ p.aE a1).ec)).bind λfD=>ax (b0 (eO.length+fD.length))<|(q9 n ((atZ p.aE a1).Node)).bind λft=>ax (b0 ((eO++fD).length+ft.length))<|(q9 n ((atZ p.aE a1).fC)).bind λf9=>ax (b0 (((eO++fD)++ft).length+f9.length))<|(p4 n ((atZ p.aE a1).gQ)).bind λr27=>ax (b0 ((((eO++fD)++ft)++f9).length+r27.length))<|ax (b0 (cm.length+((((eO++fD)++ft)++f9)++r27).length))<|ak (atY (a1+1)) (cm++((((eO++fD)++ft)++f9)++r27))) ( O6 n cm)
def yI(n:Nat)(p:cb):Nat→Int→atW→Option atW
 | 0=>λ_ _=>none
 |m+1=>HI n p (yI n p m)
def CR(p:cb):Option atW:=(q9 n p.Version).bind λr1=>(hY n (IntKind.u64.wrap ((p.aE.length:Nat):Int))).bind λr2=>ax (b0 (r1.length+r2.length))<|yI n p n 0 (r1++r2)
def O7(n:Nat)(y:Param)(ae:Param):at0:=some (decide (y.Name=ae.Name))
def O8(n:Nat)(ae:Param):at1:=some (-1)
def O9(s:List Param)(ae:Param)(ak:Int→at1)(v4:Int):at1:=cond (decide (v4<((s.length:Nat):Int))) ( ax (aJ v4 s.length)<|(O7 n (atZ s v4) ae).bind λbO=>cond bO ( some v4) ( ak (atY (v4+1)))) ( O8 n ae)
def yJ(n:Nat)(s:List Param)(ae:Param):Nat→Int→at1
 | 0=>λ_=>none
 |m+1=>O9 n s ae (yJ n s ae m)
def O'(s:List Param)(ae:Param):at1:=yJ n s ae n 0
def HJ(s:List Param)(ae:Param):at0:=(O' n s ae).bind λr1=>some (decide (0≤r1))
def O_(n:Nat):at1:=some 0
def Pa(l:List Param)(ak:Int→at1)(bz:Int):at1:=cond (decide (bz<((l.length:Nat):Int))) ( ax (aJ bz l.length)<|(sA n ((atZ l bz).Name)).bind λcP=>cond (!cP) ( some 7) ( cond (cond (decide ((atZ l bz).fs<1)) true (decide (3<(atZ l bz).fs))) ( some 10) ( ax (hh bz l.length)<|(HJ n (l.take (bz).toNat) (atZ l bz)).bind λb4=>cond b4 ( some 8) ( ak (atY (bz+1)))))) ( O_ n)
def yK(n:Nat)(l:List Param):Nat→Int→at1
 | 0=>λ_=>none
 |m+1=>Pa n l (yK n l m)
def HK(l:List Param):at1:=cond (decide (6<((l.length:Nat):Int))) ( some 2) ( yK n l n 0)
def HL(n:Nat)(op:Int):at1:=cond (cond (decide (op<1)) true (decide (27<op))) ( some (-1)) ( cond (cond (decide (op≤3)) true (decide (25≤op))) ( some 0) ( cond (cond (cond (decide (op=9)) true (decide (op=18))) true (decide (20≤op))) ( some 1) ( some 2)))
def Pb(n:Nat)(s:atW):at0:=some (decide (((s.length:Nat):Int)≤64))
def Pc(s:atW)(ak:Int→at0)(v4:Int):at0:=cond (decide (v4<((s.length:Nat):Int))) ( ax (aJ v4 s.length)<|ax ((decide ((((s.getD (v4).toNat 0).toNat:Nat):Int)<32))||aJ v4 s.length)<|cond (cond (decide ((((s.getD (v4).toNat 0).toNat:Nat):Int)<32)) true (decide (126<(((s.getD (v4).toNat 0).toNat:Nat):Int)))) ( some false) ( ak (atY (v4+1)))) ( Pb n s)
def yL(n:Nat)(s:atW):Nat→Int→at0
 | 0=>λ_=>none
 |m+1=>Pc n s (yL n s m)
def Pd(s:atW):at0:=yL n s n 0
def HM(e:Expr)(depth:Int):at1:=(HL n e.Op).bind λr1=>cond (cond (cond (decide (r1<0)) true (cond (!decide (e.Op=1)) (!decide (e.N=0)) false)) true (cond (cond (!decide (e.Op=2)) (!decide (e.Op=3)) false) (!(decide (e.S=([]:atW)))) false)) ( some 1) ( Option.bind (cond (decide (e.Op=3)) (sA n e.S) (some default)) λr3=>cond (cond (decide (e.Op=3)) (!r3) false) ( some 7) ( Option.bind (cond ((!(cond (decide (e.Op=1)) (decide (e.N<0)) false))&&(decide (e.Op=2))) (Pd n e.S) (some default)) λbZ=>cond (cond (cond (cond (decide (e.Op=1)) (decide (e.N<0)) false) true (cond (decide (e.Op=2)) (!bZ) false)) true (!decide (((e.ar.length:Nat):Int)=r1))) ( some 1) ( cond (decide (12<depth)) ( some 2) ( some 0))))
def Pe(n:Nat)(ny:Expr→Int→at1):at1:=some 0
def Pf(ny:Expr→Int→at1)(depth:Int)(e:Expr)(ak:Int→at1)(v6:Int):at1:=cond (decide (v6<((e.ar.length:Nat):Int))) ( ax (aJ v6 e.ar.length)<|(ny (atZ e.ar v6) (atY (depth+1))).bind λcU=>cond (!decide (cU=0)) ( some cU) ( ak (atY (v6+1)))) ( Pe n ny)
def CS(n:Nat)(ny:Expr→Int→at1)(depth:Int)(e:Expr):Nat→Int→at1
 | 0=>λ_=>none
 |m+1=>Pf n ny depth e (CS n ny depth e m)
def Pg(ny:Expr→Int→at1)(e:Expr)(depth:Int):at1:=(HM n e depth).bind λr1=>cond (!decide (r1=0)) ( some r1) ( CS n ny depth e n 0)
def yM:Nat→Expr→Int→at1
 | 0=>λ_ _=>none
 |m+1=>Pg m (yM m)
def CT(e:Expr):at1:=(yM n e 1).bind λr1=>some r1
def yN(n:Nat)(e:Expr):at0:=some (cond (cond (cond (decide (e.Op=0)) (decide (e.N=0)) false) (decide (e.S=([]:atW))) false) (decide (((e.ar.length:Nat):Int)=0)) false)
def HN(s:Stmt)(u:k2):at0:=Option.bind (cond ((!(cond (!u.name) (!(decide (s.Name=([]:atW)))) false))&&(!u.a)) (yN n (⟨s.A.Op,s.A.N,s.A.S,s.A.ar⟩:Expr)) (some default)) λr1=>Option.bind (cond ((!(cond (cond (!u.name) (!(decide (s.Name=([]:atW)))) false) true (cond (!u.a) (!r1) false)))&&(!u.b)) (yN n (⟨s.B.Op,s.B.N,s.B.S,s.B.ar⟩:Expr)) (some default)) λr2=>cond (cond (cond (cond (cond (cond (cond (!u.name) (!(decide (s.Name=([]:atW)))) false) true (cond (!u.a) (!r1) false)) true (cond (!u.b) (!r2) false)) true (cond (!u.max) (!decide (s.Max=0)) false)) true (cond (!u.body) (decide (0<((s.Body.length:Nat):Int))) false)) true (cond (!u.other) (decide (0<((s.bx.length:Nat):Int))) false)) ( some false) ( cond (decide (s.Op=6)) ( some (cond (decide (1≤s.Max)) (decide (s.Max≤16)) false)) ( cond (decide (s.Op=8)) ( some (cond (decide (0≤s.Max)) (decide (s.Max≤999)) false)) ( some true)))
def Ph(n:Nat):Option (k2×Bool):=some ((⟨false,false,false,false,false,false⟩:k2),false)
def HO(op:Int)(v2:Bool):Option (k2×Bool):=cond v2 ( some ((⟨false,true,false,false,false,false⟩:k2),true)) ( cond (decide (op=5)) ( some ((⟨false,true,false,false,true,true⟩:k2),true)) ( cond (decide (op=6)) ( some ((⟨true,true,true,true,true,false⟩:k2),true)) ( cond (decide (op=8)) ( some ((⟨false,false,false,true,false,false⟩:k2),true)) ( Ph n))))
def HP(op:Int)(v1:Bool):Option (k2×Bool):=cond v1 ( some ((⟨true,true,false,false,false,false⟩:k2),true)) ( cond (decide (op=3)) ( some ((⟨false,true,true,false,false,false⟩:k2),true)) ( cond (decide (op=4)) ( HO n op (decide (op=4))) ( HO n op (decide (op=7)))))
def HQ(op:Int):Option (k2×Bool):=cond (decide (op=1)) ( HP n op (decide (op=1))) ( HP n op (decide (op=2)))
def HR(n:Nat)(depth:Int):at1:=cond (decide (12<depth)) ( some 2) ( some 0)
def HS(depth:Int)(s:Stmt)(r1:k2×Bool):at1:=cond r1.1.b ( (CT n (⟨s.B.Op,s.B.N,s.B.S,s.B.ar⟩:Expr)).bind λcS=>cond (!decide (cS=0)) ( some cS) ( HR n depth)) ( HR n depth)
def HT(s:Stmt)(depth:Int):at1:=(HQ n s.Op).bind λr1=>Option.bind (cond (!(!r1.2)) (HN n (⟨s.Op,s.Name,s.Max,⟨s.A.Op,s.A.N,s.A.S,s.A.ar⟩,⟨s.B.Op,s.B.N,s.B.S,s.B.ar⟩,s.Body,s.bx⟩:Stmt) r1.1) (some default)) λr2=>cond (cond (!r1.2) true (!r2)) ( some 1) ( Option.bind (cond r1.1.name (sA n s.Name) (some default)) λbj=>cond (cond r1.1.name (!bj) false) ( some 7) ( cond r1.1.a ( (CT n (⟨s.A.Op,s.A.N,s.A.S,s.A.ar⟩:Expr)).bind λbO=>cond (!decide (bO=0)) ( some bO) ( HS n depth s r1)) ( HS n depth s r1)))
def HU(s:Stmt)(depth:Int)(ae:Int):at1:=cond (decide (ae=0)) ( (HT n (⟨s.Op,s.Name,s.Max,⟨s.A.Op,s.A.N,s.A.S,s.A.ar⟩,⟨s.B.Op,s.B.N,s.B.S,s.B.ar⟩,s.Body,s.bx⟩:Stmt) depth).bind λr2=>some r2) ( some ae)
def Pi(n:Nat)(a0:Expr):Option Unit:=some ()
def Pj(n:Nat)(p5:Expr→Int→Int→at1)(e:Expr)(gy:Int)(c_:Int→Int→at1)(v6:Int)(bz:Int):at1:=cond (decide (bz<((e.ar.length:Nat):Int))) ( ax (aJ bz e.ar.length)<|(p5 (atZ e.ar bz) v6 gy).bind λcP=>c_ cP (atY (bz+1))) ( some v6)
def CU(n:Nat)(p5:Expr→Int→Int→at1)(e:Expr)(gy:Int):Nat→Int→Int→at1
 | 0=>λ_ _=>none
 |m+1=>Pj n p5 e gy (CU n p5 e gy m)
def Pk(p5:Expr→Int→Int→at1)(e:Expr)(jB:Int)(gy:Int):at1:=cond (decide (jB=0)) ( some jB) ( CU n p5 e gy n (atY (jB-1)) 0)
def yO:Nat→Expr→Int→Int→at1
 | 0=>λ_ _ _=>none
 |m+1=>Pk m (yO m)
def CV(e:Expr)(jB:Int)(gy:Int):at1:=Option.bind (cond (!(decide (jB=0))) (yN n e) (some default)) λr1=>cond (cond (decide (jB=0)) true r1) ( some jB) ( (Pi n e).bind λr3=>(yO n e jB gy).bind λbj=>some bj)
def Pl(o6:(List Stmt)→Int→Int→Int→Option (Int×Int))(depth:Int)(l:List Stmt)(c_:Int→Int→Int→Option (Int×Int))(v10:Int)(v11:Int)(v12:Int):Option (Int×Int):=cond (decide (v12<((l.length:Nat):Int))) ( ax (aJ v12 l.length)<|cond (decide (v10=0)) ( some (v10,v11)) ( (HU n (⟨(atZ l v12).Op,(atZ l v12).Name,(atZ l v12).Max,⟨((atZ l v12).A).Op,((atZ l v12).A).N,((atZ l v12).A).S,((atZ l v12).A).ar⟩,⟨((atZ l v12).B).Op,((atZ l v12).B).N,((atZ l v12).B).S,((atZ l v12).B).ar⟩,(atZ l v12).Body,(atZ l v12).bx⟩:Stmt) depth v11).bind λeY=>(CV n (⟨((atZ l v12).A).Op,((atZ l v12).A).N,((atZ l v12).A).S,((atZ l v12).A).ar⟩:Expr) (atY (v10-1)) eY).bind λdS=>(CV n (⟨((atZ l v12).B).Op,((atZ l v12).B).N,((atZ l v12).B).S,((atZ l v12).B).ar⟩:Expr) dS eY).bind λeG=>(o6 ((atZ l v12).Body) (atY (depth+1)) eG eY).bind λeZ=>(o6 ((atZ l v12).bx) (atY (depth+1)) eZ.1 eZ.2).bind λgt=>c_ gt.1 gt.2 (atY (v12+1)))) ( some (v10,v11))
def CW(n:Nat)(o6:(List Stmt)→Int→Int→Int→Option (Int×Int))(depth:Int)(l:List Stmt):Nat→Int→Int→Int→Option (Int×Int)
 | 0=>λ_ _ _=>none
 |m+1=>Pl n o6 depth l (CW n o6 depth l m)
def Pm(o6:(List Stmt)→Int→Int→Int→Option (Int×Int))(l:List Stmt)(depth:Int)(jB:Int)(gy:Int):Option (Int×Int):=CW n o6 depth l n jB gy 0
def wa:Nat→(List Stmt)→Int→Int→Int→Option (Int×Int)
 | 0=>λ_ _ _ _=>none
 |m+1=>Pm m (wa m)
def Pn(p:bc)(ae:Int):Option (Int×Int):=(wa n p.Body 1 401 ae).bind λr1=>some ((atY (401-r1.1)),r1.2)
def CX(p:bc):at1:=(sA n p.Name).bind λr1=>cond (!r1) ( some 7) ( (HK n p.Params).bind λr3=>cond (!decide (r3=0)) ( some r3) ( (Pn n p r3).bind λbZ=>cond (cond (decide (bZ.2=0)) (decide (400<bZ.1)) false) ( some 2) ( some bZ.2)))
def HV(n:Nat)(ty:Int):Option atW:=cond (decide (ty=1)) ( some ([105,110,116]:atW)) ( cond (decide (ty=2)) ( some ([115,116,114]:atW)) ( some ([98,111,111,108]:atW)))
def q_(n:Nat)(op:Int):Option (Unit ⊕ Unit ⊕ Unit ⊕ Unit ⊕ Unit ⊕ Unit ⊕ Unit ⊕ Unit):=cond (decide (op=1)) ( some (.inl ())) ( cond (decide (op=2)) ( some (.inr (.inl ()))) ( cond (decide (op=3)) ( some (.inr (.inr (.inl ())))) ( cond (decide (op=4)) ( some (.inr (.inr (.inr (.inl ()))))) ( cond (decide (op=5)) ( some (.inr (.inr (.inr (.inr (.inl ())))))) ( cond (decide (op=6)) ( some (.inr (.inr (.inr (.inr (.inr (.inl ()))))))) ( cond (decide (op=7)) ( some (.inr (.inr (.inr (.inr (.inr (.inr (.inl ())))))))) ( some (.inr (.inr (.inr (.inr (.inr (.inr (.inr ()))))))))))))))
def wb(fw:Int):Option atW:=(Hp n fw 10).bind λr1=>some r1
def yP(n:Nat)(b':List Int)(cc:Int):Option Unit:=some ()
def HW(c:Int)(b':List Int)(cc:Int):Option (List Int):=(yP n b' cc).bind λr1=>ax (room (b'.length+([c]:List Int).length) 1)<|some (b'++([c]:List Int))
def CY(s:atW)(b':List Int)(cc:Int):Option (Int×(List Int)):=(yP n b' cc).bind λr1=>ax (room (b'.length+s.length) 1)<|some (((s.length:Nat):Int),(b'++s.map λb=>(b.toNat:Int)))
def Po(cc:Int)(v20:List Int):Option (List Int):=(HW n 10 v20 cc).bind λfD=>some fD
def Pp(parts:List atW)(cc:Int)(eC:(List Int)→Int→Option (List Int))(bD:List Int)(bB:Int):Option (List Int):=cond (decide (bB<((parts.length:Nat):Int))) ( ax (aJ bB parts.length)<|(CY n (atZ parts bB) bD cc).bind λeZ=>eC eZ.2 (atY (bB+1))) ( Po n cc bD)
def CZ(n:Nat)(parts:List atW)(cc:Int):Nat→(List Int)→Int→Option (List Int)
 | 0=>λ_ _=>none
 |m+1=>Pp n parts cc (CZ n parts cc m)
def Pq(parts:List atW)(cc:Int)(v9:List Int):Option (List Int):=CZ n parts cc n v9 0
def Pr(parts:List atW)(cc:Int)(d_:(List Int)→Int→Option (List Int))(v4:List Int)(v5:Int):Option (List Int):=cond (decide (v5<cc)) ( (CY n ([32,32,32,32]:atW) v4 cc).bind λbO=>d_ bO.2 (atY (v5+1))) ( Pq n parts cc v4)
def C0(n:Nat)(parts:List atW)(cc:Int):Nat→(List Int)→Int→Option (List Int)
 | 0=>λ_ _=>none
 |m+1=>Pr n parts cc (C0 n parts cc m)
def mt(parts:List atW)(b':List Int)(cc:Int):Option (List Int):=C0 n parts cc n b' 0
def Ps(s:Stmt)(b':List Int)(cc:Int):Option (List Int):=(wb n s.Max).bind λr1=>(mt n ([([97,98,111,114,116,32]:atW),r1,([59]:atW)]:List atW) b' cc).bind λr2=>some r2
def Pt(n:Nat):at0:=some true
def Pu(s:atW)(ak:Int→at0)(v4:Int):at0:=cond (decide (v4<((s.length:Nat):Int))) ( ax (aJ v4 s.length)<|ax ((decide ((((s.getD (v4).toNat 0).toNat:Nat):Int)<32))||aJ v4 s.length)<|cond (cond (decide ((((s.getD (v4).toNat 0).toNat:Nat):Int)<32)) true (decide (126<(((s.getD (v4).toNat 0).toNat:Nat):Int)))) ( some false) ( ak (atY (v4+1)))) ( Pt n)
def C1(n:Nat)(s:atW):Nat→Int→at0
 | 0=>λ_=>none
 |m+1=>Pu n s (C1 n s m)
def Pv(s:atW):at0:=C1 n s n 0
def sC(n:Nat)(b':List Int):Option (atW×(List Int)):=ax (nv b'&&decide (b'.length≤9223372036854775807))<|some (jR b',b')
def yQ(n:Nat)(b':List Int):Option Unit:=some ()
def ra(c:Int)(b':List Int):Option (List Int):=(yQ n b').bind λr1=>ax (room (b'.length+([c]:List Int).length) 1)<|some (b'++([c]:List Int))
def Pw(v25:List Int):Option (atW×Int):=(ra n 34 v25).bind λr26=>(sC n r26).bind λr27=>some (r27.1,0)
def Px(n:Nat)(ak:(List Int)→Int→Option (atW×Int))(s:atW)(bB:Int)(c7:List Int):Option (atW×Int):=ak c7 (atY (bB+1))
def HX(ak:(List Int)→Int→Option (atW×Int))(s:atW)(bB:Int)(cW:List Int):Option (atW×Int):=ax (aJ bB s.length)<|(ra n (((s.getD (bB).toNat 0).toNat:Nat):Int) cW).bind λfD=>Px n ak s bB fD
def Py(s:atW)(ak:(List Int)→Int→Option (atW×Int))(bD:List Int)(bB:Int):Option (atW×Int):=cond (decide (bB<((s.length:Nat):Int))) ( ax (aJ bB s.length)<|ax ((decide ((((s.getD (bB).toNat 0).toNat:Nat):Int)=34))||aJ bB s.length)<|cond (cond (decide ((((s.getD (bB).toNat 0).toNat:Nat):Int)=34)) true (decide ((((s.getD (bB).toNat 0).toNat:Nat):Int)=92))) ( (ra n 92 bD).bind λgt=>HX n ak s bB gt) ( HX n ak s bB bD)) ( Pw n bD)
def C2(n:Nat)(s:atW):Nat→(List Int)→Int→Option (atW×Int)
 | 0=>λ_ _=>none
 |m+1=>Py n s (C2 n s m)
def HY(s:atW):Option (atW×Int):=cond (decide (64<((s.length:Nat):Int))) ( some (([]:atW),2)) ( (Pv n s).bind λr2=>cond (!r2) ( some (([]:atW),1)) ( (ra n 34 ([]:List Int)).bind λbj=>C2 n s n bj 0))
def Pz(n:Nat):at1:=some 9
def C3(op:Int)(v3:Bool):at1:=cond v3 ( some 7) ( cond (decide (op=9)) ( some 8) ( Pz n))
def HZ(op:Int)(v2:Bool):at1:=cond v2 ( some 6) ( cond (decide (op=6)) ( C3 n op (decide (op=6))) ( cond (decide (op=7)) ( C3 n op (decide (op=7))) ( C3 n op (decide (op=8)))))
def tZ(op:Int)(v1:Bool):at1:=cond v1 ( some 4) ( cond (decide (op=19)) ( some 5) ( cond (decide (op=4)) ( HZ n op (decide (op=4))) ( HZ n op (decide (op=5)))))
def C4(op:Int):at1:=cond (decide (op=17)) ( some 1) ( cond (decide (op=16)) ( some 2) ( cond (decide (op=18)) ( some 3) ( cond (decide (op=10)) ( tZ n op (decide (op=10))) ( cond (decide (op=11)) ( tZ n op (decide (op=11))) ( cond (decide (op=12)) ( tZ n op (decide (op=12))) ( cond (decide (op=13)) ( tZ n op (decide (op=13))) ( cond (decide (op=14)) ( tZ n op (decide (op=14))) ( tZ n op (decide (op=15))))))))))
def H0(n:Nat)(op:Int):Option atW:=cond (decide (op=17)) ( some ([111,114]:atW)) ( cond (decide (op=16)) ( some ([97,110,100]:atW)) ( cond (decide (op=10)) ( some ([61,61]:atW)) ( cond (decide (op=11)) ( some ([33,61]:atW)) ( cond (decide (op=12)) ( some ([60]:atW)) ( cond (decide (op=13)) ( some ([60,61]:atW)) ( cond (decide (op=14)) ( some ([62]:atW)) ( cond (decide (op=15)) ( some ([62,61]:atW)) ( cond (decide (op=19)) ( some ([43,43]:atW)) ( cond (decide (op=4)) ( some ([43]:atW)) ( cond (decide (op=5)) ( some ([45]:atW)) ( cond (decide (op=6)) ( some ([42]:atW)) ( cond (decide (op=7)) ( some ([47]:atW)) ( some ([37]:atW))))))))))))))
def H2(n:Nat)(op:Int):Option atW:=cond (decide (op=20)) ( some ([116,101,120,116]:atW)) ( cond (decide (op=21)) ( some ([108,101,110]:atW)) ( cond (decide (op=22)) ( some ([103,101,116,105,110,116]:atW)) ( cond (decide (op=23)) ( some ([103,101,116,115,116,114]:atW)) ( cond (decide (op=24)) ( some ([104,97,115]:atW)) ( cond (decide (op=25)) ( some ([110,111,119]:atW)) ( cond (decide (op=26)) ( some ([114,97,110,100,111,109]:atW)) ( cond (decide (op=27)) ( some ([110,111,100,101]:atW)) ( some ([]:atW)))))))))
def H3(rb:Expr→Option atW)(ou:Expr→Int→Option atW)(e:Expr):Option atW:=(C4 n e.Op).bind λr1=>cond (decide (e.Op=1)) ( (wb n e.N).bind λr3=>some r3) ( cond (decide (e.Op=2)) ( (HY n e.S).bind λbZ=>some bZ.1) ( cond (decide (e.Op=3)) ( some e.S) ( cond (decide (e.Op=18)) ( ax (aJ 0 e.ar.length)<|(ou (e.ar.getD 0 default) r1).bind λcP=>ax (b0 (([110,111,116,32]:atW).length+cP.length))<|some (([110,111,116,32]:atW)++cP)) ( cond (decide (e.Op=9)) ( ax (aJ 0 e.ar.length)<|(ou (e.ar.getD 0 default) r1).bind λdR=>ax (b0 (([45]:atW).length+dR.length))<|some (([45]:atW)++dR)) ( cond (cond (decide (r1=9)) (decide (((e.ar.length:Nat):Int)=0)) false) ( (H2 n e.Op).bind λeG=>ax (b0 (eG.length+([40,41]:atW).length))<|some (eG++([40,41]:atW))) ( cond (decide (r1=9)) ( (H2 n e.Op).bind λfo=>ax (b0 (fo.length+([40]:atW).length))<|ax (aJ 0 e.ar.length)<|(rb (e.ar.getD 0 default)).bind λes=>ax (b0 ((fo++([40]:atW)).length+es.length))<|ax (b0 (((fo++([40]:atW))++es).length+([41]:atW).length))<|some (((fo++([40]:atW))++es)++([41]:atW))) ( cond (decide (r1=4)) ( ax (aJ 0 e.ar.length)<|(ou (e.ar.getD 0 default) 5).bind λr27=>ax (b0 (r27.length+([32]:atW).length))<|(H0 n e.Op).bind λfI=>ax (b0 ((r27++([32]:atW)).length+fI.length))<|ax (b0 (((r27++([32]:atW))++fI).length+([32]:atW).length))<|ax (aJ 1 e.ar.length)<|(ou (e.ar.getD 1 default) 5).bind λo7=>ax (b0 ((((r27++([32]:atW))++fI)++([32]:atW)).length+o7.length))<|some ((((r27++([32]:atW))++fI)++([32]:atW))++o7)) ( ax (aJ 0 e.ar.length)<|(ou (e.ar.getD 0 default) r1).bind λov=>ax (b0 (ov.length+([32]:atW).length))<|(H0 n e.Op).bind λp6=>ax (b0 ((ov++([32]:atW)).length+p6.length))<|ax (b0 (((ov++([32]:atW))++p6).length+([32]:atW).length))<|ax (aJ 1 e.ar.length)<|(ou (e.ar.getD 1 default) (atY (r1+1))).bind λhN=>ax (b0 ((((ov++([32]:atW))++p6)++([32]:atW)).length+hN.length))<|some ((((ov++([32]:atW))++p6)++([32]:atW))++hN)))))))))
def H4(rb:Expr→Option atW)(ou:Expr→Int→Option atW)(e:Expr)(least:Int):Option atW:=(C4 n e.Op).bind λr1=>cond (decide (r1<least)) ( (rb e).bind λr3=>ax (b0 (([40]:atW).length+r3.length))<|ax (b0 ((([40]:atW)++r3).length+([41]:atW).length))<|some ((([40]:atW)++r3)++([41]:atW))) ( (rb e).bind λbO=>some bO)
def yR:Nat→(Expr→Option atW)×(Expr→Int→Option atW)
 | 0=>(λ_=>none,λ_ _=>none)
 |m+1=>(H3 m ((yR m).1) ((yR m).2),H4 m ((yR m).1) ((yR m).2))
def l6:Expr→Option atW:=(yR n).1
def wc:Expr→Int→Option atW:=(yR n).2
def PA(s:Stmt)(b':List Int)(cc:Int):Option (List Int):=(l6 n (⟨s.A.Op,s.A.N,s.A.S,s.A.ar⟩:Expr)).bind λr1=>(mt n ([s.Name,([32,61,32]:atW),r1,([59]:atW)]:List atW) b' cc).bind λr2=>some r2
def PB(s:Stmt)(b':List Int)(cc:Int):Option (List Int):=(l6 n (⟨s.A.Op,s.A.N,s.A.S,s.A.ar⟩:Expr)).bind λr1=>(mt n ([([108,101,116,32]:atW),s.Name,([32,61,32]:atW),r1,([59]:atW)]:List atW) b' cc).bind λr2=>some r2
def PC(s:Stmt)(b':List Int)(cc:Int):Option (List Int):=(l6 n (⟨s.A.Op,s.A.N,s.A.S,s.A.ar⟩:Expr)).bind λr1=>(mt n ([([101,109,105,116,32]:atW),r1,([59]:atW)]:List atW) b' cc).bind λr2=>some r2
def PD(s:Stmt)(b':List Int)(cc:Int):Option (List Int):=(l6 n (⟨s.A.Op,s.A.N,s.A.S,s.A.ar⟩:Expr)).bind λr1=>(l6 n (⟨s.B.Op,s.B.N,s.B.S,s.B.ar⟩:Expr)).bind λr2=>(mt n ([([112,117,116,32]:atW),r1,([32,61,32]:atW),r2,([59]:atW)]:List atW) b' cc).bind λr3=>some r3
def PE(s:Stmt)(b':List Int)(cc:Int):Option (List Int):=(l6 n (⟨s.A.Op,s.A.N,s.A.S,s.A.ar⟩:Expr)).bind λr1=>(mt n ([([100,101,108,101,116,101,32]:atW),r1,([59]:atW)]:List atW) b' cc).bind λr2=>some r2
def PF(n:Nat)(ib:(List Stmt)→(List Int)→Int→Option ((List Int)×Int))(iB:Stmt→(List Int)→Int→Option ((List Int)×Int))(iC:Stmt→(List Int)→Int→Option ((List Int)×Int))(m5:List Int)(gX:Int):Option ((List Int)×Int):=some (m5,(atY (gX-1)))
def PG(ib:(List Stmt)→(List Int)→Int→Option ((List Int)×Int))(iB:Stmt→(List Int)→Int→Option ((List Int)×Int))(iC:Stmt→(List Int)→Int→Option ((List Int)×Int))(l:List Stmt)(ak:(List Int)→Int→Int→Option ((List Int)×Int))(bB:List Int)(dK:Int)(a1:Int):Option ((List Int)×Int):=cond (decide (a1<((l.length:Nat):Int))) ( ax (aJ a1 l.length)<|(q_ n ((atZ l a1).Op)).bind λfo=>ii.on fo (λahP=>(PB n (⟨(atZ l a1).Op,(atZ l a1).Name,(atZ l a1).Max,⟨((atZ l a1).A).Op,((atZ l a1).A).N,((atZ l a1).A).S,((atZ l a1).A).ar⟩,⟨((atZ l a1).B).Op,((atZ l a1).B).N,((atZ l a1).B).S,((atZ l a1).B).ar⟩,(atZ l a1).Body,(atZ l a1).bx⟩:Stmt) bB dK).bind λfD=>ak fD dK (atY (a1+1))) (λYb=>ii.on Yb (λahQ=>(PA n (⟨(atZ l a1).Op,(atZ l a1).Name,(atZ l a1).Max,⟨((atZ l a1).A).Op,((atZ l a1).A).N,((atZ l a1).A).S,((atZ l a1).A).ar⟩,⟨((atZ l a1).B).Op,((atZ l a1).B).N,((atZ l a1).B).S,((atZ l a1).B).ar⟩,(atZ l a1).Body,(atZ l a1).bx⟩:Stmt) bB dK).bind λes=>ak es dK (atY (a1+1))) (λYc=>ii.on Yc (λahR=>(PD n (⟨(atZ l a1).Op,(atZ l a1).Name,(atZ l a1).Max,⟨((atZ l a1).A).Op,((atZ l a1).A).N,((atZ l a1).A).S,((atZ l a1).A).ar⟩,⟨((atZ l a1).B).Op,((atZ l a1).B).N,((atZ l a1).B).S,((atZ l a1).B).ar⟩,(atZ l a1).Body,(atZ l a1).bx⟩:Stmt) bB dK).bind λft=>ak ft dK (atY (a1+1))) (λYd=>ii.on Yd (λahS=>(PE n (⟨(atZ l a1).Op,(atZ l a1).Name,(atZ l a1).Max,⟨((atZ l a1).A).Op,((atZ l a1).A).N,((atZ l a1).A).S,((atZ l a1).A).ar⟩,⟨((atZ l a1).B).Op,((atZ l a1).B).N,((atZ l a1).B).S,((atZ l a1).B).ar⟩,(atZ l a1).Body,(atZ l a1).bx⟩:Stmt) bB dK).bind λr24=>ak r24 dK (atY (a1+1))) (λYe=>ii.on Ye (λahT=>(iB (⟨(atZ l a1).Op,(atZ l a1).Name,(atZ l a1).Max,⟨((atZ l a1).A).Op,((atZ l a1).A).N,((atZ l a1).A).S,((atZ l a1).A).ar⟩,⟨((atZ l a1).B).Op,((atZ l a1).B).N,((atZ l a1).B).S,((atZ l a1).B).ar⟩,(atZ l a1).Body,(atZ l a1).bx⟩:Stmt) bB dK).bind λf9=>ak f9.1 f9.2 (atY (a1+1))) (λYf=>ii.on Yf (λahU=>(iC (⟨(atZ l a1).Op,(atZ l a1).Name,(atZ l a1).Max,⟨((atZ l a1).A).Op,((atZ l a1).A).N,((atZ l a1).A).S,((atZ l a1).A).ar⟩,⟨((atZ l a1).B).Op,((atZ l a1).B).N,((atZ l a1).B).S,((atZ l a1).B).ar⟩,(atZ l a1).Body,(atZ l a1).bx⟩:Stmt) bB dK).bind λr26=>ak r26.1 r26.2 (atY (a1+1))) (λYg=>ii.on Yg (λahV=>(PC n (⟨(atZ l a1).Op,(atZ l a1).Name,(atZ l a1).Max,⟨((atZ l a1).A).Op,((atZ l a1).A).N,((atZ l a1).A).S,((atZ l a1).A).ar⟩,⟨((atZ l a1).B).Op,((atZ l a1).B).N,((atZ l a1).B).S,((atZ l a1).B).ar⟩,(atZ l a1).Body,(atZ l a1).bx⟩:Stmt) bB dK).bind λr27=>ak r27 dK (atY (a1+1))) (λahW=>(Ps n (⟨(atZ l a1).Op,(atZ l a1).Name,(atZ l a1).Max,⟨((atZ l a1).A).Op,((atZ l a1).A).N,((atZ l a1).A).S,((atZ l a1).A).ar⟩,⟨((atZ l a1).B).Op,((atZ l a1).B).N,((atZ l a1).B).S,((atZ l a1).B).ar⟩,(atZ l a1).Body,(atZ l a1).bx⟩:Stmt) bB dK).bind λo8=>ak o8 dK (atY (a1+1)))))))))) ( PF n ib iB iC bB dK)
def C5(n:Nat)(ib:(List Stmt)→(List Int)→Int→Option ((List Int)×Int))(iB:Stmt→(List Int)→Int→Option ((List Int)×Int))(iC:Stmt→(List Int)→Int→Option ((List Int)×Int))(l:List Stmt):Nat→(List Int)→Int→Int→Option ((List Int)×Int)
 | 0=>λ_ _ _=>none
 |m+1=>PG n ib iB iC l (C5 n ib iB iC l m)
def H5(ib:(List Stmt)→(List Int)→Int→Option ((List Int)×Int))(iB:Stmt→(List Int)→Int→Option ((List Int)×Int))(iC:Stmt→(List Int)→Int→Option ((List Int)×Int))(l:List Stmt)(b':List Int)(cc:Int):Option ((List Int)×Int):=C5 n ib iB iC l n b' (atY (cc+1)) 0
def H6(ib:(List Stmt)→(List Int)→Int→Option ((List Int)×Int))(iB:Stmt→(List Int)→Int→Option ((List Int)×Int))(iC:Stmt→(List Int)→Int→Option ((List Int)×Int))(v6:List Int)(bz:Int):Option ((List Int)×Int):=(mt n ([([125]:atW)]:List atW) v6 bz).bind λcU=>some (cU,bz)
def H7(ib:(List Stmt)→(List Int)→Int→Option ((List Int)×Int))(iB:Stmt→(List Int)→Int→Option ((List Int)×Int))(iC:Stmt→(List Int)→Int→Option ((List Int)×Int))(s:Stmt)(b':List Int)(cc:Int):Option ((List Int)×Int):=(l6 n (⟨s.A.Op,s.A.N,s.A.S,s.A.ar⟩:Expr)).bind λr1=>(mt n ([([105,102,32]:atW),r1,([32,123]:atW)]:List atW) b' cc).bind λr2=>(ib s.Body r2 cc).bind λr3=>cond (decide (0<((s.bx.length:Nat):Int))) ( (mt n ([([125,32,101,108,115,101,32,123]:atW)]:List atW) r3.1 r3.2).bind λbj=>(ib s.bx bj r3.2).bind λbZ=>H6 n ib iB iC bZ.1 bZ.2) ( H6 n ib iB iC r3.1 r3.2)
def H8(ib:(List Stmt)→(List Int)→Int→Option ((List Int)×Int))(iB:Stmt→(List Int)→Int→Option ((List Int)×Int))(iC:Stmt→(List Int)→Int→Option ((List Int)×Int))(s:Stmt)(b':List Int)(cc:Int):Option ((List Int)×Int):=(l6 n (⟨s.A.Op,s.A.N,s.A.S,s.A.ar⟩:Expr)).bind λr1=>(l6 n (⟨s.B.Op,s.B.N,s.B.S,s.B.ar⟩:Expr)).bind λr2=>(wb n s.Max).bind λr3=>(mt n ([([102,111,114,32]:atW),s.Name,([32,61,32]:atW),r1,([32,116,111,32]:atW),r2,([32,109,97,120,32]:atW),r3,([32,123]:atW)]:List atW) b' cc).bind λbj=>(ib s.Body bj cc).bind λbZ=>(mt n ([([125]:atW)]:List atW) bZ.1 bZ.2).bind λbO=>some (bO,bZ.2)
def o9:Nat→((List Stmt)→(List Int)→Int→Option ((List Int)×Int))×(Stmt→(List Int)→Int→Option ((List Int)×Int))×(Stmt→(List Int)→Int→Option ((List Int)×Int))
 | 0=>(λ_ _ _=>none,λ_ _ _=>none,λ_ _ _=>none)
 |m+1=>(H5 m ((o9 m).1) ((o9 m).2.1) ((o9 m).2.2),H7 m ((o9 m).1) ((o9 m).2.1) ((o9 m).2.2),H8 m ((o9 m).1) ((o9 m).2.1) ((o9 m).2.2))
def rc:(List Stmt)→(List Int)→Int→Option ((List Int)×Int):=(o9 n).1
def wd:Stmt→(List Int)→Int→Option ((List Int)×Int):=(o9 n).2.1
def we:Stmt→(List Int)→Int→Option ((List Int)×Int):=(o9 n).2.2
def H9(n:Nat)(b':List Int)(cc:Int):Option (atW×(List Int)):=ax (nv b'&&decide (b'.length≤9223372036854775807))<|some (jR b',b')
def PH(p:bc)(cW:List atW):Option atW:=(Hq n cW ([44,32]:atW)).bind λeO=>(mt n ([([112,114,111,99,32]:atW),p.Name,([40]:atW),eO,([41,32,123]:atW)]:List atW) ([]:List Int) 0).bind λfD=>(rc n p.Body fD 0).bind λes=>(mt n ([([125]:atW)]:List atW) es.1 es.2).bind λft=>(H9 n ft es.2).bind λr24=>some r24.1
def PI(p:bc)(ak:Int→(List atW)→Option atW)(v10:Int)(v11:List atW):Option atW:=cond (decide (v10<((p.Params.length:Nat):Int))) ( ax (aJ v10 p.Params.length)<|ax (b0 (((atZ p.Params v10).Name).length+([58,32]:atW).length))<|(HV n ((atZ p.Params v10).fs)).bind λeY=>ax (b0 ((((atZ p.Params v10).Name)++([58,32]:atW)).length+eY.length))<|ax (room (v11.length+([((((atZ p.Params v10).Name)++([58,32]:atW))++eY)]:List atW).length) 16)<|ak (atY (v10+1)) (v11++([((((atZ p.Params v10).Name)++([58,32]:atW))++eY)]:List atW))) ( PH n p v11)
def C6(n:Nat)(p:bc):Nat→Int→(List atW)→Option atW
 | 0=>λ_ _=>none
 |m+1=>PI n p (C6 n p m)
def t8(p:bc):Option atW:=(CX n p).bind λr1=>cond (!decide (r1=0)) ( some ([]:atW)) ( C6 n p n 0 ([]:List atW))
def C7(n:Nat)(next:Int):at1:=some (cond (decide ((atY (next-1))<8)) (atY (next-1)) 8)
def PJ(n:Nat):at0:=some false
def PK(n:Nat):at0:=some true
def H'(o:Outcome)(eC:Int→at0)(v4:Int):at0:=cond (decide (v4<((o.Out.length:Nat):Int))) ( ax (aJ v4 o.Out.length)<|(sB n (atZ o.Out v4)).bind λbO=>cond (cond (!bO) true (decide ((atZ o.Out v4).Kind=0))) ( some false) ( eC (atY (v4+1)))) ( PK n)
def wg(n:Nat)(o:Outcome):Nat→Int→at0
 | 0=>λ_=>none
 |m+1=>H' n o (wg n o m)
def C8(o:Outcome):at0:=cond (decide (o.Status=1)) ( cond (cond (!decide (o.Code=0)) true (decide (16<((o.Out.length:Nat):Int)))) ( some false) ( wg n o n 0)) ( cond (decide (o.Status=2)) ( some (cond (cond (decide (0≤o.Code)) (decide (o.Code≤1009)) false) (decide (((o.Out.length:Nat):Int)=0)) false)) ( PJ n))
def PL(n:Nat):at0:=some true
def H_(s:bM)(ak:Int→at0)(v6:Int):at0:=cond (decide (v6<((s.bK.length:Nat):Int))) ( ax (aJ v6 s.bK.length)<|Option.bind (cond (!(!((decide ((atZ s.bK v6).Client=s.Client))&&((decide ((atZ s.bK v6).Seq=(atY ((atY (s.Next-((s.bK.length:Nat):Int)))+v6))))&&true)))) (C8 n (⟨((atZ s.bK v6).Outcome).Status,((atZ s.bK v6).Outcome).Code,((atZ s.bK v6).Outcome).Out⟩:Outcome)) (some default)) λcU=>cond (cond (!((decide ((atZ s.bK v6).Client=s.Client))&&((decide ((atZ s.bK v6).Seq=(atY ((atY (s.Next-((s.bK.length:Nat):Int)))+v6))))&&true))) true (!cU)) ( some false) ( ak (atY (v6+1)))) ( PL n)
def yS(n:Nat)(s:bM):Nat→Int→at0
 | 0=>λ_=>none
 |m+1=>H_ n s (yS n s m)
def Ia(s:bM):at0:=Option.bind (cond (!(cond (cond (cond (decide (s.Client<1)) true (decide (32<s.Client))) true (decide (s.Next<1))) true (decide (1099511627776<s.Next)))) (C7 n s.Next) (some default)) λr1=>cond (cond (cond (cond (cond (decide (s.Client<1)) true (decide (32<s.Client))) true (decide (s.Next<1))) true (decide (1099511627776<s.Next))) true (!decide (((s.bK.length:Nat):Int)=r1))) ( some false) ( yS n s n 0)
def PM(n:Nat):at0:=some true
def Ib(l:List bM)(ak:Int→at0)(v5:Int):at0:=cond (decide (v5<((l.length:Nat):Int))) ( ax (aJ v5 l.length)<|(Ia n (atZ l v5)).bind λcS=>ax ((!cS)||(!(decide (0<v5))||aJ (atY (v5-1)) l.length))<|cond (cond (!cS) true (cond (decide (0<v5)) (decide ((atZ l v5).Client≤(atZ l (atY (v5-1))).Client)) false)) ( some false) ( ak (atY (v5+1)))) ( PM n)
def yT(n:Nat)(l:List bM):Nat→Int→at0
 | 0=>λ_=>none
 |m+1=>Ib n l (yT n l m)
def sD(l:List bM):at0:=yT n l n 0
def ki(s:atW)(b':List Int):Option (Int×(List Int)):=(yQ n b').bind λr1=>ax (room (b'.length+s.length) 1)<|some (((s.length:Nat):Int),(b'++s.map λb=>(b.toNat:Int)))
def PN(Ic:List Int):Option atW:=(sC n Ic).bind λYh=>some Yh.1
def PO(n:Nat)(ak:(List Int)→Int→Option atW)(l:List bM)(fh:Int)(Ie:List Int):Option atW:=ak Ie (atY (fh+1))
def PP(n:Nat)(d_:(List Int)→Int→Option atW)(ak:(List Int)→Int→Option atW)(l:List bM)(fh:Int)(iD:Int)(v109:List Int):Option atW:=d_ v109 (atY (iD+1))
def If(d_:(List Int)→Int→Option atW)(ak:(List Int)→Int→Option atW)(l:List bM)(fh:Int)(iD:Int)(re:(List Int)→Int→Option atW)(C9:List Int)(wh:Int):Option atW:=cond (decide (wh<(((((((atZ l fh).bK).getD (iD).toNat default).Outcome).Out).length:Nat):Int))) ( ax (aJ wh (((((atZ l fh).bK).getD (iD).toNat default).Outcome).Out).length)<|(vZ n ((((((atZ l fh).bK).getD (iD).toNat default).Outcome).Out).getD (wh).toNat default)).bind λt'=>(ki n t' C9).bind λYi=>re Yi.2 (atY (wh+1))) ( PP n d_ ak l fh iD C9)
def wi(n:Nat)(d_:(List Int)→Int→Option atW)(ak:(List Int)→Int→Option atW)(l:List bM)(fh:Int)(iD:Int):Nat→(List Int)→Int→Option atW
 | 0=>λ_ _=>none
 |m+1=>If n d_ ak l fh iD (wi n d_ ak l fh iD m)
def Ig(ak:(List Int)→Int→Option atW)(l:List bM)(fh:Int)(d_:(List Int)→Int→Option atW)(C':List Int)(iD:Int):Option atW:=cond (decide (iD<((((atZ l fh).bK).length:Nat):Int))) ( ax (aJ iD ((atZ l fh).bK).length)<|(hY n (IntKind.u64.wrap (((((atZ l fh).bK).getD (iD).toNat default).Outcome).Status))).bind λyU=>(hY n (IntKind.u64.wrap (((((atZ l fh).bK).getD (iD).toNat default).Outcome).Code))).bind λwj=>ax (b0 (yU.length+wj.length))<|(hY n (IntKind.u64.wrap (((((((atZ l fh).bK).getD (iD).toNat default).Outcome).Out).length:Nat):Int))).bind λPQ=>ax (b0 ((yU++wj).length+PQ.length))<|(ki n ((yU++wj)++PQ) C').bind λIh=>wi n d_ ak l fh iD n Ih.2 0) ( PO n ak l fh C')
def wk(n:Nat)(ak:(List Int)→Int→Option atW)(l:List bM)(fh:Int):Nat→(List Int)→Int→Option atW
 | 0=>λ_ _=>none
 |m+1=>Ig n ak l fh (wk n ak l fh m)
def Ii(l:List bM)(ak:(List Int)→Int→Option atW)(v59:List Int)(fh:Int):Option atW:=cond (decide (fh<((l.length:Nat):Int))) ( ax (aJ fh l.length)<|(hY n (IntKind.u64.wrap ((atZ l fh).Client))).bind λPR=>(hY n (IntKind.u64.wrap ((atZ l fh).Next))).bind λC_=>ax (b0 (PR.length+C_.length))<|(ki n (PR++C_) v59).bind λt_=>wk n ak l fh n t_.2 0) ( PN n v59)
def yV(n:Nat)(l:List bM):Nat→(List Int)→Int→Option atW
 | 0=>λ_ _=>none
 |m+1=>Ii n l (yV n l m)
def Da(l:List bM):Option atW:=(sD n l).bind λr1=>cond (!r1) ( some ([]:atW)) ( (hY n (IntKind.u64.wrap ((l.length:Nat):Int))).bind λr3=>(ki n r3 ([]:List Int)).bind λbj=>yV n l n bj.2 0)
def PS(cW:List Int):Option atW:=(sC n cW).bind λeO=>some eO.1
def Ij(l:List bn)(ak:(List Int)→Int→Option atW)(v10:List Int)(v11:Int):Option atW:=cond (decide (v11<((l.length:Nat):Int))) ( ax (aJ v11 l.length)<|(p4 n ((atZ l v11).Key)).bind λdR=>(ki n dR v10).bind λeY=>(vZ n (⟨((atZ l v11).bA).Kind,((atZ l v11).bA).N,((atZ l v11).bA).S⟩:bp)).bind λdS=>(ki n dS eY.2).bind λeG=>ak eG.2 (atY (v11+1))) ( PS n v10)
def yW(n:Nat)(l:List bn):Nat→(List Int)→Int→Option atW
 | 0=>λ_ _=>none
 |m+1=>Ij n l (yW n l m)
def Ik(l:List bn):Option atW:=(hY n (IntKind.u64.wrap ((l.length:Nat):Int))).bind λr1=>(ki n r1 ([]:List Int)).bind λr2=>yW n l n r2.2 0
def Db(ag:b7)(Il:List Int):Option atW:=(yC n ag.Queue).bind λDc=>(ki n Dc Il).bind λow=>(hY n ag.dA).bind λrf=>(ki n rf ow.2).bind λIm=>(sC n Im.2).bind λDd=>some Dd.1
def In(ag:b7)(eC:(List Int)→Int→Option atW)(De:List Int)(v37:Int):Option atW:=cond (decide (v37<((ag.bi.length:Nat):Int))) ( ax (aJ v37 ag.bi.length)<|(p4 n ((atZ ag.bi v37).Key)).bind λyX=>(ki n yX De).bind λwl=>(q9 n ((atZ ag.bi v37).Count)).bind λnz=>(ki n nz wl.2).bind λhN=>eC hN.2 (atY (v37+1))) ( Db n ag De)
def yY(n:Nat)(ag:b7):Nat→(List Int)→Int→Option atW
 | 0=>λ_ _=>none
 |m+1=>In n ag (yY n ag m)
def yZ(ag:b7)(c7:List Int):Option atW:=(Da n ag.c6).bind λft=>(ki n ft c7).bind λr24=>(CR n ag.Place).bind λf9=>(ki n f9 r24.2).bind λr26=>(hY n (IntKind.u64.wrap ((ag.bi.length:Nat):Int))).bind λr27=>(ki n r27 r26.2).bind λo8=>yY n ag n o8.2 0
def Io(ag:b7)(d_:(List Int)→Int→Option atW)(bD:List Int)(bB:Int):Option atW:=cond (decide (bB<((ag.cq.length:Nat):Int))) ( ax (aJ bB ag.cq.length)<|(t8 n (atZ ag.cq bB)).bind λeZ=>(p4 n eZ).bind λgt=>(ki n gt bD).bind λfo=>d_ fo.2 (atY (bB+1))) ( yZ n ag bD)
def y0(n:Nat)(ag:b7):Nat→(List Int)→Int→Option atW
 | 0=>λ_ _=>none
 |m+1=>Io n ag (y0 n ag m)
def sE(ag:b7):Option atW:=(v_ n ag.aB ag.Pos).bind λr1=>(q9 n ag.Pos).bind λr2=>(ki n r2 ([]:List Int)).bind λr3=>(Ik n r1.1).bind λbj=>(ki n bj r3.2).bind λbZ=>(hY n (IntKind.u64.wrap ((ag.cq.length:Nat):Int))).bind λbO=>(ki n bO bZ.2).bind λcS=>y0 n ag n cS.2 0
def PT(n:Nat)(l:List bi):at0:=some (decide (((l.length:Nat):Int)≤32))
def Ip(l:List bi)(ak:Int→at0)(v5:Int):at0:=cond (decide (v5<((l.length:Nat):Int))) ( ax (aJ v5 l.length)<|(vY n ((atZ l v5).Key)).bind λcS=>ax ((cond (cond (!cS) true (decide ((atZ l v5).Count<1))) true (decide (1099511627776<(atZ l v5).Count)))||(!(decide (0<v5))||aJ (atY (v5-1)) l.length))<|cond (cond (cond (cond (!cS) true (decide ((atZ l v5).Count<1))) true (decide (1099511627776<(atZ l v5).Count))) true (cond (decide (0<v5)) (!(Op.bytesLess ((atZ l (atY (v5-1))).Key) ((atZ l v5).Key))) false)) ( some false) ( ak (atY (v5+1)))) ( PT n l)
def y1(n:Nat)(l:List bi):Nat→Int→at0
 | 0=>λ_=>none
 |m+1=>Ip n l (y1 n l m)
def Iq(l:List bi):at0:=y1 n l n 0
def PU(n:Nat):at0:=some true
def Ir(l:List bc)(ak:Int→at0)(v6:Int):at0:=cond (decide (v6<((l.length:Nat):Int))) ( ax (aJ v6 l.length)<|(t8 n (atZ l v6)).bind λcU=>ax ((cond (decide (cU=([]:atW))) true (decide (16384<((cU.length:Nat):Int))))||(!(decide (0<v6))||aJ (atY (v6-1)) l.length))<|cond (cond (cond (decide (cU=([]:atW))) true (decide (16384<((cU.length:Nat):Int)))) true (cond (decide (0<v6)) ((Op.bytesLess ((atZ l v6).Name) ((atZ l (atY (v6-1))).Name))||(decide (((atZ l v6).Name)=((atZ l (atY (v6-1))).Name)))) false)) ( some false) ( ak (atY (v6+1)))) ( PU n)
def y2(n:Nat)(l:List bc):Nat→Int→at0
 | 0=>λ_=>none
 |m+1=>Ir n l (y2 n l m)
def Is(l:List bc):at0:=cond (decide (16<((l.length:Nat):Int))) ( some false) ( y2 n l n 0)
def PV(n:Nat)(s:atW):at0:=some (decide (((s.length:Nat):Int)≤24))
def It(s:atW)(ak:Int→at0)(v4:Int):at0:=cond (decide (v4<((s.length:Nat):Int))) ( ax (aJ v4 s.length)<|ax ((decide ((((s.getD (v4).toNat 0).toNat:Nat):Int)<33))||aJ v4 s.length)<|cond (cond (decide ((((s.getD (v4).toNat 0).toNat:Nat):Int)<33)) true (decide (126<(((s.getD (v4).toNat 0).toNat:Nat):Int)))) ( some false) ( ak (atY (v4+1)))) ( PV n s)
def y3(n:Nat)(s:atW):Nat→Int→at0
 | 0=>λ_=>none
 |m+1=>It n s (y3 n s m)
def Df(s:atW):at0:=y3 n s n 0
def PW(n:Nat)(x:Part)(ae:Int):at0:=some (decide (x.Id=ae))
def PX(n:Nat)(ae:Int):at1:=some (-1)
def Iu(s:List Part)(ae:Int)(ak:Int→at1)(v4:Int):at1:=cond (decide (v4<((s.length:Nat):Int))) ( ax (aJ v4 s.length)<|(PW n (atZ s v4) ae).bind λbO=>cond bO ( some v4) ( ak (atY (v4+1)))) ( PX n ae)
def y4(n:Nat)(s:List Part)(ae:Int):Nat→Int→at1
 | 0=>λ_=>none
 |m+1=>Iu n s ae (y4 n s ae m)
def PY(s:List Part)(ae:Int):at1:=y4 n s ae n 0
def PZ(l:List Part)(id:Int):at1:=(PY n l id).bind λr1=>some r1
def Dg(n:Nat)(fw:Int):at0:=some (cond (decide (1≤fw)) (decide (fw≤16)) false)
def P0(n:Nat)(fw:Int):at0:=some (cond (decide (1≤fw)) (decide (fw≤1099511627776)) false)
def Iv(l:List Part)(i:Int):at0:=ax (aJ i l.length)<|cond (decide ((atZ l i).fC=0)) ( some (decide (((atZ l i).gQ)=([]:atW)))) ( (Dg n ((atZ l i).fC)).bind λr3=>Option.bind (cond (cond r3 (!decide ((atZ l i).fC=(atZ l i).Node)) false) (Df n ((atZ l i).gQ)) (some default)) λbj=>ax (!(cond (cond (cond r3 (!decide ((atZ l i).fC=(atZ l i).Node)) false) bj false) (!(Op.bytesLess ((atZ l i).gQ) ((atZ l i).ec))) false)||((decide ((atY (i+1))=((l.length:Nat):Int)))||aJ (atY (i+1)) l.length))<|some (cond (cond (cond (cond r3 (!decide ((atZ l i).fC=(atZ l i).Node)) false) bj false) (!(Op.bytesLess ((atZ l i).gQ) ((atZ l i).ec))) false) (cond (decide ((atY (i+1))=((l.length:Nat):Int))) true (Op.bytesLess ((atZ l i).gQ) ((atZ l (atY (i+1))).ec))) false))
def P1(n:Nat):at0:=some true
def Iw(p:cb)(ak:Int→at0)(v12:Int):at0:=cond (decide (v12<((p.aE.length:Nat):Int))) ( ax (aJ v12 p.aE.length)<|Option.bind (cond (decide (0<v12)) (Df n ((atZ p.aE v12).ec)) (some default)) λeY=>ax (!(decide (0<v12))||((!eY)||aJ (atY (v12-1)) p.aE.length))<|cond (cond (decide (0<v12)) (cond (!eY) true ((Op.bytesLess ((atZ p.aE v12).ec) ((atZ p.aE (atY (v12-1))).ec))||(decide (((atZ p.aE v12).ec)=((atZ p.aE (atY (v12-1))).ec))))) false) ( some false) ( (P0 n ((atZ p.aE v12).Id)).bind λeG=>Option.bind (cond (!(!eG)) (Dg n ((atZ p.aE v12).Node)) (some default)) λeZ=>Option.bind (cond (!(cond (!eG) true (!eZ))) (Iv n p.aE v12) (some default)) λgt=>ax ((cond (cond (!eG) true (!eZ)) true (!gt))||hh v12 p.aE.length)<|Option.bind (cond (!(cond (cond (!eG) true (!eZ)) true (!gt))) (PZ n (p.aE.take (v12).toNat) ((atZ p.aE v12).Id)) (some default)) λeO=>cond (cond (cond (cond (!eG) true (!eZ)) true (!gt)) true (decide (0≤eO))) ( some false) ( ak (atY (v12+1))))) ( P1 n)
def wm(n:Nat)(p:cb):Nat→Int→at0
 | 0=>λ_=>none
 |m+1=>Iw n p (wm n p m)
def Dh(p:cb):at0:=ax ((cond (cond (cond (decide (p.Version<0)) true (decide (1099511627776<p.Version))) true (decide (((p.aE.length:Nat):Int)<1))) true (decide (16<((p.aE.length:Nat):Int))))||aJ 0 p.aE.length)<|cond (cond (cond (cond (cond (decide (p.Version<0)) true (decide (1099511627776<p.Version))) true (decide (((p.aE.length:Nat):Int)<1))) true (decide (16<((p.aE.length:Nat):Int)))) true (!(decide (((p.aE.getD 0 default).ec)=([]:atW))))) ( some false) ( wm n p n 0)
def P2(ag:b7):at0:=(sD n ag.c6).bind λb4=>Option.bind (cond b4 (Dh n ag.Place) (some default)) λeT=>Option.bind (cond (cond b4 eT false) (Iq n ag.bi) (some default)) λdR=>some (cond (cond b4 eT false) dR false)
def Ix(ag:b7)(ak:Int→at0)(bz:Int):at0:=cond (decide (bz<((ag.Queue.length:Nat):Int))) ( ax (aJ bz ag.Queue.length)<|(ot n (⟨(atZ ag.Queue bz).Client,(atZ ag.Queue bz).Seq,(atZ ag.Queue bz).bc,(atZ ag.Queue bz).ar,(atZ ag.Queue bz).eN,⟨((atZ ag.Queue bz).br).ee,((atZ ag.Queue bz).br).Reads,((atZ ag.Queue bz).br).cA⟩⟩:Request)).bind λcP=>cond (!decide (cP=0)) ( some false) ( ak (atY (bz+1)))) ( P2 n ag)
def wn(n:Nat)(ag:b7):Nat→Int→at0
 | 0=>λ_=>none
 |m+1=>Ix n ag (wn n ag m)
def rh(ag:b7):at0:=Option.bind (cond (!(cond (decide (ag.Pos<0)) true (decide (1099511627776<ag.Pos)))) (v7 n ag.aB) (some default)) λr1=>Option.bind (cond (!(cond (cond (cond (decide (ag.Pos<0)) true (decide (1099511627776<ag.Pos))) true (!r1)) true (!decide (ag.aB.b9=ag.Pos)))) (Is n ag.cq) (some default)) λr2=>cond (cond (cond (cond (cond (cond (decide (ag.Pos<0)) true (decide (1099511627776<ag.Pos))) true (!r1)) true (!decide (ag.aB.b9=ag.Pos))) true (!r2)) true (decide (64<((ag.Queue.length:Nat):Int)))) ( some false) ( wn n ag n 0)
def Yj(ag:b7):Option (atW×Int):=(rh n ag).bind λr1=>cond (!r1) ( some (([]:atW),1)) ( (sE n ag).bind λr3=>cond (decide (16384<((r3.length:Nat):Int))) ( some (([]:atW),2)) ( some (r3,0)))
def y5(n:Nat)(bJ:Int):at1:=some bJ
def P3(n:Nat)(p:bn):at0:=some (decide (p.bA.Kind=0))
def P4(n:Nat):at1:=some (-1)
def Iy(s:List bn)(ak:Int→at1)(v4:Int):at1:=cond (decide (v4<((s.length:Nat):Int))) ( ax (aJ v4 s.length)<|(P3 n (atZ s v4)).bind λbO=>cond bO ( some v4) ( ak (atY (v4+1)))) ( P4 n)
def y6(n:Nat)(s:List bn):Nat→Int→at1
 | 0=>λ_=>none
 |m+1=>Iy n s (y6 n s m)
def P5(s:List bn):at1:=y6 n s n 0
def P6(s:List bn):at0:=(P5 n s).bind λr1=>some (decide (0≤r1))
def P7(n:Nat):at0:=some true
def Iz(l:List bn)(ak:Int→at0)(v6:Int):at0:=cond (decide (v6<((l.length:Nat):Int))) ( ax (aJ v6 l.length)<|(vY n ((atZ l v6).Key)).bind λcU=>Option.bind (cond (!(!cU)) (sB n (⟨((atZ l v6).bA).Kind,((atZ l v6).bA).N,((atZ l v6).bA).S⟩:bp)) (some default)) λcP=>ax ((cond (!cU) true (!cP))||(!(decide (0<v6))||aJ (atY (v6-1)) l.length))<|cond (cond (cond (!cU) true (!cP)) true (cond (decide (0<v6)) (!(Op.bytesLess ((atZ l (atY (v6-1))).Key) ((atZ l v6).Key))) false)) ( some false) ( ak (atY (v6+1)))) ( P7 n)
def y7(n:Nat)(l:List bn):Nat→Int→at0
 | 0=>λ_=>none
 |m+1=>Iz n l (y7 n l m)
def IA(l:List bn):at0:=y7 n l n 0
def Di(l:List bn):at0:=(IA n l).bind λr1=>Option.bind (cond r1 (P6 n l) (some default)) λr2=>some (cond r1 (!r2) false)
def P8(n:Nat)(fw:Int):Option bp:=some (⟨1,fw,[]⟩:bp)
def Dj(n:Nat)(s:atW)(at_:Int):at0:=some (cond (decide (at_<0)) true (decide (((s.length:Nat):Int)<at_)))
def Yk(n:Nat):Option (Int×Int×Int):=some (0,0,5)
def P9(s:atW)(at_:Int)(ak:Int→Int→Option (Int×Int×Int))(bz:Int)(bq:Int):Option (Int×Int×Int):=cond (decide (bz<10)) ( cond (decide (((s.length:Nat):Int)≤(atY (at_+bz)))) ( some (0,0,6)) ( ax (aJ (atY (at_+bz)) s.length)<|cond (cond (cond (decide (bz=9)) (decide (1<(((s.getD ((atY (at_+bz))).toNat 0).toNat:Nat):Int))) false) true (cond (decide ((((s.getD ((atY (at_+bz))).toNat 0).toNat:Nat):Int)=0)) (decide (0<bz)) false)) ( some (0,0,5)) ( ax (n3 (atY (7*bz)))<|cond (decide ((((s.getD ((atY (at_+bz))).toNat 0).toNat:Nat):Int)<128)) ( some ((qK .u64 bq (oP .u64 (IntKind.u64.wrap (pD .u8 (((s.getD ((atY (at_+bz))).toNat 0).toNat:Nat):Int) 127)) (atY (7*bz)))),(atY ((atY (at_+bz))+1)),0)) ( ak (atY (bz+1)) (qK .u64 bq (oP .u64 (IntKind.u64.wrap (pD .u8 (((s.getD ((atY (at_+bz))).toNat 0).toNat:Nat):Int) 127)) (atY (7*bz)))))))) ( Yk n)
def Dk(n:Nat)(s:atW)(at_:Int):Nat→Int→Int→Option (Int×Int×Int)
 | 0=>λ_ _=>none
 |m+1=>P9 n s at_ (Dk n s at_ m)
def sF(s:atW)(at_:Int):Option (Int×Int×Int):=(Dj n s at_).bind λr1=>cond r1 ( some (0,0,1)) ( Dk n s at_ n 0 0)
def y8(s:atW)(at_:Int):Option (Int×Int×Int):=(sF n s at_).bind λr1=>cond (!decide (r1.2.2=0)) ( some (0,0,r1.2.2)) ( some ((mP .i64 (atY (nj .u64 r1.1 1)) (atY (0-(atY (pD .u64 r1.1 1))))),r1.2.1,0))
def p7(s:atW)(at_:Int)(bJ:Int):Option (Int×Int×Int):=(sF n s at_).bind λr1=>cond (!decide (r1.2.2=0)) ( some (0,0,r1.2.2)) ( cond (cond (decide (bJ<0)) true (decide ((IntKind.u64.wrap bJ)<r1.1))) ( some (0,0,2)) ( cond (decide ((IntKind.u64.wrap (atY (((s.length:Nat):Int)-r1.2.1)))<r1.1)) ( some (0,0,6)) ( some ((atY r1.1),r1.2.1,0))))
def ua(s:atW)(at_:Int)(bJ:Int):Option (atW×Int×Int):=(p7 n s at_ bJ).bind λr1=>cond (!decide (r1.2.2=0)) ( some (([]:atW),0,r1.2.2)) ( ax (lU r1.2.1 (atY (r1.2.1+r1.1)) s.length)<|some (((s.take ((atY (r1.2.1+r1.1))).toNat).drop (r1.2.1).toNat),(atY (r1.2.1+r1.1)),0))
def Dl(n:Nat)(cP:atW×Int×Int)(v11:Int):Option (bp×Int×Int):=cond (!decide (v11=0)) ( some ((⟨0,0,[]⟩:bp),0,v11)) ( some ((⟨2,0,cP.1⟩:bp),cP.2.1,0))
def y9(s:atW)(at_:Int):Option (bp×Int×Int):=(sF n s at_).bind λr1=>cond (!decide (r1.2.2=0)) ( some ((⟨0,0,[]⟩:bp),0,r1.2.2)) ( cond (decide (r1.1=0)) ( some ((⟨0,0,[]⟩:bp),r1.2.1,0)) ( cond (decide (r1.1=1)) ( (y8 n s r1.2.1).bind λbZ=>cond (!decide (bZ.2.2=0)) ( some ((⟨0,0,[]⟩:bp),0,bZ.2.2)) ( (P8 n bZ.1).bind λcS=>some (cS,bZ.2.1,0))) ( cond (decide (r1.1=2)) ( (ua n s r1.2.1 64).bind λcP=>Option.bind (cond (decide (cP.2.2=0)) (CL n cP.1) (some default)) λdg=>cond (cond (decide (cP.2.2=0)) (!dg) false) ( Dl n cP 5) ( Dl n cP cP.2.2)) ( some ((⟨0,0,[]⟩:bp),0,5)))))
def IB(cm:Int)(cW:List bn):Option ((List bn)×Int×Int):=(Di n cW).bind λeO=>cond (!eO) ( some (([]:List bn),0,5)) ( some (cW,cm,0))
def IC(s:atW)(r1:Int×Int×Int)(ak:Int→Int→(List bn)→Option ((List bn)×Int×Int))(v9:Int)(v10:Int)(v11:List bn):Option ((List bn)×Int×Int):=cond (decide (v10<r1.1)) ( (ua n s v9 24).bind λeT=>cond (!decide (eT.2.2=0)) ( some (([]:List bn),0,eT.2.2)) ( (y9 n s eT.2.1).bind λdR=>cond (!decide (dR.2.2=0)) ( some (([]:List bn),0,dR.2.2)) ( ax (room (v11.length+([(⟨eT.1,dR.1⟩:bn)]:List bn).length) 48)<|ak dR.2.1 (atY (v10+1)) (v11++([(⟨eT.1,dR.1⟩:bn)]:List bn))))) ( IB n v9 v11)
def wo(n:Nat)(s:atW)(r1:Int×Int×Int):Nat→Int→Int→(List bn)→Option ((List bn)×Int×Int)
 | 0=>λ_ _ _=>none
 |m+1=>IC n s r1 (wo n s r1 m)
def ID(s:atW)(at_:Int):Option ((List bn)×Int×Int):=(p7 n s at_ 2147483647).bind λr1=>cond (!decide (r1.2.2=0)) ( some (([]:List bn),0,r1.2.2)) ( wo n s r1 n r1.2.1 0 ([]:List bn))
def y'(ae:fm):Option ((List bn)×Int×Int):=cond (!decide (ae.e=0)) ( some (([]:List bn),ae.at_,ae.e)) ( (ID n ae.s ae.at_).bind λr2=>cond (!decide (r2.2.2=0)) ( some (([]:List bn),ae.at_,r2.2.2)) ( some (r2.1,r2.2.1,r2.2.2)))
def sG(ae:o5):Option (Int×Int×Int):=cond (!decide (ae.e=0)) ( some (0,ae.at_,ae.e)) ( (y8 n ae.s ae.at_).bind λr2=>some (r2.1,r2.2.1,r2.2.2))
def wq(ae:o5):Option (atW×Int×Int):=cond (!decide (ae.e=0)) ( some (([]:atW),ae.at_,ae.e)) ( (ua n ae.s ae.at_ 24).bind λr2=>some (r2.1,r2.2.1,r2.2.2))
def IE(n:Nat)(s:atW)(v28:Int)(r1:Int×Int×Int)(v30:List Part)(m5:Int):Option (cb×Int×Int):=cond (!decide (m5=0)) ( some ((⟨0,[]⟩:cb),0,m5)) ( some ((⟨r1.1,v30⟩:cb),v28,0))
def Dm(s:atW)(r1:Int×Int×Int)(v28:Int)(hM:Int)(v30:List Part):Option (cb×Int×Int):=Option.bind (cond (decide (hM=0)) (Dh n (⟨r1.1,v30⟩:cb)) (some default)) λgz=>cond (cond (decide (hM=0)) (!gz) false) ( IE n s v28 r1 v30 5) ( IE n s v28 r1 v30 hM)
def y_(r3:Int×Int×Int)(s:atW)(r1:Int×Int×Int)(eC:Int→Int→(List Part)→Int→Option (cb×Int×Int))(bD:Int)(bB:Int)(dK:List Part)(a1:Int):Option (cb×Int×Int):=cond (decide (a1<r3.1)) ( (sG n (⟨s,bD,bB⟩:o5)).bind λgt=>(wq n (⟨s,gt.2.1,gt.2.2⟩:o5)).bind λfo=>(sG n (⟨s,fo.2.1,fo.2.2⟩:o5)).bind λeO=>(sG n (⟨s,eO.2.1,eO.2.2⟩:o5)).bind λfD=>(wq n (⟨s,fD.2.1,fD.2.2⟩:o5)).bind λes=>ax (room (dK.length+([(⟨gt.1,fo.1,eO.1,fD.1,es.1⟩:Part)]:List Part).length) 56)<|eC es.2.1 es.2.2 (dK++([(⟨gt.1,fo.1,eO.1,fD.1,es.1⟩:Part)]:List Part)) (atY (a1+1))) ( Dm n s r1 bD bB dK)
def sH(n:Nat)(r3:Int×Int×Int)(s:atW)(r1:Int×Int×Int):Nat→Int→Int→(List Part)→Int→Option (cb×Int×Int)
 | 0=>λ_ _ _ _=>none
 |m+1=>y_ n r3 s r1 (sH n r3 s r1 m)
def IF(s:atW)(at_:Int):Option (cb×Int×Int):=(sG n (⟨s,at_,0⟩:o5)).bind λr1=>cond (!decide (r1.2.2=0)) ( some ((⟨0,[]⟩:cb),0,r1.2.2)) ( (p7 n s r1.2.1 16).bind λr3=>sH n r3 s r1 n r3.2.1 r3.2.2 ([]:List Part) 0)
def za(ae:fm):Option (cb×Int×Int):=cond (!decide (ae.e=0)) ( some ((⟨0,[]⟩:cb),ae.at_,ae.e)) ( (IF n ae.s ae.at_).bind λr2=>cond (!decide (r2.2.2=0)) ( some ((⟨0,[]⟩:cb),ae.at_,r2.2.2)) ( some (r2.1,r2.2.1,r2.2.2)))
def p8(n:Nat)(next:Int)(e:Int)(ae:hX):Option (Int×Int):=some (next,e)
def wu(bJ:Int)(ae:hX):Option (Int×Int×Int):=cond (!decide (ae.e=0)) ( some (0,ae.at_,ae.e)) ( (p7 n ae.s ae.at_ bJ).bind λr2=>(p8 n r2.2.1 r2.2.2 ae).bind λr3=>some (r2.1,r3.1,r3.2))
def IG(s:atW)(at_:Int):Option (Bool×Int×Int):=(Dj n s at_).bind λr1=>cond r1 ( some (false,0,1)) ( cond (decide (at_=((s.length:Nat):Int))) ( some (false,0,6)) ( ax (aJ at_ s.length)<|cond (decide (1<(((s.getD (at_).toNat 0).toNat:Nat):Int))) ( some (false,0,5)) ( ax (aJ at_ s.length)<|some ((decide ((((s.getD (at_).toNat 0).toNat:Nat):Int)=1)),(atY (at_+1)),0))))
def zb(ae:hX):Option (Bool×Int×Int):=cond (!decide (ae.e=0)) ( some (false,ae.at_,ae.e)) ( (IG n ae.s ae.at_).bind λr2=>(p8 n r2.2.1 r2.2.2 ae).bind λr3=>some (r2.1,r3.1,r3.2))
def wv(bJ:Int)(ae:hX):Option (atW×Int×Int):=cond (!decide (ae.e=0)) ( some (([]:atW),ae.at_,ae.e)) ( (ua n ae.s ae.at_ bJ).bind λr2=>(p8 n r2.2.1 r2.2.2 ae).bind λr3=>some (r2.1,r3.1,r3.2))
def IH(n:Nat)(ae:hX)(cm:Int)(cW:Int)(v20:List atW):Option ((List atW)×Int×Int):=some (v20,cm,cW)
def zc(r1:Int×Int×Int)(ae:hX)(ak:Int→Int→(List atW)→Int→Option ((List atW)×Int×Int))(bq:Int)(v9:Int)(v10:List atW)(v11:Int):Option ((List atW)×Int×Int):=cond (decide (v11<r1.1)) ( (wv n 24 (⟨ae.s,bq,v9⟩:hX)).bind λeT=>ax (room (v10.length+([eT.1]:List atW).length) 16)<|ak eT.2.1 eT.2.2 (v10++([eT.1]:List atW)) (atY (v11+1))) ( IH n ae bq v9 v10)
def sI(n:Nat)(r1:Int×Int×Int)(ae:hX):Nat→Int→Int→(List atW)→Int→Option ((List atW)×Int×Int)
 | 0=>λ_ _ _ _=>none
 |m+1=>zc n r1 ae (sI n r1 ae m)
def ub(ae:hX):Option ((List atW)×Int×Int):=(wu n 64 ae).bind λr1=>sI n r1 ae n r1.2.1 r1.2.2 ([]:List atW) 0
def ww(ae:hX):Option (Int×Int×Int):=cond (!decide (ae.e=0)) ( some (0,ae.at_,ae.e)) ( (sF n ae.s ae.at_).bind λr2=>(p8 n r2.2.1 r2.2.2 ae).bind λr3=>some (r2.1,r3.1,r3.2))
def zd(ae:hX):Option (bp×Int×Int):=cond (!decide (ae.e=0)) ( some ((⟨0,0,[]⟩:bp),ae.at_,ae.e)) ( (y9 n ae.s ae.at_).bind λr2=>(p8 n r2.2.1 r2.2.2 ae).bind λr3=>some (r2.1,r3.1,r3.2))
def sJ(r1:Int×Int×Int)(r2:Int×Int×Int)(s:atW)(r3:atW×Int×Int)(hO:List bp)(r24:Bool×Int×Int)(nA:Int)(v28:Int)(hM:List atW)(v30:List atW):Option (Request×Int×Int):=cond (!decide (v28=0)) ( some ((⟨0,0,[],[],false,⟨false,[],[]⟩⟩:Request),0,v28)) ( cond (cond (decide (32<r1.1)) true (decide (1099511627776<r2.1))) ( some ((⟨0,0,[],[],false,⟨false,[],[]⟩⟩:Request),0,5)) ( (ot n (⟨(atY r1.1),(atY r2.1),r3.1,hO,r24.1,⟨false,hM,v30⟩⟩:Request)).bind λo7=>cond (!decide (o7=0)) ( some ((⟨0,0,[],[],false,⟨false,[],[]⟩⟩:Request),0,5)) ( some ((⟨(atY r1.1),(atY r2.1),r3.1,hO,r24.1,⟨false,hM,v30⟩⟩:Request),nA,0))))
def ze(r1:Int×Int×Int)(r2:Int×Int×Int)(s:atW)(r3:atW×Int×Int)(v21:Int)(c7:Int)(hO:List bp):Option (Request×Int×Int):=(zb n (⟨s,v21,c7⟩:hX)).bind λr24=>cond r24.1 ( (ub n (⟨s,r24.2.1,r24.2.2⟩:hX)).bind λf9=>(ub n (⟨s,f9.2.1,f9.2.2⟩:hX)).bind λr26=>sJ n r1 r2 s r3 hO r24 r26.2.1 r26.2.2 f9.1 r26.1) ( sJ n r1 r2 s r3 hO r24 r24.2.1 r24.2.2 ([]:List atW) ([]:List atW))
def zf(r1:Int×Int×Int)(r2:Int×Int×Int)(bj:Int×Int×Int)(s:atW)(r3:atW×Int×Int)(eC:Int→Int→(List bp)→Int→Option (Request×Int×Int))(v11:Int)(v12:Int)(cv:List bp)(bD:Int):Option (Request×Int×Int):=cond (decide (bD<bj.1)) ( (zd n (⟨s,v11,v12⟩:hX)).bind λdS=>ax (room (cv.length+([dS.1]:List bp).length) 32)<|eC dS.2.1 dS.2.2 (cv++([dS.1]:List bp)) (atY (bD+1))) ( ze n r1 r2 s r3 v11 v12 cv)
def sK(n:Nat)(r1:Int×Int×Int)(r2:Int×Int×Int)(bj:Int×Int×Int)(s:atW)(r3:atW×Int×Int):Nat→Int→Int→(List bp)→Int→Option (Request×Int×Int)
 | 0=>λ_ _ _ _=>none
 |m+1=>zf n r1 r2 bj s r3 (sK n r1 r2 bj s r3 m)
def II(s:atW)(at_:Int):Option (Request×Int×Int):=(ww n (⟨s,at_,0⟩:hX)).bind λr1=>(ww n (⟨s,r1.2.1,r1.2.2⟩:hX)).bind λr2=>(wv n 16 (⟨s,r2.2.1,r2.2.2⟩:hX)).bind λr3=>(wu n 6 (⟨s,r3.2.1,r3.2.2⟩:hX)).bind λbj=>sK n r1 r2 bj s r3 n bj.2.1 bj.2.2 ([]:List bp) 0
def P'(n:Nat)(dK:List Request)(a1:Int):Option ((List Request)×Int×Int):=some (dK,a1,0)
def IJ(s:atW)(r1:Int×Int×Int)(ak:(List Request)→Int→Int→Option ((List Request)×Int×Int))(bq:List Request)(v9:Int)(v10:Int):Option ((List Request)×Int×Int):=cond (decide (v9<r1.1)) ( (II n s v10).bind λb4=>cond (!decide (b4.2.2=0)) ( some (([]:List Request),0,b4.2.2)) ( ax (room (bq.length+([b4.1]:List Request).length) 120)<|ak (bq++([b4.1]:List Request)) (atY (v9+1)) b4.2.1)) ( P' n bq v10)
def wx(n:Nat)(s:atW)(r1:Int×Int×Int):Nat→(List Request)→Int→Int→Option ((List Request)×Int×Int)
 | 0=>λ_ _ _=>none
 |m+1=>IJ n s r1 (wx n s r1 m)
def IK(s:atW)(at_:Int):Option ((List Request)×Int×Int):=(p7 n s at_ 64).bind λr1=>cond (!decide (r1.2.2=0)) ( some (([]:List Request),0,r1.2.2)) ( wx n s r1 n ([]:List Request) 0 r1.2.1)
def zg(ae:fm):Option ((List Request)×Int×Int):=cond (!decide (ae.e=0)) ( some (([]:List Request),ae.at_,ae.e)) ( (IK n ae.s ae.at_).bind λr2=>cond (!decide (r2.2.2=0)) ( some (([]:List Request),ae.at_,r2.2.2)) ( some (r2.1,r2.2.1,r2.2.2)))
def zh(n:Nat)(r2:Int×Int×Int)(ae:k1)(v3:Int):Option (Int×Int×Int):=cond (!decide (v3=0)) ( some (0,ae.at_,v3)) ( some ((atY r2.1),r2.2.1,v3))
def sL(least:Int)(bJ:Int)(ae:k1):Option (Int×Int×Int):=cond (!decide (ae.e=0)) ( some (0,ae.at_,ae.e)) ( (sF n ae.s ae.at_).bind λr2=>cond (cond (decide (r2.2.2=0)) (cond (decide (r2.1<least)) true (decide (bJ<r2.1))) false) ( zh n r2 ae 5) ( zh n r2 ae r2.2.2))
def Dn(n:Nat)(ae:k1)(r1:Int×Int×Int)(r2:Int×Int×Int)(v21:Int)(c7:Int)(hO:List bp):Option (Outcome×Int×Int):=some ((⟨r1.1,r2.1,hO⟩:Outcome),v21,c7)
def zi(bj:Int×Int×Int)(ae:k1)(r1:Int×Int×Int)(r2:Int×Int×Int)(ak:Int→Int→(List bp)→Int→Option (Outcome×Int×Int))(v11:Int)(v12:Int)(cv:List bp)(bD:Int):Option (Outcome×Int×Int):=cond (cond (decide (bD<bj.1)) (decide (v12=0)) false) ( (y9 n ae.s v11).bind λdS=>ax (room (cv.length+([dS.1]:List bp).length) 32)<|ak dS.2.1 dS.2.2 (cv++([dS.1]:List bp)) (atY (bD+1))) ( Dn n ae r1 r2 v11 v12 cv)
def uc(n:Nat)(bj:Int×Int×Int)(ae:k1)(r1:Int×Int×Int)(r2:Int×Int×Int):Nat→Int→Int→(List bp)→Int→Option (Outcome×Int×Int)
 | 0=>λ_ _ _ _=>none
 |m+1=>zi n bj ae r1 r2 (uc n bj ae r1 r2 m)
def Do(ae:k1):Option (Outcome×Int×Int):=(sL n 0 9999 ae).bind λr1=>(sL n 0 9999 (⟨ae.s,r1.2.1,r1.2.2⟩:k1)).bind λr2=>cond (!decide (r2.2.2=0)) ( some ((⟨r1.1,r2.1,[]⟩:Outcome),r2.2.1,r2.2.2)) ( (p7 n ae.s r2.2.1 16).bind λbj=>uc n bj ae r1 r2 n bj.2.1 bj.2.2 ([]:List bp) 0)
def IL(n:Nat)(ae:k1)(r1:Int×Int×Int)(r2:Int×Int×Int)(v21:Int)(c7:Int)(hO:List eS):Option (bM×Int×Int):=some ((⟨r1.1,r2.1,hO⟩:bM),v21,c7)
def Dp(bj:Int)(ae:k1)(r1:Int×Int×Int)(r2:Int×Int×Int)(ak:Int→Int→(List eS)→Int→Option (bM×Int×Int))(v11:Int)(v12:Int)(cv:List eS)(bD:Int):Option (bM×Int×Int):=cond (cond (decide (bD<bj)) (decide (v12=0)) false) ( (Do n (⟨ae.s,v11,v12⟩:k1)).bind λdS=>ax (room (cv.length+([(⟨r1.1,(atY (r2.1-(atY (bj-bD)))),dS.1⟩:eS)]:List eS).length) 56)<|ak dS.2.1 dS.2.2 (cv++([(⟨r1.1,(atY (r2.1-(atY (bj-bD)))),dS.1⟩:eS)]:List eS)) (atY (bD+1))) ( IL n ae r1 r2 v11 v12 cv)
def wy(n:Nat)(bj:Int)(ae:k1)(r1:Int×Int×Int)(r2:Int×Int×Int):Nat→Int→Int→(List eS)→Int→Option (bM×Int×Int)
 | 0=>λ_ _ _ _=>none
 |m+1=>Dp n bj ae r1 r2 (wy n bj ae r1 r2 m)
def Dq(ae:k1):Option (bM×Int×Int):=(sL n 1 32 ae).bind λr1=>(sL n 1 1099511627776 (⟨ae.s,r1.2.1,r1.2.2⟩:k1)).bind λr2=>cond (!decide (r2.2.2=0)) ( some ((⟨r1.1,r2.1,[]⟩:bM),r2.2.1,r2.2.2)) ( (C7 n r2.1).bind λbj=>wy n bj ae r1 r2 n r2.2.1 r2.2.2 ([]:List eS) 0)
def Dr(s:atW)(cW:Int)(v20:Int)(v21:List bM):Option ((List bM)×Int×Int):=cond (!decide (v20=0)) ( some (([]:List bM),0,v20)) ( (sD n v21).bind λft=>cond (!ft) ( some (([]:List bM),0,5)) ( some (v21,cW,0)))
def Ds(r1:Int×Int×Int)(s:atW)(ak:Int→Int→(List bM)→Int→Option ((List bM)×Int×Int))(v9:Int)(v10:Int)(v11:List bM)(v12:Int):Option ((List bM)×Int×Int):=cond (cond (decide (v12<r1.1)) (decide (v10=0)) false) ( (Dq n (⟨s,v9,v10⟩:k1)).bind λdR=>ax (room (v11.length+([dR.1]:List bM).length) 40)<|ak dR.2.1 dR.2.2 (v11++([dR.1]:List bM)) (atY (v12+1))) ( Dr n s v9 v10 v11)
def wz(n:Nat)(r1:Int×Int×Int)(s:atW):Nat→Int→Int→(List bM)→Int→Option ((List bM)×Int×Int)
 | 0=>λ_ _ _ _=>none
 |m+1=>Ds n r1 s (wz n r1 s m)
def IM(s:atW)(at_:Int):Option ((List bM)×Int×Int):=(p7 n s at_ 32).bind λr1=>cond (!decide (r1.2.2=0)) ( some (([]:List bM),0,r1.2.2)) ( wz n r1 s n r1.2.1 0 ([]:List bM) 0)
def zj(ae:fm):Option ((List bM)×Int×Int):=cond (!decide (ae.e=0)) ( some (([]:List bM),ae.at_,ae.e)) ( (IM n ae.s ae.at_).bind λr2=>cond (!decide (r2.2.2=0)) ( some (([]:List bM),ae.at_,r2.2.2)) ( some (r2.1,r2.2.1,r2.2.2)))
def P_(s:atW)(at_:Int)(a2:Int):Option (Int×Int×Int):=(p7 n s at_ a2).bind λr1=>some (r1.1,r1.2.1,r1.2.2)
def wA(p:Int)(ae:fm):Option (Int×Int×Int):=cond (!decide (ae.e=0)) ( some (0,ae.at_,ae.e)) ( (P_ n ae.s ae.at_ p).bind λr2=>cond (!decide (r2.2.2=0)) ( some (0,ae.at_,r2.2.2)) ( some (r2.1,r2.2.1,r2.2.2)))
def wB(ae:fm):Option (Int×Int×Int):=cond (!decide (ae.e=0)) ( some (0,ae.at_,ae.e)) ( (y8 n ae.s ae.at_).bind λr2=>cond (!decide (r2.2.2=0)) ( some (0,ae.at_,r2.2.2)) ( some (r2.1,r2.2.1,r2.2.2)))
def Qa(s:atW)(at_:Int)(a2:Int):Option (atW×Int×Int):=(ua n s at_ a2).bind λr1=>some (r1.1,r1.2.1,r1.2.2)
def Dt(p:Int)(ae:fm):Option (atW×Int×Int):=cond (!decide (ae.e=0)) ( some (([]:atW),ae.at_,ae.e)) ( (Qa n ae.s ae.at_ p).bind λr2=>cond (!decide (r2.2.2=0)) ( some (([]:atW),ae.at_,r2.2.2)) ( some (r2.1,r2.2.1,r2.2.2)))
def zk(ae:fm):Option (Int×Int×Int):=cond (!decide (ae.e=0)) ( some (0,ae.at_,ae.e)) ( (sF n ae.s ae.at_).bind λr2=>cond (!decide (r2.2.2=0)) ( some (0,ae.at_,r2.2.2)) ( some (r2.1,r2.2.1,r2.2.2)))
def Du(n:Nat)(bJ:Int):at1:=some bJ
def ud(ae:fm)(r1:Int×Int×Int)(r26:(List bM)×Int×Int)(r27:cb×Int×Int)(r2:(List bn)×Int×Int)(v25:List atW)(IN:Int)(v51:Int)(IP:List bi):Option (o4×Int×Int):=(zg n (⟨ae.s,IN,v51⟩:fm)).bind λzl=>(zk n (⟨ae.s,zl.2.1,zl.2.2⟩:fm)).bind λk3=>some ((⟨⟨r1.1,⟨0,0,[]⟩,[],r26.1,r27.1,IP,zl.1,k3.1⟩,r2.1,v25⟩:o4),k3.2.1,k3.2.2)
def Dv(ae:fm)(r1:Int×Int×Int)(r26:(List bM)×Int×Int)(r27:cb×Int×Int)(r2:(List bn)×Int×Int)(v25:List atW)(eC:Int→Int→(List bi)→Int→Option (o4×Int×Int))(iE:Int)(iY:Int)(v40:List bi)(kj:Int):Option (o4×Int×Int):=cond (cond (decide (0<kj)) (decide (iY=0)) false) ( (Du n 24).bind λhN=>(Dt n hN (⟨ae.s,iE,iY⟩:fm)).bind λox=>(wB n (⟨ae.s,ox.2.1,ox.2.2⟩:fm)).bind λgM=>ax (room (v40.length+([(⟨ox.1,gM.1⟩:bi)]:List bi).length) 24)<|eC gM.2.1 gM.2.2 (v40++([(⟨ox.1,gM.1⟩:bi)]:List bi)) (atY (kj-1))) ( ud n ae r1 r26 r27 r2 v25 iE iY v40)
def ri(n:Nat)(ae:fm)(r1:Int×Int×Int)(r26:(List bM)×Int×Int)(r27:cb×Int×Int)(r2:(List bn)×Int×Int)(v25:List atW):Nat→Int→Int→(List bi)→Int→Option (o4×Int×Int)
 | 0=>λ_ _ _ _=>none
 |m+1=>Dv n ae r1 r26 r27 r2 v25 (ri n ae r1 r26 r27 r2 v25 m)
def ue(ae:fm)(r1:Int×Int×Int)(r2:(List bn)×Int×Int)(hO:Int)(v24:Int)(v25:List atW):Option (o4×Int×Int):=(zj n (⟨ae.s,hO,v24⟩:fm)).bind λr26=>(za n (⟨ae.s,r26.2.1,r26.2.2⟩:fm)).bind λr27=>(y5 n 32).bind λo8=>(wA n o8 (⟨ae.s,r27.2.1,r27.2.2⟩:fm)).bind λfI=>ri n ae r1 r26 r27 r2 v25 n fI.2.1 fI.2.2 ([]:List bi) fI.1
def Dw(ae:fm)(r1:Int×Int×Int)(r2:(List bn)×Int×Int)(d_:Int→Int→(List atW)→Int→Option (o4×Int×Int))(v12:Int)(cv:Int)(bD:List atW)(bB:Int):Option (o4×Int×Int):=cond (cond (decide (0<bB)) (decide (cv=0)) false) ( (Du n 16384).bind λeG=>(Dt n eG (⟨ae.s,v12,cv⟩:fm)).bind λeZ=>ax (room (bD.length+([eZ.1]:List atW).length) 16)<|d_ eZ.2.1 eZ.2.2 (bD++([eZ.1]:List atW)) (atY (bB-1))) ( ue n ae r1 r2 v12 cv bD)
def uf(n:Nat)(ae:fm)(r1:Int×Int×Int)(r2:(List bn)×Int×Int):Nat→Int→Int→(List atW)→Int→Option (o4×Int×Int)
 | 0=>λ_ _ _ _=>none
 |m+1=>Dw n ae r1 r2 (uf n ae r1 r2 m)
def Dx(ae:fm):Option (o4×Int×Int):=(wB n ae).bind λr1=>(y' n (⟨ae.s,r1.2.1,r1.2.2⟩:fm)).bind λr2=>(y5 n 16).bind λr3=>(wA n r3 (⟨ae.s,r2.2.1,r2.2.2⟩:fm)).bind λbj=>uf n ae r1 r2 n bj.2.1 bj.2.2 ([]:List atW) bj.1
def IQ(n:Nat):Option (atW×Int×Int):=some (([]:atW),0,6)
def Qb(n:Nat)(ak:(List Int)→Int→Option (atW×Int×Int))(s:atW)(cW:List Int)(v20:Int):Option (atW×Int×Int):=ak cW (atY (v20+1))
def IR(ak:(List Int)→Int→Option (atW×Int×Int))(s:atW)(v11:List Int)(dK:Int)(a1:Int):Option (atW×Int×Int):=cond (cond (decide (a1<32)) true (decide (126<a1))) ( some (([]:atW),0,5)) ( cond (decide (((v11.length:Nat):Int)=64)) ( some (([]:atW),0,2)) ( ax (room (v11.length+([a1]:List Int).length) 1)<|Qb n ak s (v11++([a1]:List Int)) dK))
def Qc(s:atW)(ak:(List Int)→Int→Option (atW×Int×Int))(v11:List Int)(v12:Int):Option (atW×Int×Int):=cond (decide (v12<((s.length:Nat):Int))) ( ax (aJ v12 s.length)<|cond (decide ((((s.getD (v12).toNat 0).toNat:Nat):Int)=34)) ( ax (nv v11)<|some ((jR v11),(atY (v12+1)),0)) ( cond (decide ((((s.getD (v12).toNat 0).toNat:Nat):Int)=92)) ( cond (decide ((atY (v12+1))=((s.length:Nat):Int))) ( IQ n) ( ax (aJ (atY (v12+1)) s.length)<|cond (cond (!decide ((((s.getD ((atY (v12+1))).toNat 0).toNat:Nat):Int)=34)) (!decide ((((s.getD ((atY (v12+1))).toNat 0).toNat:Nat):Int)=92)) false) ( some (([]:atW),0,5)) ( IR n ak s v11 (atY (v12+1)) (((s.getD ((atY (v12+1))).toNat 0).toNat:Nat):Int)))) ( IR n ak s v11 v12 (((s.getD (v12).toNat 0).toNat:Nat):Int)))) ( IQ n)
def zm(n:Nat)(s:atW):Nat→(List Int)→Int→Option (atW×Int×Int)
 | 0=>λ_ _=>none
 |m+1=>Qc n s (zm n s m)
def Qd(s:atW):Option (atW×Int×Int):=zm n s n ([]:List Int) 1
def Qe(s:atW)(c:Int):at1:=(Hn n s c).bind λr1=>some r1
def Dy(s:atW):Option atW:=ax (!(!(decide (s=([]:atW))))||aJ 0 s.length)<|Option.bind (cond (!(decide (s=([]:atW)))) (Qe n ([40,41,123,125,44,59,58,61,60,62,43,45,42,47,37]:atW) (((s.getD 0 0).toNat:Nat):Int)) (some default)) λbZ=>cond (cond (!(decide (s=([]:atW)))) (decide (0≤bZ)) false) ( ax (hh 1 s.length)<|some (s.take 1)) ( some ([]:atW))
def wC(s:atW)(v2:Bool):Option atW:=cond v2 ( ax (hh 2 s.length)<|some (s.take 2)) ( Dy n s)
def IS(s:atW):Option atW:=cond (decide (2≤((s.length:Nat):Int))) ( ax (hh 2 s.length)<|cond (decide ((s.take 2)=([61,61]:atW))) ( wC n s (decide ((s.take 2)=([61,61]:atW)))) ( cond (decide ((s.take 2)=([33,61]:atW))) ( wC n s (decide ((s.take 2)=([33,61]:atW)))) ( cond (decide ((s.take 2)=([60,61]:atW))) ( wC n s (decide ((s.take 2)=([60,61]:atW)))) ( cond (decide ((s.take 2)=([62,61]:atW))) ( wC n s (decide ((s.take 2)=([62,61]:atW)))) ( wC n s (decide ((s.take 2)=([43,43]:atW)))))))) ( Dy n s)
def Dz(s:atW)(v3:atW)(v4:Bool)(v10:Int):Option (Int×Int):=ax ((cond (decide (v10=0)) true (decide (v10<((v3.length:Nat):Int))))||aJ 0 v3.length)<|cond (cond (cond (decide (v10=0)) true (decide (v10<((v3.length:Nat):Int)))) true (cond (decide ((((v3.getD 0 0).toNat:Nat):Int)=48)) (cond (decide (1<v10)) true v4) false)) ( some (0,5)) ( (yu n s 10 64).bind λdR=>ii.on dR (λYl=>cond (!true) ( some (0,3)) ( some (Yl,0))) (λYm=>cond (!false) ( some (0,3)) ( some (Ym,0))))
def Qf(s:atW)(v3:atW)(v4:Bool)(eC:Int→Option (Int×Int))(bz:Int):Option (Int×Int):=cond (decide (bz<((v3.length:Nat):Int))) ( ax (aJ bz v3.length)<|cond (cond (decide (48≤(((v3.getD (bz).toNat 0).toNat:Nat):Int))) (decide ((((v3.getD (bz).toNat 0).toNat:Nat):Int)≤57)) false) ( eC (atY (bz+1))) ( Dz n s v3 v4 bz)) ( Dz n s v3 v4 bz)
def zn(n:Nat)(s:atW)(v3:atW)(v4:Bool):Nat→Int→Option (Int×Int)
 | 0=>λ_=>none
 |m+1=>Qf n s v3 v4 (zn n s v3 v4 m)
def IT(s:atW)(v3:atW)(v4:Bool):Option (Int×Int):=zn n s v3 v4 n 0
def IU(s:atW):Option (Int×Int):=ax (!(decide (0<((s.length:Nat):Int)))||aJ 0 s.length)<|cond (cond (decide (0<((s.length:Nat):Int))) (decide ((((s.getD 0 0).toNat:Nat):Int)=45)) false) ( ax (hh 1 s.length)<|IT n s (s.drop 1) true) ( IT n s s false)
def IV(w:atW):Option (Token×Int):=ax (aJ 0 w.length)<|cond (decide ((((w.getD 0 0).toNat:Nat):Int)=95)) ( some ((⟨0,[],0,0⟩:Token),5)) ( ax (aJ 0 w.length)<|(CJ n (IntKind.i32.wrap (((w.getD 0 0).toNat:Nat):Int))).bind λbj=>cond bj ( (CI n w).bind λbO=>cond bO ( some ((⟨2,w,0,0⟩:Token),0)) ( (sA n w).bind λcU=>cond (!cU) ( some ((⟨0,[],0,0⟩:Token),2)) ( some ((⟨1,w,0,0⟩:Token),0)))) ( (IU n w).bind λdg=>cond (!decide (dg.2=0)) ( some ((⟨0,[],0,0⟩:Token),dg.2)) ( some ((⟨3,[],dg.1,0⟩:Token),0))))
def zo(s:atW):Option (Token×Int×Int):=(yt n s).bind λr1=>cond (decide (0<r1)) ( ax (hh r1 s.length)<|(IV n (s.take (r1).toNat)).bind λbj=>some (bj.1,r1,bj.2)) ( ax (aJ 0 s.length)<|cond (decide ((((s.getD 0 0).toNat:Nat):Int)=34)) ( (Qd n s).bind λcS=>some ((⟨4,cS.1,0,0⟩:Token),cS.2.1,cS.2.2)) ( (IS n s).bind λcU=>cond (decide (cU=([]:atW))) ( some ((⟨0,[],0,0⟩:Token),0,5)) ( some ((⟨5,cU,0,0⟩:Token),((cU.length:Nat):Int),0))))
def IW(s:atW):Option atW:=(Hm n s).bind λr1=>some r1
def zp(n:Nat)(IX:List Token):Option ((List Token)×Int×Int):=some (IX,0,0)
def DA(ak:(List Token)→Int→Int→Option ((List Token)×Int×Int))(src:atW)(a1:List Token)(cm:Int)(cW:Int):Option ((List Token)×Int×Int):=ax (hh cW src.length)<|(zo n (src.drop (cW).toNat)).bind λfI=>cond (!decide (fI.2.2=0)) ( some (([]:List Token),cm,fI.2.2)) ( (IW n fI.1.Text).bind λim=>ax (room (a1.length+([(⟨fI.1.Kind,im,fI.1.N,cm⟩:Token)]:List Token).length) 40)<|ak (a1++([(⟨fI.1.Kind,im,fI.1.N,cm⟩:Token)]:List Token)) cm (atY (cW+fI.2.1)))
def Qg(n:Nat)(ak:(List Token)→Int→Int→Option ((List Token)×Int×Int))(src:atW)(a1:List Token)(cm:Int)(nA:Int):Option ((List Token)×Int×Int):=ak a1 cm nA
def Qh(ak:(List Token)→Int→Int→Option ((List Token)×Int×Int))(src:atW)(a1:List Token)(cm:Int)(re:Int→Option ((List Token)×Int×Int))(v24:Int):Option ((List Token)×Int×Int):=ax (!(decide (v24<((src.length:Nat):Int)))||aJ v24 src.length)<|cond (cond (decide (v24<((src.length:Nat):Int))) (!decide ((((src.getD (v24).toNat 0).toNat:Nat):Int)=10)) false) ( re (atY (v24+1))) ( Qg n ak src a1 cm v24)
def DB(n:Nat)(ak:(List Token)→Int→Int→Option ((List Token)×Int×Int))(src:atW)(a1:List Token)(cm:Int):Nat→Int→Option ((List Token)×Int×Int)
 | 0=>λ_=>none
 |m+1=>Qh n ak src a1 cm (DB n ak src a1 cm m)
def zq(ak:(List Token)→Int→Int→Option ((List Token)×Int×Int))(src:atW)(a1:List Token)(cm:Int)(cW:Int)(v21:Bool):Option ((List Token)×Int×Int):=cond v21 ( ak a1 cm (atY (cW+1))) ( cond (decide ((((src.getD (cW).toNat 0).toNat:Nat):Int)=35)) ( DB n ak src a1 cm n cW) ( DA n ak src a1 cm cW))
def zr(src:atW)(ak:(List Token)→Int→Int→Option ((List Token)×Int×Int))(a1:List Token)(cm:Int)(cW:Int):Option ((List Token)×Int×Int):=cond (decide (cW<((src.length:Nat):Int))) ( ax (aJ cW src.length)<|cond (decide ((((src.getD (cW).toNat 0).toNat:Nat):Int)=10)) ( ak a1 (atY (cm+1)) (atY (cW+1))) ( cond (decide ((((src.getD (cW).toNat 0).toNat:Nat):Int)=32)) ( zq n ak src a1 cm cW (decide ((((src.getD (cW).toNat 0).toNat:Nat):Int)=32))) ( zq n ak src a1 cm cW (decide ((((src.getD (cW).toNat 0).toNat:Nat):Int)=9))))) ( zp n a1)
def sM(n:Nat)(src:atW):Nat→(List Token)→Int→Int→Option ((List Token)×Int×Int)
 | 0=>λ_ _ _=>none
 |m+1=>zr n src (sM n src m)
def wD(src:atW):Option ((List Token)×Int×Int):=cond (decide (16384<((src.length:Nat):Int))) ( some (([]:List Token),0,2)) ( sM n src n ([]:List Token) 1 0)
def ug(n:Nat)(text:atW)(ae:aY):at0:=cond (decide (((ae.tokens.length:Nat):Int)≤ae.at_)) ( some false) ( ax (aJ ae.at_ ae.tokens.length)<|some (cond (cond (decide ((atZ ae.tokens (ae.at_)).Kind=2)) true (decide ((atZ ae.tokens (ae.at_)).Kind=5))) (decide (((atZ ae.tokens (ae.at_)).Text)=text)) false))
def kF(text:atW)(ae:aY):Option (Bool×Int):=(ug n text ae).bind λr1=>cond (!r1) ( some (false,ae.at_)) ( some (true,(atY (ae.at_+1))))
def Qi(n:Nat)(ae:aY):Option (aD Unit Unit):=ax (aJ (atY (((ae.tokens.length:Nat):Int)-1)) ae.tokens.length)<|some (.bf (.iface 332 (.agg [.int .i64 ((atZ ae.tokens (atY (((ae.tokens.length:Nat):Int)-1))).lC),.int .i64 6])) ())
def Qj(ae:aY):Option (aD Unit Unit):=cond (decide (((ae.tokens.length:Nat):Int)=0)) ( some (.bf (.iface 332 (.agg [.int .i64 1,.int .i64 6])) ())) ( Qi n ae)
def sN(code:Int)(ae:aY):Option (aD Unit Unit):=cond (decide (ae.at_<((ae.tokens.length:Nat):Int))) ( ax (aJ ae.at_ ae.tokens.length)<|some (.bf (.iface 332 (.agg [.int .i64 ((atZ ae.tokens (ae.at_)).lC),.int .i64 code])) ())) ( Qj n ae)
def kG(text:atW)(ae:aY):Option (aD Unit Int):=(kF n text ae).bind λr1=>cond (!r1.1) ( (sN n 5 (⟨ae.tokens,r1.2⟩:aY)).bind λr3=>aD.on r3 (λbj bZ=>some (.ret () r1.2)) (λp9 bZ=>some (.bf p9 r1.2))) ( some (.ret () r1.2))
def rj(s:Stmt)(ae:aY):Option (aD Stmt Int):=(kG n ([59]:atW) ae).bind λr1=>aD.on r1 (λr2 r3=>some (.ret (⟨s.Op,s.Name,s.Max,⟨s.A.Op,s.A.N,s.A.S,s.A.ar⟩,⟨s.B.Op,s.B.N,s.B.S,s.B.ar⟩,s.Body,s.bx⟩:Stmt) r3)) (λfp r3=>some (.bf fp r3))
def IY(n:Nat)(ae:aY):Option (Int×Int):=cond (decide (((ae.tokens.length:Nat):Int)≤ae.at_)) ( some (0,0)) ( ax (aJ ae.at_ ae.tokens.length)<|cond (cond (!decide ((atZ ae.tokens (ae.at_)).Kind=2)) (!decide ((atZ ae.tokens (ae.at_)).Kind=5)) false) ( some (0,0)) ( cond (decide (((atZ ae.tokens (ae.at_)).Text)=([111,114]:atW))) ( some (1,17)) ( cond (decide (((atZ ae.tokens (ae.at_)).Text)=([97,110,100]:atW))) ( some (2,16)) ( cond (decide (((atZ ae.tokens (ae.at_)).Text)=([61,61]:atW))) ( some (4,10)) ( cond (decide (((atZ ae.tokens (ae.at_)).Text)=([33,61]:atW))) ( some (4,11)) ( cond (decide (((atZ ae.tokens (ae.at_)).Text)=([60]:atW))) ( some (4,12)) ( cond (decide (((atZ ae.tokens (ae.at_)).Text)=([60,61]:atW))) ( some (4,13)) ( cond (decide (((atZ ae.tokens (ae.at_)).Text)=([62]:atW))) ( some (4,14)) ( cond (decide (((atZ ae.tokens (ae.at_)).Text)=([62,61]:atW))) ( some (4,15)) ( cond (decide (((atZ ae.tokens (ae.at_)).Text)=([43,43]:atW))) ( some (5,19)) ( cond (decide (((atZ ae.tokens (ae.at_)).Text)=([43]:atW))) ( some (6,4)) ( cond (decide (((atZ ae.tokens (ae.at_)).Text)=([45]:atW))) ( some (6,5)) ( cond (decide (((atZ ae.tokens (ae.at_)).Text)=([42]:atW))) ( some (7,6)) ( cond (decide (((atZ ae.tokens (ae.at_)).Text)=([47]:atW))) ( some (7,7)) ( cond (decide (((atZ ae.tokens (ae.at_)).Text)=([37]:atW))) ( some (7,8)) ( some (0,0)))))))))))))))))
def IZ(n:Nat)(depth:Int)(ae:aY):Option (aD Int Unit):=some (.ret (atY (depth+1)) ())
def zt(depth:Int)(ae:aY):Option (aD Int Unit):=cond (decide (24≤depth)) ( (sN n 2 ae).bind λr1=>aD.on r1 (λr2 r3=>IZ n depth ae) (λfp r3=>some (.bf fp ()))) ( IZ n depth ae)
def I0(n:Nat)(ae:aY):at1:=ax ((decide (((ae.tokens.length:Nat):Int)≤ae.at_))||aJ ae.at_ ae.tokens.length)<|cond (cond (decide (((ae.tokens.length:Nat):Int)≤ae.at_)) true (!decide ((atZ ae.tokens (ae.at_)).Kind=2))) ( some 0) ( ax (aJ ae.at_ ae.tokens.length)<|cond (decide (((atZ ae.tokens (ae.at_)).Text)=([116,101,120,116]:atW))) ( some 20) ( cond (decide (((atZ ae.tokens (ae.at_)).Text)=([108,101,110]:atW))) ( some 21) ( cond (decide (((atZ ae.tokens (ae.at_)).Text)=([103,101,116,105,110,116]:atW))) ( some 22) ( cond (decide (((atZ ae.tokens (ae.at_)).Text)=([103,101,116,115,116,114]:atW))) ( some 23) ( cond (decide (((atZ ae.tokens (ae.at_)).Text)=([104,97,115]:atW))) ( some 24) ( cond (decide (((atZ ae.tokens (ae.at_)).Text)=([110,111,119]:atW))) ( some 25) ( cond (decide (((atZ ae.tokens (ae.at_)).Text)=([114,97,110,100,111,109]:atW))) ( some 26) ( cond (decide (((atZ ae.tokens (ae.at_)).Text)=([110,111,100,101]:atW))) ( some 27) ( some 0)))))))))
def DC(fJ:Int→Int→aY→Option (aD Expr Int))(f':Int→Int→Int→aY→Option (aD Expr Int))(gi:Int→aY→Option (aD Expr Int))(f_:Int→aY→Option (aD Expr Int))(level:Int)(depth:Int)(ae:aY)(c_:Int→Int→Int→atW→(List Expr)→Option (aD Expr Int))(v37:Int)(iE:Int)(iY:Int)(v40:atW)(kj:List Expr):Option (aD Expr Int):=(IY n (⟨ae.tokens,v37⟩:aY)).bind λhN=>cond (!decide (hN.1=level)) ( some (.ret (⟨iE,iY,v40,kj⟩:Expr) v37)) ( (fJ (atY (level+1)) depth (⟨ae.tokens,(atY (v37+1))⟩:aY)).bind λox=>aD.on ox (λgM jo=>cond (decide (level=4)) ( some (.ret (⟨hN.2,0,[],[⟨iE,iY,v40,kj⟩,gM]⟩:Expr) jo)) ( c_ jo hN.2 0 ([]:atW) ([(⟨iE,iY,v40,kj⟩:Expr),gM]:List Expr))) (λwE jo=>some (.bf wE jo)))
def p'(n:Nat)(fJ:Int→Int→aY→Option (aD Expr Int))(f':Int→Int→Int→aY→Option (aD Expr Int))(gi:Int→aY→Option (aD Expr Int))(f_:Int→aY→Option (aD Expr Int))(level:Int)(depth:Int)(ae:aY):Nat→Int→Int→Int→atW→(List Expr)→Option (aD Expr Int)
 | 0=>λ_ _ _ _ _=>none
 |m+1=>DC n fJ f' gi f_ level depth ae (p' n fJ f' gi f_ level depth ae m)
def uh(fJ:Int→Int→aY→Option (aD Expr Int))(f':Int→Int→Int→aY→Option (aD Expr Int))(gi:Int→aY→Option (aD Expr Int))(f_:Int→aY→Option (aD Expr Int))(level:Int)(depth:Int)(ae:aY):Option (aD Expr Int):=cond (decide (level=3)) ( (ug n ([110,111,116]:atW) ae).bind λr2=>cond r2 ( (f' 18 level depth ae).bind λbj=>aD.on bj (λbZ bO=>some (.ret bZ bO)) (λDD bO=>some (.bf DD bO))) ( (fJ 4 depth ae).bind λcU=>aD.on cU (λcP dg=>some (.ret cP dg)) (λQk dg=>some (.bf Qk dg)))) ( cond (decide (level=8)) ( (ug n ([45]:atW) ae).bind λdR=>cond dR ( (f' 9 level depth ae).bind λdS=>aD.on dS (λeG eZ=>some (.ret eG eZ)) (λwF eZ=>some (.bf wF eZ))) ( (gi depth ae).bind λfo=>aD.on fo (λeO fD=>some (.ret eO fD)) (λQl fD=>some (.bf Ql fD)))) ( (fJ (atY (level+1)) depth ae).bind λft=>aD.on ft (λr24 f9=>p' n fJ f' gi f_ level depth ae n f9 r24.Op r24.N r24.S r24.ar) (λQm f9=>some (.bf Qm f9))))
def I1(fJ:Int→Int→aY→Option (aD Expr Int))(f':Int→Int→Int→aY→Option (aD Expr Int))(gi:Int→aY→Option (aD Expr Int))(f_:Int→aY→Option (aD Expr Int))(op:Int)(level:Int)(depth:Int)(ae:aY):Option (aD Expr Int):=(zt n depth ae).bind λr1=>aD.on r1 (λr2 r3=>(fJ level r2 (⟨ae.tokens,(atY (ae.at_+1))⟩:aY)).bind λbZ=>aD.on bZ (λbO cS=>some (.ret (⟨op,0,[],[bO]⟩:Expr) cS)) (λjC cS=>some (.bf jC cS))) (λfp r3=>some (.bf fp ae.at_))
def Qn(fJ:Int→Int→aY→Option (aD Expr Int))(f':Int→Int→Int→aY→Option (aD Expr Int))(gi:Int→aY→Option (aD Expr Int))(f_:Int→aY→Option (aD Expr Int))(depth:Int)(r3:Int)(ae:aY)(v2:Int):Option (aD Expr Int):=(zt n depth (⟨ae.tokens,v2⟩:aY)).bind λr26=>aD.on r26 (λr27 o8=>(f_ r27 (⟨ae.tokens,(atY (v2+1))⟩:aY)).bind λim=>aD.on im (λgz mu=>some (.ret (⟨r3,0,[],[gz]⟩:Expr) mu)) (λwG mu=>some (.bf wG mu))) (λQo o8=>some (.bf Qo v2))
def I2(fJ:Int→Int→aY→Option (aD Expr Int))(f':Int→Int→Int→aY→Option (aD Expr Int))(gi:Int→aY→Option (aD Expr Int))(f_:Int→aY→Option (aD Expr Int))(depth:Int)(ae:aY)(v2:Int):Option (aD Expr Int):=(zt n depth (⟨ae.tokens,v2⟩:aY)).bind λcP=>aD.on cP (λdg b4=>(f_ dg (⟨ae.tokens,v2⟩:aY)).bind λdR=>aD.on dR (λeY dS=>some (.ret eY dS)) (λwH dS=>some (.bf wH dS))) (λm6 b4=>some (.bf m6 v2))
def zu(fJ:Int→Int→aY→Option (aD Expr Int))(f':Int→Int→Int→aY→Option (aD Expr Int))(gi:Int→aY→Option (aD Expr Int))(f_:Int→aY→Option (aD Expr Int))(depth:Int)(r3:Int)(ae:aY)(v2:Int)(a1:Bool):Option (aD Expr Int):=cond a1 ( (kG n ([40]:atW) (⟨ae.tokens,(atY (v2+1))⟩:aY)).bind λgt=>aD.on gt (λfo eO=>(kG n ([41]:atW) (⟨ae.tokens,eO⟩:aY)).bind λes=>aD.on es (λft r24=>some (.ret (⟨r3,0,[],[]⟩:Expr) r24)) (λQp r24=>some (.bf Qp r24))) (λQq eO=>some (.bf Qq eO))) ( Qn n fJ f' gi f_ depth r3 ae v2)
def wI(fJ:Int→Int→aY→Option (aD Expr Int))(f':Int→Int→Int→aY→Option (aD Expr Int))(gi:Int→aY→Option (aD Expr Int))(f_:Int→aY→Option (aD Expr Int))(depth:Int)(ae:aY)(v2:Int):Option (aD Expr Int):=(I0 n (⟨ae.tokens,v2⟩:aY)).bind λr3=>cond (decide (r3=0)) ( (ug n ([40]:atW) (⟨ae.tokens,v2⟩:aY)).bind λbj=>cond (!bj) ( (sN n 5 (⟨ae.tokens,v2⟩:aY)).bind λbZ=>aD.on bZ (λbO cS=>I2 n fJ f' gi f_ depth ae v2) (λjC cS=>some (.bf jC v2))) ( I2 n fJ f' gi f_ depth ae v2)) ( cond (decide (r3=25)) ( zu n fJ f' gi f_ depth r3 ae v2 (decide (r3=25))) ( cond (decide (r3=26)) ( zu n fJ f' gi f_ depth r3 ae v2 (decide (r3=26))) ( zu n fJ f' gi f_ depth r3 ae v2 (decide (r3=27)))))
def I3(fJ:Int→Int→aY→Option (aD Expr Int))(f':Int→Int→Int→aY→Option (aD Expr Int))(gi:Int→aY→Option (aD Expr Int))(f_:Int→aY→Option (aD Expr Int))(depth:Int)(ae:aY):Option (aD Expr Int):=cond (decide (ae.at_<((ae.tokens.length:Nat):Int))) ( ax (aJ ae.at_ ae.tokens.length)<|cond (decide ((atZ ae.tokens (ae.at_)).Kind=3)) ( some (.ret (⟨1,(atZ ae.tokens (ae.at_)).N,[],[]⟩:Expr) (atY (ae.at_+1)))) ( cond (decide ((atZ ae.tokens (ae.at_)).Kind=4)) ( some (.ret (⟨2,0,(atZ ae.tokens (ae.at_)).Text,[]⟩:Expr) (atY (ae.at_+1)))) ( cond (decide ((atZ ae.tokens (ae.at_)).Kind=1)) ( some (.ret (⟨3,0,(atZ ae.tokens (ae.at_)).Text,[]⟩:Expr) (atY (ae.at_+1)))) ( wI n fJ f' gi f_ depth ae (atY ((atY (ae.at_+1))-1)))))) ( wI n fJ f' gi f_ depth ae ae.at_)
def I4(fJ:Int→Int→aY→Option (aD Expr Int))(f':Int→Int→Int→aY→Option (aD Expr Int))(gi:Int→aY→Option (aD Expr Int))(f_:Int→aY→Option (aD Expr Int))(depth:Int)(ae:aY):Option (aD Expr Int):=(kG n ([40]:atW) ae).bind λr1=>aD.on r1 (λr2 r3=>(fJ 1 depth (⟨ae.tokens,r3⟩:aY)).bind λbZ=>aD.on bZ (λbO cS=>(kG n ([41]:atW) (⟨ae.tokens,cS⟩:aY)).bind λcP=>aD.on cP (λdg b4=>some (.ret bO b4)) (λm6 b4=>some (.bf m6 b4))) (λjC cS=>some (.bf jC cS))) (λfp r3=>some (.bf fp r3))
def kH:Nat→(Int→Int→aY→Option (aD Expr Int))×(Int→Int→Int→aY→Option (aD Expr Int))×(Int→aY→Option (aD Expr Int))×(Int→aY→Option (aD Expr Int))
 | 0=>(λ_ _ _=>none,λ_ _ _ _=>none,λ_ _=>none,λ_ _=>none)
 |m+1=>(uh m ((kH m).1) ((kH m).2.1) ((kH m).2.2.1) ((kH m).2.2.2),I1 m ((kH m).1) ((kH m).2.1) ((kH m).2.2.1) ((kH m).2.2.2),I3 m ((kH m).1) ((kH m).2.1) ((kH m).2.2.1) ((kH m).2.2.2),I4 m ((kH m).1) ((kH m).2.1) ((kH m).2.2.1) ((kH m).2.2.2))
def hZ:Int→Int→aY→Option (aD Expr Int):=(kH n).1
def oy:Int→Int→Int→aY→Option (aD Expr Int):=(kH n).2.1
def m7:Int→aY→Option (aD Expr Int):=(kH n).2.2.1
def oz:Int→aY→Option (aD Expr Int):=(kH n).2.2.2
def I5(n:Nat)(ae:aY):Option (aD Token Int):=ax (aJ (atY ((atY (ae.at_+1))-1)) ae.tokens.length)<|some (.ret (atZ ae.tokens (atY ((atY (ae.at_+1))-1))) (atY (ae.at_+1)))
def p_(kind:Int)(ae:aY):Option (aD Token Int):=ax ((decide (((ae.tokens.length:Nat):Int)≤ae.at_))||aJ ae.at_ ae.tokens.length)<|cond (cond (decide (((ae.tokens.length:Nat):Int)≤ae.at_)) true (!decide ((atZ ae.tokens (ae.at_)).Kind=kind))) ( (sN n 5 ae).bind λr2=>aD.on r2 (λr3 bj=>I5 n ae) (λkI bj=>some (.bf kI ae.at_))) ( I5 n ae)
def Qr(n:Nat)(hr:Int→aY→Option (aD (List Stmt) Int))(hP:Int→aY→Option (aD Stmt Int))(hQ:Int→aY→Option (aD Stmt Int))(ae:aY)(v28:Int)(hM:List Stmt):Option (aD (List Stmt) Int):=some (.ret hM v28)
def I6(hr:Int→aY→Option (aD (List Stmt) Int))(hP:Int→aY→Option (aD Stmt Int))(hQ:Int→aY→Option (aD Stmt Int))(depth:Int)(ae:aY)(eC:Int→(List Stmt)→Option (aD (List Stmt) Int))(cm:Int)(cW:List Stmt):Option (aD (List Stmt) Int):=(kF n ([125]:atW) (⟨ae.tokens,cm⟩:aY)).bind λeO=>cond (!eO.1) ( (hP (atY (depth+1)) (⟨ae.tokens,eO.2⟩:aY)).bind λfD=>aD.on fD (λes ft=>ax (room (cW.length+([es]:List Stmt).length) 192)<|eC ft (cW++([es]:List Stmt))) (λqa ft=>some (.bf qa ft))) ( Qr n hr hP hQ ae eO.2 cW)
def zv(n:Nat)(hr:Int→aY→Option (aD (List Stmt) Int))(hP:Int→aY→Option (aD Stmt Int))(hQ:Int→aY→Option (aD Stmt Int))(depth:Int)(ae:aY):Nat→Int→(List Stmt)→Option (aD (List Stmt) Int)
 | 0=>λ_ _=>none
 |m+1=>I6 n hr hP hQ depth ae (zv n hr hP hQ depth ae m)
def I7(hr:Int→aY→Option (aD (List Stmt) Int))(hP:Int→aY→Option (aD Stmt Int))(hQ:Int→aY→Option (aD Stmt Int))(depth:Int)(ae:aY):Option (aD (List Stmt) Int):=(kG n ([123]:atW) ae).bind λbO=>aD.on bO (λcS cU=>zv n hr hP hQ depth ae n cU ([]:List Stmt)) (λQs cU=>some (.bf Qs cU))
def I8(hr:Int→aY→Option (aD (List Stmt) Int))(hP:Int→aY→Option (aD Stmt Int))(hQ:Int→aY→Option (aD Stmt Int))(depth:Int)(ae:aY):Option (aD (List Stmt) Int):=(ug n ([123]:atW) ae).bind λr1=>cond (cond r1 (decide (12<depth)) false) ( (sN n 2 ae).bind λr2=>aD.on r2 (λr3 bj=>I7 n hr hP hQ depth ae) (λkI bj=>some (.bf kI ae.at_))) ( I7 n hr hP hQ depth ae)
def DE(n:Nat)(hr:Int→aY→Option (aD (List Stmt) Int))(hP:Int→aY→Option (aD Stmt Int))(hQ:Int→aY→Option (aD Stmt Int))(ae:aY)(rk:Expr)(wJ:(List Stmt))(I9:Int)(I':List Stmt):Option (aD Stmt Int):=some (.ret (⟨5,[],0,rk,⟨0,0,[],[]⟩,wJ,I'⟩:Stmt) I9)
def o_(hr:Int→aY→Option (aD (List Stmt) Int))(hP:Int→aY→Option (aD Stmt Int))(hQ:Int→aY→Option (aD Stmt Int))(depth:Int)(ae:aY):Option (aD Stmt Int):=(kF n ([108,101,116]:atW) ae).bind λr1=>cond r1.1 ( (p_ n 1 (⟨ae.tokens,r1.2⟩:aY)).bind λr3=>aD.on r3 (λbj bZ=>(kG n ([61]:atW) (⟨ae.tokens,bZ⟩:aY)).bind λcS=>aD.on cS (λcU cP=>(hZ n 1 0 (⟨ae.tokens,cP⟩:aY)).bind λb4=>aD.on b4 (λeT dR=>(rj n (⟨1,bj.Text,0,eT,⟨0,0,[],[]⟩,[],[]⟩:Stmt) (⟨ae.tokens,dR⟩:aY)).bind λdS=>aD.on dS (λeG eZ=>some (.ret (⟨eG.Op,eG.Name,eG.Max,⟨eG.A.Op,eG.A.N,eG.A.S,eG.A.ar⟩,⟨eG.B.Op,eG.B.N,eG.B.S,eG.B.ar⟩,eG.Body,eG.bx⟩:Stmt) eZ)) (λwF eZ=>some (.bf wF eZ))) (λQt dR=>some (.bf Qt dR))) (λQu cP=>some (.bf Qu cP))) (λp9 bZ=>some (.bf p9 bZ))) ( (kF n ([112,117,116]:atW) (⟨ae.tokens,r1.2⟩:aY)).bind λfo=>cond fo.1 ( (hZ n 1 0 (⟨ae.tokens,fo.2⟩:aY)).bind λfD=>aD.on fD (λes ft=>(kG n ([61]:atW) (⟨ae.tokens,ft⟩:aY)).bind λf9=>aD.on f9 (λr26 r27=>(hZ n 1 0 (⟨ae.tokens,r27⟩:aY)).bind λfI=>aD.on fI (λim gz=>(rj n (⟨3,[],0,es,im,[],[]⟩:Stmt) (⟨ae.tokens,gz⟩:aY)).bind λo7=>aD.on o7 (λnB k4=>some (.ret (⟨nB.Op,nB.Name,nB.Max,⟨nB.A.Op,nB.A.N,nB.A.S,nB.A.ar⟩,⟨nB.B.Op,nB.B.N,nB.B.S,nB.B.ar⟩,nB.Body,nB.bx⟩:Stmt) k4)) (λQv k4=>some (.bf Qv k4))) (λwK gz=>some (.bf wK gz))) (λwL r27=>some (.bf wL r27))) (λqa ft=>some (.bf qa ft))) ( (kF n ([100,101,108,101,116,101]:atW) (⟨ae.tokens,fo.2⟩:aY)).bind λoA=>cond oA.1 ( (hZ n 1 0 (⟨ae.tokens,oA.2⟩:aY)).bind λyX=>aD.on yX (λwl nz=>(rj n (⟨4,[],0,wl,⟨0,0,[],[]⟩,[],[]⟩:Stmt) (⟨ae.tokens,nz⟩:aY)).bind λox=>aD.on ox (λgM jo=>some (.ret (⟨gM.Op,gM.Name,gM.Max,⟨gM.A.Op,gM.A.N,gM.A.S,gM.A.ar⟩,⟨gM.B.Op,gM.B.N,gM.B.S,gM.B.ar⟩,gM.Body,gM.bx⟩:Stmt) jo)) (λwE jo=>some (.bf wE jo))) (λwM nz=>some (.bf wM nz))) ( (kF n ([101,109,105,116]:atW) (⟨ae.tokens,oA.2⟩:aY)).bind λow=>cond ow.1 ( (hZ n 1 0 (⟨ae.tokens,ow.2⟩:aY)).bind λIm=>aD.on Im (λDd qb=>(rj n (⟨7,[],0,Dd,⟨0,0,[],[]⟩,[],[]⟩:Stmt) (⟨ae.tokens,qb⟩:aY)).bind λzl=>aD.on zl (λk3 DF=>some (.ret (⟨k3.Op,k3.Name,k3.Max,⟨k3.A.Op,k3.A.N,k3.A.S,k3.A.ar⟩,⟨k3.B.Op,k3.B.N,k3.B.S,k3.B.ar⟩,k3.Body,k3.bx⟩:Stmt) DF)) (λQw DF=>some (.bf Qw DF))) (λQx qb=>some (.bf Qx qb))) ( (kF n ([97,98,111,114,116]:atW) (⟨ae.tokens,ow.2⟩:aY)).bind λI_=>cond I_.1 ( (p_ n 3 (⟨ae.tokens,I_.2⟩:aY)).bind λpb=>aD.on pb (λYn DG=>(rj n (⟨8,[],Yn.N,⟨0,0,[],[]⟩,⟨0,0,[],[]⟩,[],[]⟩:Stmt) (⟨ae.tokens,DG⟩:aY)).bind λC_=>aD.on C_ (λkJ t_=>some (.ret (⟨kJ.Op,kJ.Name,kJ.Max,⟨kJ.A.Op,kJ.A.N,kJ.A.S,kJ.A.ar⟩,⟨kJ.B.Op,kJ.B.N,kJ.B.S,kJ.B.ar⟩,kJ.Body,kJ.bx⟩:Stmt) t_)) (λQy t_=>some (.bf Qy t_))) (λQz DG=>some (.bf Qz DG))) ( (kF n ([105,102]:atW) (⟨ae.tokens,I_.2⟩:aY)).bind λJa=>cond Ja.1 ( (hZ n 1 0 (⟨ae.tokens,Ja.2⟩:aY)).bind λahX=>aD.on ahX (λrk DH=>(hr depth (⟨ae.tokens,DH⟩:aY)).bind λahY=>aD.on ahY (λwJ DI=>(kF n ([101,108,115,101]:atW) (⟨ae.tokens,DI⟩:aY)).bind λJb=>cond Jb.1 ( (hr depth (⟨ae.tokens,Jb.2⟩:aY)).bind λahZ=>aD.on ahZ (λYo DJ=>DE n hr hP hQ ae rk wJ DJ Yo) (λQA DJ=>some (.bf QA DJ))) ( DE n hr hP hQ ae rk wJ Jb.2 ([]:List Stmt))) (λQB DI=>some (.bf QB DI))) (λQC DH=>some (.bf QC DH))) ( (kF n ([102,111,114]:atW) (⟨ae.tokens,Ja.2⟩:aY)).bind λJc=>cond Jc.1 ( (hQ depth (⟨ae.tokens,Jc.2⟩:aY)).bind λah0=>aD.on ah0 (λnC DK=>some (.ret (⟨nC.Op,nC.Name,nC.Max,⟨nC.A.Op,nC.A.N,nC.A.S,nC.A.ar⟩,⟨nC.B.Op,nC.B.N,nC.B.S,nC.B.ar⟩,nC.Body,nC.bx⟩:Stmt) DK)) (λQD DK=>some (.bf QD DK))) ( (p_ n 1 (⟨ae.tokens,Jc.2⟩:aY)).bind λyU=>aD.on yU (λwj DL=>(kG n ([61]:atW) (⟨ae.tokens,DL⟩:aY)).bind λah1=>aD.on ah1 (λIh DM=>(hZ n 1 0 (⟨ae.tokens,DM⟩:aY)).bind λah2=>aD.on ah2 (λYp DN=>(rj n (⟨2,wj.Text,0,Yp,⟨0,0,[],[]⟩,[],[]⟩:Stmt) (⟨ae.tokens,DN⟩:aY)).bind λah3=>aD.on ah3 (λnD t'=>some (.ret (⟨nD.Op,nD.Name,nD.Max,⟨nD.A.Op,nD.A.N,nD.A.S,nD.A.ar⟩,⟨nD.B.Op,nD.B.N,nD.B.S,nD.B.ar⟩,nD.Body,nD.bx⟩:Stmt) t')) (λQE t'=>some (.bf QE t'))) (λQF DN=>some (.bf QF DN))) (λQG DM=>some (.bf QG DM))) (λQH DL=>some (.bf QH DL)))))))))
def Jd(hr:Int→aY→Option (aD (List Stmt) Int))(hP:Int→aY→Option (aD Stmt Int))(hQ:Int→aY→Option (aD Stmt Int))(depth:Int)(ae:aY):Option (aD Stmt Int):=(p_ n 1 ae).bind λr1=>aD.on r1 (λr2 r3=>(kG n ([61]:atW) (⟨ae.tokens,r3⟩:aY)).bind λbZ=>aD.on bZ (λbO cS=>(hZ n 1 0 (⟨ae.tokens,cS⟩:aY)).bind λcP=>aD.on cP (λdg b4=>(kG n ([116,111]:atW) (⟨ae.tokens,b4⟩:aY)).bind λdR=>aD.on dR (λeY dS=>(hZ n 1 0 (⟨ae.tokens,dS⟩:aY)).bind λeZ=>aD.on eZ (λgt fo=>(kG n ([109,97,120]:atW) (⟨ae.tokens,fo⟩:aY)).bind λfD=>aD.on fD (λes ft=>(p_ n 3 (⟨ae.tokens,ft⟩:aY)).bind λf9=>aD.on f9 (λr26 r27=>(hr depth (⟨ae.tokens,r27⟩:aY)).bind λfI=>aD.on fI (λim gz=>some (.ret (⟨6,r2.Text,r26.N,dg,gt,im,[]⟩:Stmt) gz)) (λwK gz=>some (.bf wK gz))) (λwL r27=>some (.bf wL r27))) (λqa ft=>some (.bf qa ft))) (λQI fo=>some (.bf QI fo))) (λwH dS=>some (.bf wH dS))) (λm6 b4=>some (.bf m6 b4))) (λjC cS=>some (.bf jC cS))) (λfp r3=>some (.bf fp r3))
def pc:Nat→(Int→aY→Option (aD (List Stmt) Int))×(Int→aY→Option (aD Stmt Int))×(Int→aY→Option (aD Stmt Int))
 | 0=>(λ_ _=>none,λ_ _=>none,λ_ _=>none)
 |m+1=>(I8 m ((pc m).1) ((pc m).2.1) ((pc m).2.2),o_ m ((pc m).1) ((pc m).2.1) ((pc m).2.2),Jd m ((pc m).1) ((pc m).2.1) ((pc m).2.2))
def rl:Int→aY→Option (aD (List Stmt) Int):=(pc n).1
def wN:Int→aY→Option (aD Stmt Int):=(pc n).2.1
def zw:Int→aY→Option (aD Stmt Int):=(pc n).2.2
def zx(n:Nat)(ae:aY)(r2:Token)(dK:Int)(a1:Int):Option (aD Param Int):=some (.ret (⟨r2.Text,a1⟩:Param) dK)
def DO(ae:aY):Option (aD Param Int):=(p_ n 1 ae).bind λr1=>aD.on r1 (λr2 r3=>(kG n ([58]:atW) (⟨ae.tokens,r3⟩:aY)).bind λbZ=>aD.on bZ (λbO cS=>(kF n ([105,110,116]:atW) (⟨ae.tokens,cS⟩:aY)).bind λcP=>cond cP.1 ( zx n ae r2 cP.2 1) ( (kF n ([115,116,114]:atW) (⟨ae.tokens,cP.2⟩:aY)).bind λdg=>cond dg.1 ( zx n ae r2 dg.2 2) ( (kF n ([98,111,111,108]:atW) (⟨ae.tokens,dg.2⟩:aY)).bind λb4=>cond b4.1 ( zx n ae r2 b4.2 3) ( (sN n 5 (⟨ae.tokens,b4.2⟩:aY)).bind λeT=>aD.on eT (λdR eY=>zx n ae r2 b4.2 0) (λQJ eY=>some (.bf QJ b4.2)))))) (λjC cS=>some (.bf jC cS))) (λfp r3=>some (.bf fp r3))
def DP(ae:aY)(bO:Token)(Je:Int)(Jf:List Param):Option (aD bc Int):=(rl n 0 (⟨ae.tokens,Je⟩:aY)).bind λjo=>aD.on jo (λDc ow=>some (.ret (⟨bO.Text,Jf,Dc⟩:bc) ow)) (λQK ow=>some (.bf QK ow))
def Jg(ae:aY)(bO:Token)(v37:Int)(iE:List Param):Option (aD bc Int):=(kG n ([41]:atW) (⟨ae.tokens,v37⟩:aY)).bind λyX=>aD.on yX (λwl nz=>DP n ae bO nz iE) (λwM nz=>some (.bf wM nz))
def Jh(ae:aY)(bO:Token)(eC:Int→(List Param)→Option (aD bc Int))(nA:Int)(v28:List Param):Option (aD bc Int):=(kF n ([44]:atW) (⟨ae.tokens,nA⟩:aY)).bind λfI=>cond fI.1 ( (DO n (⟨ae.tokens,fI.2⟩:aY)).bind λim=>aD.on im (λgz mu=>ax (room (v28.length+([gz]:List Param).length) 24)<|eC mu (v28++([gz]:List Param))) (λwG mu=>some (.bf wG mu))) ( Jg n ae bO fI.2 v28)
def zy(n:Nat)(ae:aY)(bO:Token):Nat→Int→(List Param)→Option (aD bc Int)
 | 0=>λ_ _=>none
 |m+1=>Jh n ae bO (zy n ae bO m)
def DQ(ae:aY):Option (aD bc Int):=(kG n ([112,114,111,99]:atW) ae).bind λr1=>aD.on r1 (λr2 r3=>(p_ n 1 (⟨ae.tokens,r3⟩:aY)).bind λbZ=>aD.on bZ (λbO cS=>(kG n ([40]:atW) (⟨ae.tokens,cS⟩:aY)).bind λcP=>aD.on cP (λdg b4=>(kF n ([41]:atW) (⟨ae.tokens,b4⟩:aY)).bind λdR=>cond (!dR.1) ( (DO n (⟨ae.tokens,dR.2⟩:aY)).bind λeY=>aD.on eY (λdS eG=>ax (room (([]:List Param).length+([dS]:List Param).length) 24)<|zy n ae bO n eG (([]:List Param)++([dS]:List Param))) (λQL eG=>some (.bf QL eG))) ( DP n ae bO dR.2 ([]:List Param))) (λm6 b4=>some (.bf m6 b4))) (λjC cS=>some (.bf jC cS))) (λfp r3=>some (.bf fp r3))
def QM(ae:aY)(gy:bc):Option (aD Unit (Int×atW×(List Param)×(List Stmt))):=(DQ n ae).bind λr1=>aD.on r1 (λr2 r3=>some (.ret () (r3,r2.Name,r2.Params,r2.Body))) (λfp r3=>some (.bf fp (r3,gy.Name,gy.Params,gy.Body)))
def Yq(n:Nat)(ae:aY):Option (aD Unit Unit):=ax (aJ (atY (((ae.tokens.length:Nat):Int)-1)) ae.tokens.length)<|some (.bf (.iface 332 (.agg [.int .i64 ((atZ ae.tokens (atY (((ae.tokens.length:Nat):Int)-1))).lC),.int .i64 6])) ())
def Yr(ae:aY):Option (aD Unit Unit):=cond (decide (((ae.tokens.length:Nat):Int)=0)) ( some (.bf (.iface 332 (.agg [.int .i64 1,.int .i64 6])) ())) ( Yq n ae)
def Ys(code:Int)(ae:aY):Option (aD Unit Unit):=cond (decide (ae.at_<((ae.tokens.length:Nat):Int))) ( ax (aJ ae.at_ ae.tokens.length)<|some (.bf (.iface 332 (.agg [.int .i64 ((atZ ae.tokens (ae.at_)).lC),.int .i64 code])) ())) ( Yr n ae)
def Ji(src:atW)(ae:bc):Option (Int×Int×atW×(List Param)×(List Stmt)):=(wD n src).bind λr1=>cond (!decide (r1.2.2=0)) (some (r1.2.1,r1.2.2,ae.Name,ae.Params,ae.Body)) ((QM n (⟨r1.1,0⟩:aY) ae).bind λr2=>aD.on r2 (λcD nE=>cond (decide (nE.1<((r1.1.length:Nat):Int))) ((Ys n 5 (⟨r1.1,nE.1⟩:aY)).bind λr3=>aD.on r3 (λcF QN=>none) (λeU QN=>(G7 332 eU).bind λlc=>some (lc.1,lc.2,nE.2.1,nE.2.2.1,nE.2.2.2))) (some (0,0,nE.2.1,nE.2.2.1,nE.2.2.2))) (λeU nE=>(G7 332 eU).bind λlc=>some (lc.1,lc.2,nE.2.1,nE.2.2.1,nE.2.2.2)))
def Jj(n:Nat)(r1:Int×Int×atW×(List Param)×(List Stmt))(v3:Int):Option (bc×Int×Int):=cond (!decide (v3=0)) ( some ((⟨[],[],[]⟩:bc),r1.1,v3)) ( some ((⟨r1.2.2.1,r1.2.2.2.1,r1.2.2.2.2⟩:bc),0,0))
def DR(src:atW):Option (bc×Int×Int):=(Ji n src (⟨[],[],[]⟩:bc)).bind λr1=>cond (decide (r1.2.1=0)) ( (CX n (⟨r1.2.2.1,r1.2.2.2.1,r1.2.2.2.2⟩:bc)).bind λr2=>Jj n r1 r2) ( Jj n r1 r1.2.1)
def QO(n:Nat)(bB:List bc):Option ((List bc)×Bool):=some (bB,true)
def Jk(l:List atW)(ak:Int→(List bc)→Option ((List bc)×Bool))(bz:Int)(bq:List bc):Option ((List bc)×Bool):=cond (decide (bz<((l.length:Nat):Int))) ( ax (aJ bz l.length)<|(DR n (atZ l bz)).bind λdg=>Option.bind (cond (!(!decide (dg.2.2=0))) (t8 n dg.1) (some default)) λb4=>cond (cond (!decide (dg.2.2=0)) true (!(decide (b4=(atZ l bz))))) ( some (([]:List bc),false)) ( ax (room (bq.length+([dg.1]:List bc).length) 64)<|ak (atY (bz+1)) (bq++([dg.1]:List bc)))) ( QO n bq)
def zz(n:Nat)(l:List atW):Nat→Int→(List bc)→Option ((List bc)×Bool)
 | 0=>λ_ _=>none
 |m+1=>Jk n l (zz n l m)
def zA(l:List atW):Option ((List bc)×Bool):=zz n l n 0 ([]:List bc)
def QP(n:Nat)(at_:Int)(cv:List Row):Option (aB×Int):=some ((⟨at_,at_,cv⟩:aB),0)
def Jl(at_:Int)(l:List bn)(ak:(List Row)→Int→Option (aB×Int))(bz:List Row)(bq:Int):Option (aB×Int):=cond (decide (bq<((l.length:Nat):Int))) ( ax (aJ bq l.length)<|ax (room (bz.length+([(⟨(atZ l bq).Key,[⟨at_,⟨((atZ l bq).bA).Kind,((atZ l bq).bA).N,((atZ l bq).bA).S⟩⟩]⟩:Row)]:List Row).length) 40)<|ak (bz++([(⟨(atZ l bq).Key,[⟨at_,⟨((atZ l bq).bA).Kind,((atZ l bq).bA).N,((atZ l bq).bA).S⟩⟩]⟩:Row)]:List Row)) (atY (bq+1))) ( QP n at_ bz)
def zB(n:Nat)(at_:Int)(l:List bn):Nat→(List Row)→Int→Option (aB×Int)
 | 0=>λ_ _=>none
 |m+1=>Jl n at_ l (zB n at_ l m)
def zC(l:List bn)(at_:Int):Option (aB×Int):=(Di n l).bind λr1=>cond (cond (cond (!r1) true (decide (at_<0))) true (decide (1099511627776<at_))) ( some ((⟨0,0,[]⟩:aB),1)) ( zB n at_ l n ([]:List Row) 0)
def DS(s:atW):Option (b7×Int):=(Dx n (⟨s,0,0⟩:fm)).bind λr1=>cond (!decide (r1.2.2=0)) ( some ((⟨0,⟨0,0,[]⟩,[],[],⟨0,[]⟩,[],[],0⟩:b7),r1.2.2)) ( cond (cond (cond (!decide (r1.2.1=((s.length:Nat):Int))) true (decide (r1.1.gh.Pos<0))) true (decide (1099511627776<r1.1.gh.Pos))) ( some ((⟨0,⟨0,0,[]⟩,[],[],⟨0,[]⟩,[],[],0⟩:b7),5)) ( (zA n r1.1.sources).bind λbj=>cond (!bj.2) ( some ((⟨0,⟨0,0,[]⟩,[],[],⟨0,[]⟩,[],[],0⟩:b7),5)) ( (zC n r1.1.OM r1.1.gh.Pos).bind λbO=>cond (!decide (bO.2=0)) ( some ((⟨0,⟨0,0,[]⟩,[],[],⟨0,[]⟩,[],[],0⟩:b7),5)) ( (rh n (⟨r1.1.gh.Pos,bO.1,bj.1,r1.1.gh.c6,r1.1.gh.Place,r1.1.gh.bi,r1.1.gh.Queue,r1.1.gh.dA⟩:b7)).bind λcU=>cond (!cU) ( some ((⟨0,⟨0,0,[]⟩,[],[],⟨0,[]⟩,[],[],0⟩:b7),5)) ( some ((⟨r1.1.gh.Pos,bO.1,bj.1,r1.1.gh.c6,r1.1.gh.Place,r1.1.gh.bi,r1.1.gh.Queue,r1.1.gh.dA⟩:b7),0))))))
def Yt(s:atW):Option (b7×Int):=cond (decide (16384<((s.length:Nat):Int))) ( some ((⟨0,⟨0,0,[]⟩,[],[],⟨0,[]⟩,[],[],0⟩:b7),2)) ( (DS n s).bind λr2=>some (r2.1,r2.2))
def QQ(a:b7)(b:b7):at0:=(rh n a).bind λr1=>Option.bind (cond r1 (rh n b) (some default)) λr2=>Option.bind (cond (cond r1 r2 false) (sE n a) (some default)) λr3=>Option.bind (cond (cond r1 r2 false) (sE n b) (some default)) λbj=>some (cond (cond r1 r2 false) (decide (r3=bj)) false)
def QR(n:Nat)(nF:Expr→Expr→at0):at0:=some true
def QS(nF:Expr→Expr→at0)(a:Expr)(b:Expr)(ak:Int→at0)(v6:Int):at0:=cond (decide (v6<((a.ar.length:Nat):Int))) ( ax (aJ v6 a.ar.length)<|ax (aJ v6 b.ar.length)<|(nF (atZ a.ar v6) (atZ b.ar v6)).bind λcP=>cond (!cP) ( some false) ( ak (atY (v6+1)))) ( QR n nF)
def DT(n:Nat)(nF:Expr→Expr→at0)(a:Expr)(b:Expr):Nat→Int→at0
 | 0=>λ_=>none
 |m+1=>QS n nF a b (DT n nF a b m)
def QT(nF:Expr→Expr→at0)(a:Expr)(b:Expr):at0:=cond (cond (cond (cond (!decide (a.Op=b.Op)) true (!decide (a.N=b.N))) true (!(decide (a.S=b.S)))) true (!decide (((a.ar.length:Nat):Int)=((b.ar.length:Nat):Int)))) ( some false) ( DT n nF a b n 0)
def wO:Nat→Expr→Expr→at0
 | 0=>λ_ _=>none
 |m+1=>QT m (wO m)
def QU(n:Nat)(m8:(List Stmt)→(List Stmt)→at0):at0:=some true
def QV(m8:(List Stmt)→(List Stmt)→at0)(a:List Stmt)(b:List Stmt)(ak:Int→at0)(v9:Int):at0:=cond (decide (v9<((a.length:Nat):Int))) ( ax (aJ v9 a.length)<|ax (aJ v9 b.length)<|Option.bind (cond (!(cond (cond (!decide ((atZ a v9).Op=(atZ b v9).Op)) true (!(decide (((atZ a v9).Name)=((atZ b v9).Name))))) true (!decide ((atZ a v9).Max=(atZ b v9).Max)))) (wO n (⟨((atZ a v9).A).Op,((atZ a v9).A).N,((atZ a v9).A).S,((atZ a v9).A).ar⟩:Expr) (⟨((atZ b v9).A).Op,((atZ b v9).A).N,((atZ b v9).A).S,((atZ b v9).A).ar⟩:Expr)) (some default)) λeT=>Option.bind (cond (!(cond (cond (cond (!decide ((atZ a v9).Op=(atZ b v9).Op)) true (!(decide (((atZ a v9).Name)=((atZ b v9).Name))))) true (!decide ((atZ a v9).Max=(atZ b v9).Max))) true (!eT))) (wO n (⟨((atZ a v9).B).Op,((atZ a v9).B).N,((atZ a v9).B).S,((atZ a v9).B).ar⟩:Expr) (⟨((atZ b v9).B).Op,((atZ b v9).B).N,((atZ b v9).B).S,((atZ b v9).B).ar⟩:Expr)) (some default)) λdR=>Option.bind (cond (!(cond (cond (cond (cond (!decide ((atZ a v9).Op=(atZ b v9).Op)) true (!(decide (((atZ a v9).Name)=((atZ b v9).Name))))) true (!decide ((atZ a v9).Max=(atZ b v9).Max))) true (!eT)) true (!dR))) (m8 ((atZ a v9).Body) ((atZ b v9).Body)) (some default)) λeY=>Option.bind (cond (!(cond (cond (cond (cond (cond (!decide ((atZ a v9).Op=(atZ b v9).Op)) true (!(decide (((atZ a v9).Name)=((atZ b v9).Name))))) true (!decide ((atZ a v9).Max=(atZ b v9).Max))) true (!eT)) true (!dR)) true (!eY))) (m8 ((atZ a v9).bx) ((atZ b v9).bx)) (some default)) λdS=>cond (cond (cond (cond (cond (cond (cond (!decide ((atZ a v9).Op=(atZ b v9).Op)) true (!(decide (((atZ a v9).Name)=((atZ b v9).Name))))) true (!decide ((atZ a v9).Max=(atZ b v9).Max))) true (!eT)) true (!dR)) true (!eY)) true (!dS)) ( some false) ( ak (atY (v9+1)))) ( QU n m8)
def DU(n:Nat)(m8:(List Stmt)→(List Stmt)→at0)(a:List Stmt)(b:List Stmt):Nat→Int→at0
 | 0=>λ_=>none
 |m+1=>QV n m8 a b (DU n m8 a b m)
def QW(m8:(List Stmt)→(List Stmt)→at0)(a:List Stmt)(b:List Stmt):at0:=cond (!decide (((a.length:Nat):Int)=((b.length:Nat):Int))) ( some false) ( DU n m8 a b n 0)
def zD:Nat→(List Stmt)→(List Stmt)→at0
 | 0=>λ_ _=>none
 |m+1=>QW m (zD m)
def QX(a:bc)(b:bc):at0:=(zD n a.Body b.Body).bind λcP=>some cP
def QY(a:bc)(b:bc)(ak:Int→at0)(v5:Int):at0:=cond (decide (v5<((a.Params.length:Nat):Int))) ( ax (aJ v5 a.Params.length)<|ax (aJ v5 b.Params.length)<|cond (!((decide ((atZ a.Params v5).Name=(atZ b.Params v5).Name))&&((decide ((atZ a.Params v5).fs=(atZ b.Params v5).fs))&&true))) ( some false) ( ak (atY (v5+1)))) ( QX n a b)
def DV(n:Nat)(a:bc)(b:bc):Nat→Int→at0
 | 0=>λ_=>none
 |m+1=>QY n a b (DV n a b m)
def Jm(a:bc)(b:bc):at0:=cond (cond (!(decide (a.Name=b.Name))) true (!decide (((a.Params.length:Nat):Int)=((b.Params.length:Nat):Int)))) ( some false) ( DV n a b n 0)
def QZ(n:Nat):at0:=some true
def Jn(a:List bc)(b:List bc)(ak:Int→at0)(v6:Int):at0:=cond (decide (v6<((a.length:Nat):Int))) ( ax (aJ v6 a.length)<|ax (aJ v6 b.length)<|(Jm n (atZ a v6) (atZ b v6)).bind λcP=>cond (!cP) ( some false) ( ak (atY (v6+1)))) ( QZ n)
def zE(n:Nat)(a:List bc)(b:List bc):Nat→Int→at0
 | 0=>λ_=>none
 |m+1=>Jn n a b (zE n a b m)
def Jo(a:List bc)(b:List bc):at0:=cond (!decide (((a.length:Nat):Int)=((b.length:Nat):Int))) ( some false) ( zE n a b n 0)
def Q0(n:Nat):at0:=some true
def Q1(n:Nat)(ak:Int→at0)(v12:Int)(a:aB)(b:aB):at0:=ak (atY (v12+1))
def Jp(ak:Int→at0)(v12:Int)(a:aB)(b:aB)(d_:Int→at0)(cm:Int):at0:=cond (decide (cm<((((atZ a.Rows v12).bl).length:Nat):Int))) ( ax (aJ cm ((atZ a.Rows v12).bl).length)<|ax (aJ cm ((atZ b.Rows v12).bl).length)<|cond (!((decide ((((atZ a.Rows v12).bl).getD (cm).toNat default).ck=(((atZ b.Rows v12).bl).getD (cm).toNat default).ck))&&((decide (((((atZ a.Rows v12).bl).getD (cm).toNat default).bA).Kind=((((atZ b.Rows v12).bl).getD (cm).toNat default).bA).Kind))&&((decide (((((atZ a.Rows v12).bl).getD (cm).toNat default).bA).N=((((atZ b.Rows v12).bl).getD (cm).toNat default).bA).N))&&((decide (((((atZ a.Rows v12).bl).getD (cm).toNat default).bA).S=((((atZ b.Rows v12).bl).getD (cm).toNat default).bA).S))&&true))))) ( some false) ( d_ (atY (cm+1)))) ( Q1 n ak v12 a b)
def zF(n:Nat)(ak:Int→at0)(v12:Int)(a:aB)(b:aB):Nat→Int→at0
 | 0=>λ_=>none
 |m+1=>Jp n ak v12 a b (zF n ak v12 a b m)
def Jq(a:aB)(b:aB)(ak:Int→at0)(v12:Int):at0:=cond (decide (v12<((a.Rows.length:Nat):Int))) ( ax (aJ v12 a.Rows.length)<|ax (aJ v12 b.Rows.length)<|cond (cond (!(decide (((atZ a.Rows v12).Key)=((atZ b.Rows v12).Key)))) true (!decide (((((atZ a.Rows v12).bl).length:Nat):Int)=((((atZ b.Rows v12).bl).length:Nat):Int)))) ( some false) ( zF n ak v12 a b n 0)) ( Q0 n)
def ui(n:Nat)(a:aB)(b:aB):Nat→Int→at0
 | 0=>λ_=>none
 |m+1=>Jq n a b (ui n a b m)
def Jr(a:aB)(b:aB):at0:=cond (cond (cond (!decide (a.cl=b.cl)) true (!decide (a.b9=b.b9))) true (!decide (((a.Rows.length:Nat):Int)=((b.Rows.length:Nat):Int)))) ( some false) ( ui n a b n 0)
def Q2(n:Nat):at0:=some true
def Js(a:cb)(b:cb)(ak:Int→at0)(v5:Int):at0:=cond (decide (v5<((a.aE.length:Nat):Int))) ( ax (aJ v5 a.aE.length)<|ax (aJ v5 b.aE.length)<|cond (!((decide ((atZ a.aE v5).Id=(atZ b.aE v5).Id))&&((decide ((atZ a.aE v5).ec=(atZ b.aE v5).ec))&&((decide ((atZ a.aE v5).Node=(atZ b.aE v5).Node))&&((decide ((atZ a.aE v5).fC=(atZ b.aE v5).fC))&&((decide ((atZ a.aE v5).gQ=(atZ b.aE v5).gQ))&&true)))))) ( some false) ( ak (atY (v5+1)))) ( Q2 n)
def zG(n:Nat)(a:cb)(b:cb):Nat→Int→at0
 | 0=>λ_=>none
 |m+1=>Js n a b (zG n a b m)
def Jt(a:cb)(b:cb):at0:=cond (cond (!decide (a.Version=b.Version)) true (!decide (((a.aE.length:Nat):Int)=((b.aE.length:Nat):Int)))) ( some false) ( zG n a b n 0)
def Q3(n:Nat):at0:=some true
def Ju(a:List bi)(b:List bi)(ak:Int→at0)(v5:Int):at0:=cond (decide (v5<((a.length:Nat):Int))) ( ax (aJ v5 a.length)<|ax (aJ v5 b.length)<|cond (!((decide ((atZ a v5).Key=(atZ b v5).Key))&&((decide ((atZ a v5).Count=(atZ b v5).Count))&&true))) ( some false) ( ak (atY (v5+1)))) ( Q3 n)
def zH(n:Nat)(a:List bi)(b:List bi):Nat→Int→at0
 | 0=>λ_=>none
 |m+1=>Ju n a b (zH n a b m)
def Jv(a:List bi)(b:List bi):at0:=cond (!decide (((a.length:Nat):Int)=((b.length:Nat):Int))) ( some false) ( zH n a b n 0)
def Q4(n:Nat):at0:=some true
def Jw(a:List atW)(b:List atW)(ak:Int→at0)(v5:Int):at0:=cond (decide (v5<((a.length:Nat):Int))) ( ax (aJ v5 a.length)<|ax (aJ v5 b.length)<|cond (!(decide ((atZ a v5)=(atZ b v5)))) ( some false) ( ak (atY (v5+1)))) ( Q4 n)
def zI(n:Nat)(a:List atW)(b:List atW):Nat→Int→at0
 | 0=>λ_=>none
 |m+1=>Jw n a b (zI n a b m)
def DW(a:List atW)(b:List atW):at0:=cond (!decide (((a.length:Nat):Int)=((b.length:Nat):Int))) ( some false) ( zI n a b n 0)
def Q5(a:fg)(b:fg):at0:=Option.bind (cond (a.ee == b.ee) (DW n a.Reads b.Reads) (some default)) λr1=>Option.bind (cond (cond (a.ee == b.ee) r1 false) (DW n a.cA b.cA) (some default)) λr2=>some (cond (cond (a.ee == b.ee) r1 false) r2 false)
def Q6(n:Nat):at0:=some true
def Jx(a:Request)(b:Request)(ak:Int→at0)(v6:Int):at0:=cond (decide (v6<((a.ar.length:Nat):Int))) ( ax (aJ v6 a.ar.length)<|ax (aJ v6 b.ar.length)<|cond (!((decide ((atZ a.ar v6).Kind=(atZ b.ar v6).Kind))&&((decide ((atZ a.ar v6).N=(atZ b.ar v6).N))&&((decide ((atZ a.ar v6).S=(atZ b.ar v6).S))&&true)))) ( some false) ( ak (atY (v6+1)))) ( Q6 n)
def zJ(n:Nat)(a:Request)(b:Request):Nat→Int→at0
 | 0=>λ_=>none
 |m+1=>Jx n a b (zJ n a b m)
def Jy(a:Request)(b:Request):at0:=Option.bind (cond (!(cond (cond (cond (cond (!decide (a.Client=b.Client)) true (!decide (a.Seq=b.Seq))) true (!(decide (a.bc=b.bc)))) true (!(a.eN == b.eN))) true (!decide (((a.ar.length:Nat):Int)=((b.ar.length:Nat):Int))))) (Q5 n a.br b.br) (some default)) λr1=>cond (cond (cond (cond (cond (cond (!decide (a.Client=b.Client)) true (!decide (a.Seq=b.Seq))) true (!(decide (a.bc=b.bc)))) true (!(a.eN == b.eN))) true (!decide (((a.ar.length:Nat):Int)=((b.ar.length:Nat):Int)))) true (!r1)) ( some false) ( zJ n a b n 0)
def Q7(n:Nat):at0:=some true
def Jz(a:Outcome)(b:Outcome)(ak:Int→at0)(v5:Int):at0:=cond (decide (v5<((a.Out.length:Nat):Int))) ( ax (aJ v5 a.Out.length)<|ax (aJ v5 b.Out.length)<|cond (!((decide ((atZ a.Out v5).Kind=(atZ b.Out v5).Kind))&&((decide ((atZ a.Out v5).N=(atZ b.Out v5).N))&&((decide ((atZ a.Out v5).S=(atZ b.Out v5).S))&&true)))) ( some false) ( ak (atY (v5+1)))) ( Q7 n)
def zK(n:Nat)(a:Outcome)(b:Outcome):Nat→Int→at0
 | 0=>λ_=>none
 |m+1=>Jz n a b (zK n a b m)
def DX(a:Outcome)(b:Outcome):at0:=cond (cond (cond (!decide (a.Status=b.Status)) true (!decide (a.Code=b.Code))) true (!decide (((a.Out.length:Nat):Int)=((b.Out.length:Nat):Int)))) ( some false) ( zK n a b n 0)
def Q8(a:eS)(b:eS):at0:=Option.bind (cond (cond (decide (a.Client=b.Client)) (decide (a.Seq=b.Seq)) false) (DX n a.Outcome b.Outcome) (some default)) λr1=>some (cond (cond (decide (a.Client=b.Client)) (decide (a.Seq=b.Seq)) false) r1 false)
def Q9(n:Nat):at0:=some true
def JA(a:List eS)(b:List eS)(ak:Int→at0)(v6:Int):at0:=cond (decide (v6<((a.length:Nat):Int))) ( ax (aJ v6 a.length)<|ax (aJ v6 b.length)<|(Q8 n (atZ a v6) (atZ b v6)).bind λcP=>cond (!cP) ( some false) ( ak (atY (v6+1)))) ( Q9 n)
def zL(n:Nat)(a:List eS)(b:List eS):Nat→Int→at0
 | 0=>λ_=>none
 |m+1=>JA n a b (zL n a b m)
def JB(a:List eS)(b:List eS):at0:=cond (!decide (((a.length:Nat):Int)=((b.length:Nat):Int))) ( some false) ( zL n a b n 0)
def Q'(n:Nat):at0:=some true
def JC(a:List bM)(b:List bM)(ak:Int→at0)(v10:Int):at0:=cond (decide (v10<((a.length:Nat):Int))) ( ax (aJ v10 a.length)<|ax (aJ v10 b.length)<|ax ((!decide ((atZ a v10).Client=(atZ b v10).Client))||aJ v10 a.length)<|ax ((!decide ((atZ a v10).Client=(atZ b v10).Client))||aJ v10 b.length)<|ax ((cond (!decide ((atZ a v10).Client=(atZ b v10).Client)) true (!decide ((atZ a v10).Next=(atZ b v10).Next)))||aJ v10 a.length)<|ax ((cond (!decide ((atZ a v10).Client=(atZ b v10).Client)) true (!decide ((atZ a v10).Next=(atZ b v10).Next)))||aJ v10 b.length)<|Option.bind (cond (!(cond (!decide ((atZ a v10).Client=(atZ b v10).Client)) true (!decide ((atZ a v10).Next=(atZ b v10).Next)))) (JB n ((atZ a v10).bK) ((atZ b v10).bK)) (some default)) λeZ=>cond (cond (cond (!decide ((atZ a v10).Client=(atZ b v10).Client)) true (!decide ((atZ a v10).Next=(atZ b v10).Next))) true (!eZ)) ( some false) ( ak (atY (v10+1)))) ( Q' n)
def zM(n:Nat)(a:List bM)(b:List bM):Nat→Int→at0
 | 0=>λ_=>none
 |m+1=>JC n a b (zM n a b m)
def JD(a:List bM)(b:List bM):at0:=cond (!decide (((a.length:Nat):Int)=((b.length:Nat):Int))) ( some false) ( zM n a b n 0)
def Q_(n:Nat):at0:=some true
def JE(a:b7)(b:b7)(ak:Int→at0)(v11:Int):at0:=cond (decide (v11<((a.Queue.length:Nat):Int))) ( ax (aJ v11 a.Queue.length)<|ax (aJ v11 b.Queue.length)<|(Jy n (atZ a.Queue v11) (atZ b.Queue v11)).bind λeY=>cond (!eY) ( some false) ( ak (atY (v11+1)))) ( Q_ n)
def zN(n:Nat)(a:b7)(b:b7):Nat→Int→at0
 | 0=>λ_=>none
 |m+1=>JE n a b (zN n a b m)
def DY(a:b7)(b:b7):at0:=Option.bind (cond (!(cond (!decide (a.Pos=b.Pos)) true (!decide (a.dA=b.dA)))) (Jr n a.aB b.aB) (some default)) λr1=>Option.bind (cond (!(cond (cond (!decide (a.Pos=b.Pos)) true (!decide (a.dA=b.dA))) true (!r1))) (Jo n a.cq b.cq) (some default)) λr2=>Option.bind (cond (!(cond (cond (cond (!decide (a.Pos=b.Pos)) true (!decide (a.dA=b.dA))) true (!r1)) true (!r2))) (JD n a.c6 b.c6) (some default)) λr3=>Option.bind (cond (!(cond (cond (cond (cond (!decide (a.Pos=b.Pos)) true (!decide (a.dA=b.dA))) true (!r1)) true (!r2)) true (!r3))) (Jt n a.Place b.Place) (some default)) λbj=>Option.bind (cond (!(cond (cond (cond (cond (cond (!decide (a.Pos=b.Pos)) true (!decide (a.dA=b.dA))) true (!r1)) true (!r2)) true (!r3)) true (!bj))) (Jv n a.bi b.bi) (some default)) λbZ=>cond (cond (cond (cond (cond (cond (cond (cond (!decide (a.Pos=b.Pos)) true (!decide (a.dA=b.dA))) true (!r1)) true (!r2)) true (!r3)) true (!bj)) true (!bZ)) true (!decide (((a.Queue.length:Nat):Int)=((b.Queue.length:Nat):Int)))) ( some false) ( zN n a b n 0)
def JF:at0:=(Yj n (⟨0,⟨0,0,[]⟩,[],[],⟨0,[⟨1,[],1,0,[]⟩]⟩,[],[],0⟩:b7)).bind λr1=>(Yt n r1.1).bind λr2=>Option.bind (cond (cond (decide (r1.1=([0,0,0,0,0,1,2,0,2,0,0,0,0,0]:atW))) (decide (r1.2=0)) false) (DY n r2.1 (⟨0,⟨0,0,[]⟩,[],[],⟨0,[⟨1,[],1,0,[]⟩]⟩,[],[],0⟩:b7)) (some default)) λr3=>Option.bind (cond (cond (cond (cond (decide (r1.1=([0,0,0,0,0,1,2,0,2,0,0,0,0,0]:atW))) (decide (r1.2=0)) false) r3 false) (decide (r2.2=0)) false) (QQ n (⟨2,⟨2,2,[⟨[120],[⟨2,⟨1,1,[]⟩⟩]⟩]⟩,[],[],⟨0,[⟨1,[],1,0,[]⟩]⟩,[],[],0⟩:b7) (⟨2,⟨1,2,[⟨[119],[⟨1,⟨1,1,[]⟩⟩,⟨2,⟨0,0,[]⟩⟩]⟩,⟨[120],[⟨1,⟨1,1,[]⟩⟩]⟩]⟩,[],[],⟨0,[⟨1,[],1,0,[]⟩]⟩,[],[],0⟩:b7)) (some default)) λbj=>Option.bind (cond (cond (cond (cond (cond (decide (r1.1=([0,0,0,0,0,1,2,0,2,0,0,0,0,0]:atW))) (decide (r1.2=0)) false) r3 false) (decide (r2.2=0)) false) bj false) (QQ n (⟨2,⟨2,2,[⟨[120],[⟨2,⟨1,1,[]⟩⟩]⟩]⟩,[],[],⟨0,[⟨1,[],1,0,[]⟩]⟩,[],[],0⟩:b7) (⟨0,⟨0,0,[]⟩,[],[],⟨0,[⟨1,[],1,0,[]⟩]⟩,[],[],0⟩:b7)) (some default)) λbZ=>some (cond (cond (cond (cond (cond (decide (r1.1=([0,0,0,0,0,1,2,0,2,0,0,0,0,0]:atW))) (decide (r1.2=0)) false) r3 false) (decide (r2.2=0)) false) bj false) (!bZ) false)
def Ra(n:Nat)(k:atW):at0:=some (cond (decide (1≤((k.length:Nat):Int))) (decide (((k.length:Nat):Int)≤24)) false)
def JG(k:atW)(ak:Int→at0)(v3:Int):at0:=cond (decide (v3<((k.length:Nat):Int))) ( ax (aJ v3 k.length)<|cond (cond (cond (cond (cond (cond (cond (decide ((((k.getD (v3).toNat 0).toNat:Nat):Int)<97)) true (decide (122<(((k.getD (v3).toNat 0).toNat:Nat):Int)))) (cond (decide ((((k.getD (v3).toNat 0).toNat:Nat):Int)<48)) true (decide (57<(((k.getD (v3).toNat 0).toNat:Nat):Int)))) false) (!decide ((((k.getD (v3).toNat 0).toNat:Nat):Int)=47)) false) (!decide ((((k.getD (v3).toNat 0).toNat:Nat):Int)=46)) false) (!decide ((((k.getD (v3).toNat 0).toNat:Nat):Int)=95)) false) (!decide ((((k.getD (v3).toNat 0).toNat:Nat):Int)=45)) false) ( some false) ( ak (atY (v3+1)))) ( Ra n k)
def zO(n:Nat)(k:atW):Nat→Int→at0
 | 0=>λ_=>none
 |m+1=>JG n k (zO n k m)
def wP(k:atW):at0:=zO n k n 0
def Yu(n:Nat):at0:=some true
def Rb(s:atW)(ak:Int→at0)(v5:Int):at0:=cond (decide (v5<((s.length:Nat):Int))) ( ax (aJ v5 s.length)<|ax ((decide ((((s.getD (v5).toNat 0).toNat:Nat):Int)<32))||aJ v5 s.length)<|cond (cond (decide ((((s.getD (v5).toNat 0).toNat:Nat):Int)<32)) true (decide (126<(((s.getD (v5).toNat 0).toNat:Nat):Int)))) ( some false) ( ak (atY (v5+1)))) ( Yu n)
def DZ(n:Nat)(s:atW):Nat→Int→at0
 | 0=>λ_=>none
 |m+1=>Rb n s (DZ n s m)
def JH(s:atW):at0:=cond (decide (64<((s.length:Nat):Int))) ( some false) ( DZ n s n 0)
def uj(v:bp):at0:=cond (decide (v.Kind=0)) ( some (cond (decide (v.N=0)) (decide (v.S=([]:atW))) false)) ( cond (decide (v.Kind=1)) ( some (decide (v.S=([]:atW)))) ( Option.bind (cond (cond (decide (v.Kind=2)) (decide (v.N=0)) false) (JH n v.S) (some default)) λr3=>some (cond (cond (decide (v.Kind=2)) (decide (v.N=0)) false) r3 false)))
def Rc(v:bp):at0:=(uj n v).bind λr1=>some r1
def Rd(n:Nat):at0:=some true
def JI(floor:Int)(last:Int)(ag:Row)(ak:Int→at0)(v9:Int):at0:=cond (decide (v9<((ag.bl.length:Nat):Int))) ( ax (aJ v9 ag.bl.length)<|(Rc n (⟨((atZ ag.bl v9).bA).Kind,((atZ ag.bl v9).bA).N,((atZ ag.bl v9).bA).S⟩:bp)).bind λb4=>cond (cond (cond (!b4) true (decide ((atZ ag.bl v9).ck<floor))) true (decide (last<(atZ ag.bl v9).ck))) ( some false) ( ax (!(decide (0<v9))||aJ (atY (v9-1)) ag.bl.length)<|ax (!(decide (0<v9))||((decide ((atZ ag.bl v9).ck≤(atZ ag.bl (atY (v9-1))).ck))||aJ (atY (v9-1)) ag.bl.length))<|cond (cond (decide (0<v9)) (cond (decide ((atZ ag.bl v9).ck≤(atZ ag.bl (atY (v9-1))).ck)) true ((decide (((atZ ag.bl v9).bA).Kind=((atZ ag.bl (atY (v9-1))).bA).Kind))&&((decide (((atZ ag.bl v9).bA).N=((atZ ag.bl (atY (v9-1))).bA).N))&&((decide (((atZ ag.bl v9).bA).S=((atZ ag.bl (atY (v9-1))).bA).S))&&true)))) false) ( some false) ( ak (atY (v9+1))))) ( Rd n)
def zP(n:Nat)(floor:Int)(last:Int)(ag:Row):Nat→Int→at0
 | 0=>λ_=>none
 |m+1=>JI n floor last ag (zP n floor last ag m)
def JJ(ag:Row)(floor:Int)(last:Int):at0:=(wP n ag.Key).bind λr1=>ax ((cond (!r1) true (decide (((ag.bl.length:Nat):Int)=0)))||aJ 0 ag.bl.length)<|cond (cond (cond (!r1) true (decide (((ag.bl.length:Nat):Int)=0))) true (decide (((ag.bl.getD 0 default).bA).Kind=0))) ( some false) ( zP n floor last ag n 0)
def Re(n:Nat):at0:=some true
def JK(s:aB)(ak:Int→at0)(bz:Int):at0:=cond (decide (bz<((s.Rows.length:Nat):Int))) ( ax (aJ bz s.Rows.length)<|(JJ n (atZ s.Rows bz) s.cl s.b9).bind λcP=>ax ((!cP)||(!(decide (0<bz))||aJ (atY (bz-1)) s.Rows.length))<|ax ((!cP)||(!(decide (0<bz))||aJ bz s.Rows.length))<|cond (cond (!cP) true (cond (decide (0<bz)) (!(Op.bytesLess ((atZ s.Rows (atY (bz-1))).Key) ((atZ s.Rows bz).Key))) false)) ( some false) ( ak (atY (bz+1)))) ( Re n)
def zQ(n:Nat)(s:aB):Nat→Int→at0
 | 0=>λ_=>none
 |m+1=>JK n s (zQ n s m)
def zR(s:aB):at0:=cond (cond (cond (decide (s.cl<0)) true (decide (s.b9<s.cl))) true (decide (1099511627776<s.b9))) ( some false) ( zQ n s n 0)
def Rf(n:Nat):at0:=some true
def JL(s:atW)(ak:Int→at0)(v5:Int):at0:=cond (decide (v5<((s.length:Nat):Int))) ( ax (aJ v5 s.length)<|ax ((decide ((((s.getD (v5).toNat 0).toNat:Nat):Int)<33))||aJ v5 s.length)<|cond (cond (decide ((((s.getD (v5).toNat 0).toNat:Nat):Int)<33)) true (decide (126<(((s.getD (v5).toNat 0).toNat:Nat):Int)))) ( some false) ( ak (atY (v5+1)))) ( Rf n)
def zS(n:Nat)(s:atW):Nat→Int→at0
 | 0=>λ_=>none
 |m+1=>JL n s (zS n s m)
def D0(s:atW):at0:=cond (decide (24<((s.length:Nat):Int))) ( some false) ( zS n s n 0)
def JM(x:Part)(next:atW)(last:Bool):at0:=cond (decide (x.fC=0)) ( some (decide (x.gQ=([]:atW)))) ( Option.bind (cond (cond (cond (decide (1≤x.fC)) (decide (x.fC≤16)) false) (!decide (x.fC=x.Node)) false) (D0 n x.gQ) (some default)) λr2=>some (cond (cond (cond (cond (cond (decide (1≤x.fC)) (decide (x.fC≤16)) false) (!decide (x.fC=x.Node)) false) r2 false) (!(Op.bytesLess x.gQ x.ec)) false) (cond last true (Op.bytesLess x.gQ next)) false))
def Rg(n:Nat):at0:=some true
def Rh(n:Nat)(ak:Int→at0)(p:cb)(bB:Int):at0:=ak (atY (bB+1))
def JN(ak:Int→at0)(p:cb)(bB:Int)(zT:Int→at0)(v24:Int):at0:=cond (decide (v24<bB)) ( ax (aJ v24 p.aE.length)<|cond (decide ((atZ p.aE v24).Id=(atZ p.aE bB).Id)) ( some false) ( zT (atY (v24+1)))) ( Rh n ak p bB)
def wQ(n:Nat)(ak:Int→at0)(p:cb)(bB:Int):Nat→Int→at0
 | 0=>λ_=>none
 |m+1=>JN n ak p bB (wQ n ak p bB m)
def D1(ak:Int→at0)(p:cb)(bB:Int)(cm:atW):at0:=(D0 n ((atZ p.aE bB).ec)).bind λfo=>ax ((!fo)||(!(decide (0<bB))||aJ (atY (bB-1)) p.aE.length))<|Option.bind (cond (!(cond (cond (cond (cond (cond (!fo) true (cond (decide (0<bB)) ((Op.bytesLess ((atZ p.aE bB).ec) ((atZ p.aE (atY (bB-1))).ec))||(decide (((atZ p.aE bB).ec)=((atZ p.aE (atY (bB-1))).ec)))) false)) true (decide ((atZ p.aE bB).Id<1))) true (decide (1099511627776<(atZ p.aE bB).Id))) true (decide ((atZ p.aE bB).Node<1))) true (decide (16<(atZ p.aE bB).Node)))) (JM n (atZ p.aE bB) cm (decide ((atY (bB+1))=((p.aE.length:Nat):Int)))) (some default)) λfD=>cond (cond (cond (cond (cond (cond (cond (!fo) true (cond (decide (0<bB)) ((Op.bytesLess ((atZ p.aE bB).ec) ((atZ p.aE (atY (bB-1))).ec))||(decide (((atZ p.aE bB).ec)=((atZ p.aE (atY (bB-1))).ec)))) false)) true (decide ((atZ p.aE bB).Id<1))) true (decide (1099511627776<(atZ p.aE bB).Id))) true (decide ((atZ p.aE bB).Node<1))) true (decide (16<(atZ p.aE bB).Node))) true (!fD)) ( some false) ( wQ n ak p bB n 0)
def JO(p:cb)(ak:Int→at0)(bB:Int):at0:=cond (decide (bB<((p.aE.length:Nat):Int))) ( ax (aJ bB p.aE.length)<|cond (decide ((atY (bB+1))<((p.aE.length:Nat):Int))) ( ax (aJ (atY (bB+1)) p.aE.length)<|D1 n ak p bB ((atZ p.aE (atY (bB+1))).ec)) ( D1 n ak p bB ([]:atW))) ( Rg n)
def zU(n:Nat)(p:cb):Nat→Int→at0
 | 0=>λ_=>none
 |m+1=>JO n p (zU n p m)
def JP(p:cb):at0:=ax ((cond (cond (cond (decide (p.Version<0)) true (decide (1099511627776<p.Version))) true (decide (((p.aE.length:Nat):Int)<1))) true (decide (16<((p.aE.length:Nat):Int))))||aJ 0 p.aE.length)<|cond (cond (cond (cond (cond (decide (p.Version<0)) true (decide (1099511627776<p.Version))) true (decide (((p.aE.length:Nat):Int)<1))) true (decide (16<((p.aE.length:Nat):Int)))) true (!(decide (((p.aE.getD 0 default).ec)=([]:atW))))) ( some false) ( zU n p n 0)
def Ri(n:Nat)(l:List bi):at0:=some (decide (((l.length:Nat):Int)≤32))
def JQ(l:List bi)(ak:Int→at0)(bq:Int):at0:=cond (decide (bq<((l.length:Nat):Int))) ( ax (aJ bq l.length)<|(wP n ((atZ l bq).Key)).bind λdg=>ax ((!dg)||aJ bq l.length)<|ax ((cond (!dg) true (decide ((atZ l bq).Count<1)))||aJ bq l.length)<|ax ((cond (cond (!dg) true (decide ((atZ l bq).Count<1))) true (decide (1099511627776<(atZ l bq).Count)))||(!(decide (0<bq))||aJ bq l.length))<|ax ((cond (cond (!dg) true (decide ((atZ l bq).Count<1))) true (decide (1099511627776<(atZ l bq).Count)))||(!(decide (0<bq))||aJ (atY (bq-1)) l.length))<|cond (cond (cond (cond (!dg) true (decide ((atZ l bq).Count<1))) true (decide (1099511627776<(atZ l bq).Count))) true (cond (decide (0<bq)) ((Op.bytesLess ((atZ l bq).Key) ((atZ l (atY (bq-1))).Key))||(decide (((atZ l bq).Key)=((atZ l (atY (bq-1))).Key)))) false)) ( some false) ( ak (atY (bq+1)))) ( Ri n l)
def zV(n:Nat)(l:List bi):Nat→Int→at0
 | 0=>λ_=>none
 |m+1=>JQ n l (zV n l m)
def JR(l:List bi):at0:=zV n l n 0
def Rj(n:Nat)(l:List bp):at0:=some (decide (((l.length:Nat):Int)≤16))
def JS(l:List bp)(ak:Int→at0)(v5:Int):at0:=cond (decide (v5<((l.length:Nat):Int))) ( ax (aJ v5 l.length)<|(uj n (atZ l v5)).bind λcS=>ax ((!cS)||aJ v5 l.length)<|cond (cond (!cS) true (decide ((atZ l v5).Kind=0))) ( some false) ( ak (atY (v5+1)))) ( Rj n l)
def wR(n:Nat)(l:List bp):Nat→Int→at0
 | 0=>λ_=>none
 |m+1=>JS n l (wR n l m)
def Rk(l:List bp):at0:=wR n l n 0
def D2(o:Outcome):at0:=cond (decide (o.Status=1)) ( Option.bind (cond (decide (o.Code=0)) (Rk n o.Out) (some default)) λr2=>some (cond (decide (o.Code=0)) r2 false)) ( some (cond (cond (cond (decide (o.Status=2)) (decide (0≤o.Code)) false) (decide (o.Code≤1009)) false) (decide (((o.Out.length:Nat):Int)=0)) false))
def Rl(n:Nat)(next:Int):at1:=some (cond (decide ((atY (next-1))<8)) (atY (next-1)) 8)
def Rm(n:Nat):at0:=some true
def JT(s:bM)(ak:Int→at0)(v6:Int):at0:=cond (decide (v6<((s.bK.length:Nat):Int))) ( ax (aJ v6 s.bK.length)<|Option.bind (cond (!(cond (!decide ((atZ s.bK v6).Client=s.Client)) true (!decide ((atZ s.bK v6).Seq=(atY (s.Next-(atY (((s.bK.length:Nat):Int)-v6)))))))) (D2 n (⟨((atZ s.bK v6).Outcome).Status,((atZ s.bK v6).Outcome).Code,((atZ s.bK v6).Outcome).Out⟩:Outcome)) (some default)) λcU=>cond (cond (cond (!decide ((atZ s.bK v6).Client=s.Client)) true (!decide ((atZ s.bK v6).Seq=(atY (s.Next-(atY (((s.bK.length:Nat):Int)-v6))))))) true (!cU)) ( some false) ( ak (atY (v6+1)))) ( Rm n)
def zW(n:Nat)(s:bM):Nat→Int→at0
 | 0=>λ_=>none
 |m+1=>JT n s (zW n s m)
def JU(s:bM):at0:=Option.bind (cond (!(cond (cond (cond (decide (s.Client<1)) true (decide (32<s.Client))) true (decide (s.Next<1))) true (decide (1099511627776<s.Next)))) (Rl n s.Next) (some default)) λr1=>cond (cond (cond (cond (cond (decide (s.Client<1)) true (decide (32<s.Client))) true (decide (s.Next<1))) true (decide (1099511627776<s.Next))) true (!decide (((s.bK.length:Nat):Int)=r1))) ( some false) ( zW n s n 0)
def Rn(n:Nat):at0:=some true
def JV(l:List bM)(ak:Int→at0)(v6:Int):at0:=cond (decide (v6<((l.length:Nat):Int))) ( ax (aJ v6 l.length)<|(JU n (atZ l v6)).bind λcU=>ax ((!cU)||(!(decide (0<v6))||aJ v6 l.length))<|ax ((!cU)||(!(decide (0<v6))||aJ (atY (v6-1)) l.length))<|cond (cond (!cU) true (cond (decide (0<v6)) (decide ((atZ l v6).Client≤(atZ l (atY (v6-1))).Client)) false)) ( some false) ( ak (atY (v6+1)))) ( Rn n)
def zX(n:Nat)(l:List bM):Nat→Int→at0
 | 0=>λ_=>none
 |m+1=>JV n l (zX n l m)
def JW(l:List bM):at0:=zX n l n 0
def Ro(n:Nat):Option (List atW):=some ([([112,114,111,99]:atW),([108,101,116]:atW),([112,117,116]:atW),([100,101,108,101,116,101]:atW),([105,102]:atW),([101,108,115,101]:atW),([102,111,114]:atW),([116,111]:atW),([109,97,120]:atW),([101,109,105,116]:atW),([97,98,111,114,116]:atW),([110,111,116]:atW),([97,110,100]:atW),([111,114]:atW),([105,110,116]:atW),([115,116,114]:atW),([98,111,111,108]:atW),([116,101,120,116]:atW),([108,101,110]:atW),([103,101,116,105,110,116]:atW),([103,101,116,115,116,114]:atW),([104,97,115]:atW),([110,111,119]:atW),([114,97,110,100,111,109]:atW),([110,111,100,101]:atW)]:List atW)
def Rp(n:Nat):at0:=some false
def Rq(l:List atW)(s:atW)(ak:Int→at0)(v3:Int):at0:=cond (decide (v3<((l.length:Nat):Int))) ( ax (aJ v3 l.length)<|cond (decide ((atZ l v3)=s)) ( some true) ( ak (atY (v3+1)))) ( Rp n)
def D3(n:Nat)(l:List atW)(s:atW):Nat→Int→at0
 | 0=>λ_=>none
 |m+1=>Rq n l s (D3 n l s m)
def Rr(l:List atW)(s:atW):at0:=D3 n l s n 0
def D4(s:atW):at0:=(Ro n).bind λr1=>(Rr n r1 s).bind λr2=>some r2
def zY(n:Nat)(c:Int):at0:=some (cond (decide (97≤c)) (decide (c≤122)) false)
def Rs(n:Nat)(c:Int):at0:=some (cond (decide (48≤c)) (decide (c≤57)) false)
def D5(c:Int):at0:=(zY n c).bind λr1=>Option.bind (cond (!r1) (Rs n c) (some default)) λr2=>some (cond (cond r1 true r2) true (decide (c=95)))
def Rt(n:Nat)(bq:Int):at1:=some bq
def Ru(s:atW)(ak:Int→at1)(v4:Int):at1:=ax (!(decide (v4<((s.length:Nat):Int)))||aJ v4 s.length)<|Option.bind (cond (decide (v4<((s.length:Nat):Int))) (D5 n (((s.getD (v4).toNat 0).toNat:Nat):Int)) (some default)) λbO=>cond (cond (decide (v4<((s.length:Nat):Int))) bO false) ( ak (atY (v4+1))) ( Rt n v4)
def D6(n:Nat)(s:atW):Nat→Int→at1
 | 0=>λ_=>none
 |m+1=>Ru n s (D6 n s m)
def JX(s:atW)(at_:Int):at1:=D6 n s n at_
def sO(s:atW):at0:=ax (!(cond (decide (1≤((s.length:Nat):Int))) (decide (((s.length:Nat):Int)≤16)) false)||aJ 0 s.length)<|Option.bind (cond (cond (decide (1≤((s.length:Nat):Int))) (decide (((s.length:Nat):Int)≤16)) false) (zY n (((s.getD 0 0).toNat:Nat):Int)) (some default)) λr2=>Option.bind (cond (cond (cond (decide (1≤((s.length:Nat):Int))) (decide (((s.length:Nat):Int)≤16)) false) r2 false) (JX n s 0) (some default)) λr3=>Option.bind (cond (cond (cond (cond (decide (1≤((s.length:Nat):Int))) (decide (((s.length:Nat):Int)≤16)) false) r2 false) (decide (r3=((s.length:Nat):Int))) false) (D4 n s) (some default)) λbj=>some (cond (cond (cond (cond (decide (1≤((s.length:Nat):Int))) (decide (((s.length:Nat):Int)≤16)) false) r2 false) (decide (r3=((s.length:Nat):Int))) false) (!bj) false)
def sP(n:Nat)(e:Expr):at0:=some (cond (cond (cond (decide (e.Op=0)) (decide (e.N=0)) false) (decide (e.S=([]:atW))) false) (decide (((e.ar.length:Nat):Int)=0)) false)
def Rv(n:Nat)(nG:(List cr)→Expr→Bool→Option (List cr))(cv:List cr):Option (List cr):=some cv
def Rw(nG:(List cr)→Expr→Bool→Option (List cr))(e:Expr)(ak:(List cr)→Int→Option (List cr))(bz:List cr)(bq:Int):Option (List cr):=cond (cond (decide (bq<((e.ar.length:Nat):Int))) (decide (((bz.length:Nat):Int)≤400)) false) ( ax (aJ bq e.ar.length)<|(nG bz (atZ e.ar bq) false).bind λdg=>ak dg (atY (bq+1))) ( Rv n nG bz)
def D7(n:Nat)(nG:(List cr)→Expr→Bool→Option (List cr))(e:Expr):Nat→(List cr)→Int→Option (List cr)
 | 0=>λ_ _=>none
 |m+1=>Rw n nG e (D7 n nG e m)
def Rx(nG:(List cr)→Expr→Bool→Option (List cr))(out:List cr)(e:Expr)(root:Bool):Option (List cr):=cond (decide (400<((out.length:Nat):Int))) ( some out) ( ax (room (out.length+([(⟨false,⟨0,[],0,⟨0,0,[],[]⟩,⟨0,0,[],[]⟩,[],[]⟩,0,e,root⟩:cr)]:List cr).length) 272)<|D7 n nG e n (out++([(⟨false,⟨0,[],0,⟨0,0,[],[]⟩,⟨0,0,[],[]⟩,[],[]⟩,0,e,root⟩:cr)]:List cr)) 0)
def sQ:Nat→(List cr)→Expr→Bool→Option (List cr)
 | 0=>λ_ _ _=>none
 |m+1=>Rx m (sQ m)
def Ry(n:Nat)(iF:(List cr)→(List Stmt)→Int→Option (List cr))(kj:List cr):Option (List cr):=some kj
def Rz(n:Nat)(iF:(List cr)→(List Stmt)→Int→Option (List cr))(ak:(List cr)→Int→Option (List cr))(l:List Stmt)(depth:Int)(v21:Int)(iE:List cr):Option (List cr):=ak iE (atY (v21+1))
def JY(iF:(List cr)→(List Stmt)→Int→Option (List cr))(ak:(List cr)→Int→Option (List cr))(l:List Stmt)(depth:Int)(v21:Int)(gX:List cr):Option (List cr):=ax (aJ v21 l.length)<|(iF gX ((atZ l v21).Body) (atY (depth+1))).bind λk4=>ax (aJ v21 l.length)<|(iF k4 ((atZ l v21).bx) (atY (depth+1))).bind λoA=>Rz n iF ak l depth v21 oA
def JZ(iF:(List cr)→(List Stmt)→Int→Option (List cr))(ak:(List cr)→Int→Option (List cr))(l:List Stmt)(depth:Int)(v21:Int)(v28:List cr):Option (List cr):=ax (aJ v21 l.length)<|(sP n ((atZ l v21).B)).bind λim=>cond (!im) ( ax (aJ v21 l.length)<|(sQ n v28 ((atZ l v21).B) true).bind λmu=>JY n iF ak l depth v21 mu) ( JY n iF ak l depth v21 v28)
def RA(iF:(List cr)→(List Stmt)→Int→Option (List cr))(l:List Stmt)(depth:Int)(ak:(List cr)→Int→Option (List cr))(v20:List cr)(v21:Int):Option (List cr):=cond (cond (decide (v21<((l.length:Nat):Int))) (decide (((v20.length:Nat):Int)≤400)) false) ( ax (aJ v21 l.length)<|ax (room (v20.length+([(⟨true,⟨(atZ l v21).Op,(atZ l v21).Name,(atZ l v21).Max,⟨((atZ l v21).A).Op,((atZ l v21).A).N,((atZ l v21).A).S,((atZ l v21).A).ar⟩,⟨((atZ l v21).B).Op,((atZ l v21).B).N,((atZ l v21).B).S,((atZ l v21).B).ar⟩,(atZ l v21).Body,(atZ l v21).bx⟩,depth,⟨0,0,[],[]⟩,false⟩:cr)]:List cr).length) 272)<|ax (aJ v21 l.length)<|(sP n ((atZ l v21).A)).bind λf9=>cond (!f9) ( ax (aJ v21 l.length)<|(sQ n (v20++([(⟨true,⟨(atZ l v21).Op,(atZ l v21).Name,(atZ l v21).Max,⟨((atZ l v21).A).Op,((atZ l v21).A).N,((atZ l v21).A).S,((atZ l v21).A).ar⟩,⟨((atZ l v21).B).Op,((atZ l v21).B).N,((atZ l v21).B).S,((atZ l v21).B).ar⟩,(atZ l v21).Body,(atZ l v21).bx⟩,depth,⟨0,0,[],[]⟩,false⟩:cr)]:List cr)) ((atZ l v21).A) true).bind λr27=>JZ n iF ak l depth v21 r27) ( JZ n iF ak l depth v21 (v20++([(⟨true,⟨(atZ l v21).Op,(atZ l v21).Name,(atZ l v21).Max,⟨((atZ l v21).A).Op,((atZ l v21).A).N,((atZ l v21).A).S,((atZ l v21).A).ar⟩,⟨((atZ l v21).B).Op,((atZ l v21).B).N,((atZ l v21).B).S,((atZ l v21).B).ar⟩,(atZ l v21).Body,(atZ l v21).bx⟩,depth,⟨0,0,[],[]⟩,false⟩:cr)]:List cr)))) ( Ry n iF v20)
def uk(n:Nat)(iF:(List cr)→(List Stmt)→Int→Option (List cr))(l:List Stmt)(depth:Int):Nat→(List cr)→Int→Option (List cr)
 | 0=>λ_ _=>none
 |m+1=>RA n iF l depth (uk n iF l depth m)
def RB(iF:(List cr)→(List Stmt)→Int→Option (List cr))(out:List cr)(l:List Stmt)(depth:Int):Option (List cr):=uk n iF l depth n out 0
def m9:Nat→(List cr)→(List Stmt)→Int→Option (List cr)
 | 0=>λ_ _ _=>none
 |m+1=>RB m (m9 m)
def RC(p:bc):Option (List cr):=(m9 n ([]:List cr) p.Body 1).bind λr1=>some r1
def RD(n:Nat):at1:=some 0
def RE(n:Nat)(ak:Int→at1)(l:List Param)(bD:Int):at1:=ak (atY (bD+1))
def RF(ak:Int→at1)(l:List Param)(bD:Int)(d_:Int→at1)(c7:Int):at1:=cond (decide (c7<bD)) ( ax (aJ c7 l.length)<|ax (aJ bD l.length)<|cond (decide (((atZ l c7).Name)=((atZ l bD).Name))) ( some 8) ( d_ (atY (c7+1)))) ( RE n ak l bD)
def zZ(n:Nat)(ak:Int→at1)(l:List Param)(bD:Int):Nat→Int→at1
 | 0=>λ_=>none
 |m+1=>RF n ak l bD (zZ n ak l bD m)
def RG(l:List Param)(ak:Int→at1)(bD:Int):at1:=cond (decide (bD<((l.length:Nat):Int))) ( ax (aJ bD l.length)<|(sO n ((atZ l bD).Name)).bind λeG=>cond (!eG) ( some 7) ( ax (aJ bD l.length)<|ax ((decide ((atZ l bD).fs<1))||aJ bD l.length)<|cond (cond (decide ((atZ l bD).fs<1)) true (decide (3<(atZ l bD).fs))) ( some 10) ( zZ n ak l bD n 0))) ( RD n)
def ul(n:Nat)(l:List Param):Nat→Int→at1
 | 0=>λ_=>none
 |m+1=>RG n l (ul n l m)
def J0(l:List Param):at1:=cond (decide (6<((l.length:Nat):Int))) ( some 2) ( ul n l n 0)
def RH(n:Nat)(op:Int):at1:=cond (cond (decide (4≤op)) (decide (op≤19)) false) ( some 2) ( some (-1))
def sR(op:Int)(v2:Bool):at1:=cond v2 ( some 1) ( RH n op)
def um(op:Int)(v1:Bool):at1:=cond v1 ( some 0) ( cond (decide (op=9)) ( sR n op (decide (op=9))) ( cond (decide (op=18)) ( sR n op (decide (op=18))) ( cond (decide (op=20)) ( sR n op (decide (op=20))) ( cond (decide (op=21)) ( sR n op (decide (op=21))) ( cond (decide (op=22)) ( sR n op (decide (op=22))) ( cond (decide (op=23)) ( sR n op (decide (op=23))) ( sR n op (decide (op=24)))))))))
def D8(op:Int):at1:=cond (decide (op=1)) ( um n op (decide (op=1))) ( cond (decide (op=2)) ( um n op (decide (op=2))) ( cond (decide (op=3)) ( um n op (decide (op=3))) ( cond (decide (op=25)) ( um n op (decide (op=25))) ( cond (decide (op=26)) ( um n op (decide (op=26))) ( um n op (decide (op=27)))))))
def RI(n:Nat):at0:=some true
def RJ(s:atW)(ak:Int→at0)(v5:Int):at0:=cond (decide (v5<((s.length:Nat):Int))) ( ax (aJ v5 s.length)<|ax ((decide ((((s.getD (v5).toNat 0).toNat:Nat):Int)<32))||aJ v5 s.length)<|cond (cond (decide ((((s.getD (v5).toNat 0).toNat:Nat):Int)<32)) true (decide (126<(((s.getD (v5).toNat 0).toNat:Nat):Int)))) ( some false) ( ak (atY (v5+1)))) ( RI n)
def D9(n:Nat)(s:atW):Nat→Int→at0
 | 0=>λ_=>none
 |m+1=>RJ n s (D9 n s m)
def J1(s:atW):at0:=cond (decide (64<((s.length:Nat):Int))) ( some false) ( D9 n s n 0)
def J2(e:Expr)(depth:Int):at1:=(D8 n e.Op).bind λr1=>cond (cond (cond (decide (r1<0)) true (cond (!decide (e.Op=1)) (!decide (e.N=0)) false)) true (cond (cond (!decide (e.Op=2)) (!decide (e.Op=3)) false) (!(decide (e.S=([]:atW)))) false)) ( some 1) ( Option.bind (cond (decide (e.Op=3)) (sO n e.S) (some default)) λr3=>cond (cond (decide (e.Op=3)) (!r3) false) ( some 7) ( Option.bind (cond ((!(decide (e.N<0)))&&(decide (e.Op=2))) (J1 n e.S) (some default)) λbZ=>Option.bind (cond (!(cond (decide (e.N<0)) true (cond (decide (e.Op=2)) (!bZ) false))) (D8 n e.Op) (some default)) λbO=>cond (cond (cond (decide (e.N<0)) true (cond (decide (e.Op=2)) (!bZ) false)) true (!decide (((e.ar.length:Nat):Int)=bO))) ( some 1) ( cond (decide (12<depth)) ( some 2) ( some 0))))
def RK(n:Nat)(nH:Expr→Int→at1):at1:=some 0
def RL(nH:Expr→Int→at1)(depth:Int)(e:Expr)(ak:Int→at1)(v6:Int):at1:=cond (decide (v6<((e.ar.length:Nat):Int))) ( ax (aJ v6 e.ar.length)<|(nH (atZ e.ar v6) (atY (depth+1))).bind λcU=>cond (!decide (cU=0)) ( some cU) ( ak (atY (v6+1)))) ( RK n nH)
def D'(n:Nat)(nH:Expr→Int→at1)(depth:Int)(e:Expr):Nat→Int→at1
 | 0=>λ_=>none
 |m+1=>RL n nH depth e (D' n nH depth e m)
def RM(nH:Expr→Int→at1)(e:Expr)(depth:Int):at1:=(J2 n e depth).bind λr1=>cond (!decide (r1=0)) ( some r1) ( D' n nH depth e n 0)
def z1:Nat→Expr→Int→at1
 | 0=>λ_ _=>none
 |m+1=>RM m (z1 m)
def D_(e:Expr):at1:=(z1 n e 1).bind λr1=>some r1
def RN(n:Nat):Option (Bool×Bool×Bool×Bool×Bool×Bool):=some (false,true,false,false,false,false)
def J3(op:Int)(v2:Bool):Option (Bool×Bool×Bool×Bool×Bool×Bool):=cond v2 ( some (false,false,true,false,false,false)) ( cond (decide (op=5)) ( some (false,false,true,false,true,true)) ( cond (decide (op=6)) ( some (true,true,true,true,true,false)) ( RN n)))
def J4(op:Int)(v1:Bool):Option (Bool×Bool×Bool×Bool×Bool×Bool):=cond v1 ( some (true,false,true,false,false,false)) ( cond (decide (op=3)) ( some (false,false,true,true,false,false)) ( cond (decide (op=4)) ( J3 n op (decide (op=4))) ( J3 n op (decide (op=7)))))
def Ea(op:Int):Option (Bool×Bool×Bool×Bool×Bool×Bool):=cond (decide (op=1)) ( J4 n op (decide (op=1))) ( J4 n op (decide (op=2)))
def J5(n:Nat)(depth:Int):at1:=cond (decide (12<depth)) ( some 2) ( some 0)
def J6(depth:Int)(r1:Bool×Bool×Bool×Bool×Bool×Bool)(s:Stmt):at1:=cond r1.2.2.2.1 ( (D_ n (⟨s.B.Op,s.B.N,s.B.S,s.B.ar⟩:Expr)).bind λcP=>cond (!decide (cP=0)) ( some cP) ( J5 n depth)) ( J5 n depth)
def J7(s:Stmt)(depth:Int):at1:=(Ea n s.Op).bind λr1=>Option.bind (cond ((!(cond (cond (cond (decide (s.Op<1)) true (decide (8<s.Op))) true (cond (!r1.1) (!(decide (s.Name=([]:atW)))) false)) true (cond (!r1.2.1) (!decide (s.Max=0)) false)))&&(!r1.2.2.1)) (sP n (⟨s.A.Op,s.A.N,s.A.S,s.A.ar⟩:Expr)) (some default)) λr2=>Option.bind (cond ((!(cond (cond (cond (cond (decide (s.Op<1)) true (decide (8<s.Op))) true (cond (!r1.1) (!(decide (s.Name=([]:atW)))) false)) true (cond (!r1.2.1) (!decide (s.Max=0)) false)) true (cond (!r1.2.2.1) (!r2) false)))&&(!r1.2.2.2.1)) (sP n (⟨s.B.Op,s.B.N,s.B.S,s.B.ar⟩:Expr)) (some default)) λr3=>cond (cond (cond (cond (cond (cond (cond (cond (decide (s.Op<1)) true (decide (8<s.Op))) true (cond (!r1.1) (!(decide (s.Name=([]:atW)))) false)) true (cond (!r1.2.1) (!decide (s.Max=0)) false)) true (cond (!r1.2.2.1) (!r2) false)) true (cond (!r1.2.2.2.1) (!r3) false)) true (cond (!r1.2.2.2.2.1) (decide (0<((s.Body.length:Nat):Int))) false)) true (cond (!r1.2.2.2.2.2) (decide (0<((s.bx.length:Nat):Int))) false)) ( some 1) ( cond (cond (cond (decide (s.Op=6)) (cond (decide (s.Max<1)) true (decide (16<s.Max))) false) true (cond (decide (s.Op=8)) (cond (decide (s.Max<0)) true (decide (999<s.Max))) false)) ( some 1) ( Option.bind (cond r1.1 (sO n s.Name) (some default)) λbO=>cond (cond r1.1 (!bO) false) ( some 7) ( cond r1.2.2.1 ( (D_ n (⟨s.A.Op,s.A.N,s.A.S,s.A.ar⟩:Expr)).bind λcU=>cond (!decide (cU=0)) ( some cU) ( J6 n depth r1 s)) ( J6 n depth r1 s))))
def RO(n:Nat)(bZ:(List cr)):at1:=cond (decide (400<((bZ.length:Nat):Int))) ( some 2) ( some 0)
def J8(n:Nat)(ak:Int→at1)(bZ:(List cr))(v11:Int):at1:=ak (atY (v11+1))
def RP(bZ:(List cr))(ak:Int→at1)(v11:Int):at1:=cond (decide (v11<((bZ.length:Nat):Int))) ( ax (aJ v11 bZ.length)<|cond ((atZ bZ v11).p2) ( ax (aJ v11 bZ.length)<|ax (aJ v11 bZ.length)<|(J7 n ((atZ bZ v11).Stmt) ((atZ bZ v11).CC)).bind λdS=>cond (!decide (dS=0)) ( some dS) ( J8 n ak bZ v11)) ( J8 n ak bZ v11)) ( RO n bZ)
def z6(n:Nat)(bZ:(List cr)):Nat→Int→at1
 | 0=>λ_=>none
 |m+1=>RP n bZ (z6 n bZ m)
def J9(p:bc):at1:=(sO n p.Name).bind λr1=>cond (!r1) ( some 7) ( (J0 n p.Params).bind λr3=>cond (!decide (r3=0)) ( some r3) ( (RC n p).bind λbZ=>z6 n bZ n 0))
def RQ(n:Nat)(a:Int):at1:=cond (decide (a<0)) ( some (IntKind.u64.wrap (0-(IntKind.u64.wrap a)))) ( some (IntKind.u64.wrap a))
def Eb(n:Nat)(fw:Int)(v12:atW):Option atW:=cond (decide (fw<0)) ( ax (b0 (([45]:atW).length+v12.length))<|some (([45]:atW)++v12)) ( some v12)
def sS(fw:Int)(ak:Int→atW→Option atW)(v6:Int)(bz:atW):Option atW:=cond (cond (decide (0<v6)) true (decide (bz=([]:atW)))) ( ax (nv ([(IntKind.u8.wrap (IntKind.u64.wrap (48+(Int.tmod v6 10))))]:List Int))<|ax (b0 ((jR ([(IntKind.u8.wrap (IntKind.u64.wrap (48+(Int.tmod v6 10))))]:List Int)).length+bz.length))<|ak (IntKind.u64.wrap (Int.tdiv v6 10)) ((jR ([(IntKind.u8.wrap (IntKind.u64.wrap (48+(Int.tmod v6 10))))]:List Int))++bz)) ( Eb n fw bz)
def qc(n:Nat)(fw:Int):Nat→Int→atW→Option atW
 | 0=>λ_ _=>none
 |m+1=>sS n fw (qc n fw m)
def wS(fw:Int):Option atW:=(RQ n fw).bind λr1=>qc n fw n r1 ([]:atW)
def RR(n:Nat)(v9:atW):Option atW:=some v9
def RS(depth:Int)(ak:atW→Int→Option atW)(v4:atW)(v5:Int):Option atW:=cond (decide (v5<depth)) ( ax (b0 (v4.length+([32,32,32,32]:atW).length))<|ak (v4++([32,32,32,32]:atW)) (atY (v5+1))) ( RR n v4)
def Ec(n:Nat)(depth:Int):Nat→atW→Int→Option atW
 | 0=>λ_ _=>none
 |m+1=>RS n depth (Ec n depth m)
def RT(depth:Int):Option atW:=Ec n depth n ([]:atW) 0
def RU(n:Nat):at0:=some true
def RV(s:atW)(ak:Int→at0)(v4:Int):at0:=cond (decide (v4<((s.length:Nat):Int))) ( ax (aJ v4 s.length)<|ax ((decide ((((s.getD (v4).toNat 0).toNat:Nat):Int)<32))||aJ v4 s.length)<|cond (cond (decide ((((s.getD (v4).toNat 0).toNat:Nat):Int)<32)) true (decide (126<(((s.getD (v4).toNat 0).toNat:Nat):Int)))) ( some false) ( ak (atY (v4+1)))) ( RU n)
def z7(n:Nat)(s:atW):Nat→Int→at0
 | 0=>λ_=>none
 |m+1=>RV n s (z7 n s m)
def RW(s:atW):at0:=z7 n s n 0
def RX(n:Nat)(v24:atW):Option (atW×Int):=ax (b0 (v24.length+([34]:atW).length))<|some ((v24++([34]:atW)),0)
def RY(n:Nat)(ak:atW→Int→Option (atW×Int))(s:atW)(bD:Int)(v21:atW):Option (atW×Int):=ak v21 (atY (bD+1))
def J'(ak:atW→Int→Option (atW×Int))(s:atW)(bD:Int)(cm:atW):Option (atW×Int):=ax (lU bD (atY (bD+1)) s.length)<|ax (b0 (cm.length+((s.take ((atY (bD+1))).toNat).drop (bD).toNat).length))<|RY n ak s bD (cm++((s.take ((atY (bD+1))).toNat).drop (bD).toNat))
def RZ(s:atW)(ak:atW→Int→Option (atW×Int))(cv:atW)(bD:Int):Option (atW×Int):=cond (decide (bD<((s.length:Nat):Int))) ( ax (aJ bD s.length)<|ax ((decide ((((s.getD (bD).toNat 0).toNat:Nat):Int)=34))||aJ bD s.length)<|cond (cond (decide ((((s.getD (bD).toNat 0).toNat:Nat):Int)=34)) true (decide ((((s.getD (bD).toNat 0).toNat:Nat):Int)=92))) ( ax (b0 (cv.length+([92]:atW).length))<|J' n ak s bD (cv++([92]:atW))) ( J' n ak s bD cv)) ( RX n cv)
def Ed(n:Nat)(s:atW):Nat→atW→Int→Option (atW×Int)
 | 0=>λ_ _=>none
 |m+1=>RZ n s (Ed n s m)
def J_(s:atW):Option (atW×Int):=cond (decide (64<((s.length:Nat):Int))) ( some (([]:atW),2)) ( (RW n s).bind λr2=>cond (!r2) ( some (([]:atW),1)) ( Ed n s n ([34]:atW) 0))
def Yv(n:Nat):at1:=some 9
def Ka(op:Int)(v3:Bool):at1:=cond v3 ( some 7) ( cond (decide (op=9)) ( some 8) ( Yv n))
def R0(op:Int)(v2:Bool):at1:=cond v2 ( some 6) ( cond (decide (op=6)) ( Ka n op (decide (op=6))) ( cond (decide (op=7)) ( Ka n op (decide (op=7))) ( Ka n op (decide (op=8)))))
def wT(op:Int)(v1:Bool):at1:=cond v1 ( some 4) ( cond (decide (op=19)) ( some 5) ( cond (decide (op=4)) ( R0 n op (decide (op=4))) ( R0 n op (decide (op=5)))))
def Kb(op:Int):at1:=cond (decide (op=17)) ( some 1) ( cond (decide (op=16)) ( some 2) ( cond (decide (op=18)) ( some 3) ( cond (decide (op=10)) ( wT n op (decide (op=10))) ( cond (decide (op=11)) ( wT n op (decide (op=11))) ( cond (decide (op=12)) ( wT n op (decide (op=12))) ( cond (decide (op=13)) ( wT n op (decide (op=13))) ( cond (decide (op=14)) ( wT n op (decide (op=14))) ( wT n op (decide (op=15))))))))))
def Kc(n:Nat)(op:Int):Option atW:=cond (decide (op=17)) ( some ([111,114]:atW)) ( cond (decide (op=16)) ( some ([97,110,100]:atW)) ( cond (decide (op=10)) ( some ([61,61]:atW)) ( cond (decide (op=11)) ( some ([33,61]:atW)) ( cond (decide (op=12)) ( some ([60]:atW)) ( cond (decide (op=13)) ( some ([60,61]:atW)) ( cond (decide (op=14)) ( some ([62]:atW)) ( cond (decide (op=15)) ( some ([62,61]:atW)) ( cond (decide (op=19)) ( some ([43,43]:atW)) ( cond (decide (op=4)) ( some ([43]:atW)) ( cond (decide (op=5)) ( some ([45]:atW)) ( cond (decide (op=6)) ( some ([42]:atW)) ( cond (decide (op=7)) ( some ([47]:atW)) ( some ([37]:atW))))))))))))))
def Kd(n:Nat)(op:Int):Option atW:=cond (decide (op=20)) ( some ([116,101,120,116]:atW)) ( cond (decide (op=21)) ( some ([108,101,110]:atW)) ( cond (decide (op=22)) ( some ([103,101,116,105,110,116]:atW)) ( cond (decide (op=23)) ( some ([103,101,116,115,116,114]:atW)) ( cond (decide (op=24)) ( some ([104,97,115]:atW)) ( cond (decide (op=25)) ( some ([110,111,119]:atW)) ( cond (decide (op=26)) ( some ([114,97,110,100,111,109]:atW)) ( some ([110,111,100,101]:atW))))))))
def Ke(rm:Expr→Option atW)(oB:Expr→Int→Option atW)(e:Expr):Option atW:=(Kb n e.Op).bind λr1=>cond (decide (e.Op=1)) ( (wS n e.N).bind λr3=>some r3) ( cond (decide (e.Op=2)) ( (J_ n e.S).bind λbZ=>some bZ.1) ( cond (decide (e.Op=3)) ( some e.S) ( cond (decide (e.Op=18)) ( ax (aJ 0 e.ar.length)<|(oB (e.ar.getD 0 default) r1).bind λcP=>ax (b0 (([110,111,116,32]:atW).length+cP.length))<|some (([110,111,116,32]:atW)++cP)) ( cond (decide (e.Op=9)) ( ax (aJ 0 e.ar.length)<|(oB (e.ar.getD 0 default) r1).bind λdR=>ax (b0 (([45]:atW).length+dR.length))<|some (([45]:atW)++dR)) ( cond (cond (decide (r1=9)) (decide (((e.ar.length:Nat):Int)=0)) false) ( (Kd n e.Op).bind λeG=>ax (b0 (eG.length+([40,41]:atW).length))<|some (eG++([40,41]:atW))) ( cond (decide (r1=9)) ( (Kd n e.Op).bind λfo=>ax (b0 (fo.length+([40]:atW).length))<|ax (aJ 0 e.ar.length)<|(rm (e.ar.getD 0 default)).bind λes=>ax (b0 ((fo++([40]:atW)).length+es.length))<|ax (b0 (((fo++([40]:atW))++es).length+([41]:atW).length))<|some (((fo++([40]:atW))++es)++([41]:atW))) ( cond (decide (r1=4)) ( ax (aJ 0 e.ar.length)<|(oB (e.ar.getD 0 default) 5).bind λr27=>ax (b0 (r27.length+([32]:atW).length))<|(Kc n e.Op).bind λfI=>ax (b0 ((r27++([32]:atW)).length+fI.length))<|ax (b0 (((r27++([32]:atW))++fI).length+([32]:atW).length))<|ax (aJ 1 e.ar.length)<|(oB (e.ar.getD 1 default) 5).bind λo7=>ax (b0 ((((r27++([32]:atW))++fI)++([32]:atW)).length+o7.length))<|some ((((r27++([32]:atW))++fI)++([32]:atW))++o7)) ( ax (aJ 0 e.ar.length)<|(oB (e.ar.getD 0 default) r1).bind λov=>ax (b0 (ov.length+([32]:atW).length))<|(Kc n e.Op).bind λp6=>ax (b0 ((ov++([32]:atW)).length+p6.length))<|ax (b0 (((ov++([32]:atW))++p6).length+([32]:atW).length))<|ax (aJ 1 e.ar.length)<|(oB (e.ar.getD 1 default) (atY (r1+1))).bind λhN=>ax (b0 ((((ov++([32]:atW))++p6)++([32]:atW)).length+hN.length))<|some ((((ov++([32]:atW))++p6)++([32]:atW))++hN)))))))))
def Kf(rm:Expr→Option atW)(oB:Expr→Int→Option atW)(e:Expr)(least:Int):Option atW:=(Kb n e.Op).bind λr1=>cond (decide (r1<least)) ( (rm e).bind λr3=>ax (b0 (([40]:atW).length+r3.length))<|ax (b0 ((([40]:atW)++r3).length+([41]:atW).length))<|some ((([40]:atW)++r3)++([41]:atW))) ( (rm e).bind λbO=>some bO)
def z8:Nat→(Expr→Option atW)×(Expr→Int→Option atW)
 | 0=>(λ_=>none,λ_ _=>none)
 |m+1=>(Ke m ((z8 m).1) ((z8 m).2),Kf m ((z8 m).1) ((z8 m).2))
def k5:Expr→Option atW:=(z8 n).1
def wU:Expr→Int→Option atW:=(z8 n).2
def R1(n:Nat)(jp:(List Stmt)→Int→Option atW)(jS:Stmt→Int→Option atW)(cv:atW):Option atW:=some cv
def R2(jp:(List Stmt)→Int→Option atW)(jS:Stmt→Int→Option atW)(l:List Stmt)(depth:Int)(ak:atW→Int→Option atW)(v6:atW)(bz:Int):Option atW:=cond (decide (bz<((l.length:Nat):Int))) ( ax (aJ bz l.length)<|(jS (atZ l bz) depth).bind λcP=>ax (b0 (v6.length+cP.length))<|ak (v6++cP) (atY (bz+1))) ( R1 n jp jS v6)
def Ee(n:Nat)(jp:(List Stmt)→Int→Option atW)(jS:Stmt→Int→Option atW)(l:List Stmt)(depth:Int):Nat→atW→Int→Option atW
 | 0=>λ_ _=>none
 |m+1=>R2 n jp jS l depth (Ee n jp jS l depth m)
def Kg(jp:(List Stmt)→Int→Option atW)(jS:Stmt→Int→Option atW)(l:List Stmt)(depth:Int):Option atW:=Ee n jp jS l depth n ([]:atW) 0
def Ef(n:Nat)(jp:(List Stmt)→Int→Option atW)(jS:Stmt→Int→Option atW)(Eg:atW):Option atW:=ax (b0 (Eg.length+([10]:atW).length))<|some (Eg++([10]:atW))
def Kh(jp:(List Stmt)→Int→Option atW)(jS:Stmt→Int→Option atW)(x:Stmt)(depth:Int):Option atW:=(RT n depth).bind λr1=>cond (decide (x.Op=1)) ( ax (b0 (r1.length+([108,101,116,32]:atW).length))<|ax (b0 ((r1++([108,101,116,32]:atW)).length+x.Name.length))<|ax (b0 (((r1++([108,101,116,32]:atW))++x.Name).length+([32,61,32]:atW).length))<|(k5 n (⟨x.A.Op,x.A.N,x.A.S,x.A.ar⟩:Expr)).bind λbO=>ax (b0 ((((r1++([108,101,116,32]:atW))++x.Name)++([32,61,32]:atW)).length+bO.length))<|ax (b0 (((((r1++([108,101,116,32]:atW))++x.Name)++([32,61,32]:atW))++bO).length+([59,10]:atW).length))<|some (((((r1++([108,101,116,32]:atW))++x.Name)++([32,61,32]:atW))++bO)++([59,10]:atW))) ( cond (decide (x.Op=2)) ( ax (b0 (r1.length+x.Name.length))<|ax (b0 ((r1++x.Name).length+([32,61,32]:atW).length))<|(k5 n (⟨x.A.Op,x.A.N,x.A.S,x.A.ar⟩:Expr)).bind λeT=>ax (b0 (((r1++x.Name)++([32,61,32]:atW)).length+eT.length))<|ax (b0 ((((r1++x.Name)++([32,61,32]:atW))++eT).length+([59,10]:atW).length))<|some ((((r1++x.Name)++([32,61,32]:atW))++eT)++([59,10]:atW))) ( cond (decide (x.Op=3)) ( ax (b0 (r1.length+([112,117,116,32]:atW).length))<|(k5 n (⟨x.A.Op,x.A.N,x.A.S,x.A.ar⟩:Expr)).bind λeZ=>ax (b0 ((r1++([112,117,116,32]:atW)).length+eZ.length))<|ax (b0 (((r1++([112,117,116,32]:atW))++eZ).length+([32,61,32]:atW).length))<|(k5 n (⟨x.B.Op,x.B.N,x.B.S,x.B.ar⟩:Expr)).bind λeO=>ax (b0 ((((r1++([112,117,116,32]:atW))++eZ)++([32,61,32]:atW)).length+eO.length))<|ax (b0 (((((r1++([112,117,116,32]:atW))++eZ)++([32,61,32]:atW))++eO).length+([59,10]:atW).length))<|some (((((r1++([112,117,116,32]:atW))++eZ)++([32,61,32]:atW))++eO)++([59,10]:atW))) ( cond (decide (x.Op=4)) ( ax (b0 (r1.length+([100,101,108,101,116,101,32]:atW).length))<|(k5 n (⟨x.A.Op,x.A.N,x.A.S,x.A.ar⟩:Expr)).bind λf9=>ax (b0 ((r1++([100,101,108,101,116,101,32]:atW)).length+f9.length))<|ax (b0 (((r1++([100,101,108,101,116,101,32]:atW))++f9).length+([59,10]:atW).length))<|some (((r1++([100,101,108,101,116,101,32]:atW))++f9)++([59,10]:atW))) ( cond (decide (x.Op=7)) ( ax (b0 (r1.length+([101,109,105,116,32]:atW).length))<|(k5 n (⟨x.A.Op,x.A.N,x.A.S,x.A.ar⟩:Expr)).bind λim=>ax (b0 ((r1++([101,109,105,116,32]:atW)).length+im.length))<|ax (b0 (((r1++([101,109,105,116,32]:atW))++im).length+([59,10]:atW).length))<|some (((r1++([101,109,105,116,32]:atW))++im)++([59,10]:atW))) ( cond (decide (x.Op=8)) ( ax (b0 (r1.length+([97,98,111,114,116,32]:atW).length))<|(wS n x.Max).bind λk4=>ax (b0 ((r1++([97,98,111,114,116,32]:atW)).length+k4.length))<|ax (b0 (((r1++([97,98,111,114,116,32]:atW))++k4).length+([59,10]:atW).length))<|some (((r1++([97,98,111,114,116,32]:atW))++k4)++([59,10]:atW))) ( cond (decide (x.Op=6)) ( ax (b0 (r1.length+([102,111,114,32]:atW).length))<|ax (b0 ((r1++([102,111,114,32]:atW)).length+x.Name.length))<|ax (b0 (((r1++([102,111,114,32]:atW))++x.Name).length+([32,61,32]:atW).length))<|(k5 n (⟨x.A.Op,x.A.N,x.A.S,x.A.ar⟩:Expr)).bind λhN=>ax (b0 ((((r1++([102,111,114,32]:atW))++x.Name)++([32,61,32]:atW)).length+hN.length))<|ax (b0 (((((r1++([102,111,114,32]:atW))++x.Name)++([32,61,32]:atW))++hN).length+([32,116,111,32]:atW).length))<|(k5 n (⟨x.B.Op,x.B.N,x.B.S,x.B.ar⟩:Expr)).bind λjo=>ax (b0 ((((((r1++([102,111,114,32]:atW))++x.Name)++([32,61,32]:atW))++hN)++([32,116,111,32]:atW)).length+jo.length))<|ax (b0 (((((((r1++([102,111,114,32]:atW))++x.Name)++([32,61,32]:atW))++hN)++([32,116,111,32]:atW))++jo).length+([32,109,97,120,32]:atW).length))<|(wS n x.Max).bind λrf=>ax (b0 ((((((((r1++([102,111,114,32]:atW))++x.Name)++([32,61,32]:atW))++hN)++([32,116,111,32]:atW))++jo)++([32,109,97,120,32]:atW)).length+rf.length))<|ax (b0 (((((((((r1++([102,111,114,32]:atW))++x.Name)++([32,61,32]:atW))++hN)++([32,116,111,32]:atW))++jo)++([32,109,97,120,32]:atW))++rf).length+([32,123,10]:atW).length))<|(jp x.Body (atY (depth+1))).bind λqb=>ax (b0 ((((((((((r1++([102,111,114,32]:atW))++x.Name)++([32,61,32]:atW))++hN)++([32,116,111,32]:atW))++jo)++([32,109,97,120,32]:atW))++rf)++([32,123,10]:atW)).length+qb.length))<|ax (b0 (((((((((((r1++([102,111,114,32]:atW))++x.Name)++([32,61,32]:atW))++hN)++([32,116,111,32]:atW))++jo)++([32,109,97,120,32]:atW))++rf)++([32,123,10]:atW))++qb).length+r1.length))<|ax (b0 ((((((((((((r1++([102,111,114,32]:atW))++x.Name)++([32,61,32]:atW))++hN)++([32,116,111,32]:atW))++jo)++([32,109,97,120,32]:atW))++rf)++([32,123,10]:atW))++qb)++r1).length+([125,10]:atW).length))<|some ((((((((((((r1++([102,111,114,32]:atW))++x.Name)++([32,61,32]:atW))++hN)++([32,116,111,32]:atW))++jo)++([32,109,97,120,32]:atW))++rf)++([32,123,10]:atW))++qb)++r1)++([125,10]:atW))) ( ax (b0 (r1.length+([105,102,32]:atW).length))<|(k5 n (⟨x.A.Op,x.A.N,x.A.S,x.A.ar⟩:Expr)).bind λpd=>ax (b0 ((r1++([105,102,32]:atW)).length+pd.length))<|ax (b0 (((r1++([105,102,32]:atW))++pd).length+([32,123,10]:atW).length))<|(jp x.Body (atY (depth+1))).bind λpb=>ax (b0 ((((r1++([105,102,32]:atW))++pd)++([32,123,10]:atW)).length+pb.length))<|ax (b0 (((((r1++([105,102,32]:atW))++pd)++([32,123,10]:atW))++pb).length+r1.length))<|ax (b0 ((((((r1++([105,102,32]:atW))++pd)++([32,123,10]:atW))++pb)++r1).length+([125]:atW).length))<|cond (decide (0<((x.bx.length:Nat):Int))) ( ax (b0 (((((((r1++([105,102,32]:atW))++pd)++([32,123,10]:atW))++pb)++r1)++([125]:atW)).length+([32,101,108,115,101,32,123,10]:atW).length))<|(jp x.bx (atY (depth+1))).bind λkJ=>ax (b0 ((((((((r1++([105,102,32]:atW))++pd)++([32,123,10]:atW))++pb)++r1)++([125]:atW))++([32,101,108,115,101,32,123,10]:atW)).length+kJ.length))<|ax (b0 (((((((((r1++([105,102,32]:atW))++pd)++([32,123,10]:atW))++pb)++r1)++([125]:atW))++([32,101,108,115,101,32,123,10]:atW))++kJ).length+r1.length))<|ax (b0 ((((((((((r1++([105,102,32]:atW))++pd)++([32,123,10]:atW))++pb)++r1)++([125]:atW))++([32,101,108,115,101,32,123,10]:atW))++kJ)++r1).length+([125]:atW).length))<|Ef n jp jS ((((((((((r1++([105,102,32]:atW))++pd)++([32,123,10]:atW))++pb)++r1)++([125]:atW))++([32,101,108,115,101,32,123,10]:atW))++kJ)++r1)++([125]:atW))) ( Ef n jp jS ((((((r1++([105,102,32]:atW))++pd)++([32,123,10]:atW))++pb)++r1)++([125]:atW))))))))))
def z':Nat→((List Stmt)→Int→Option atW)×(Stmt→Int→Option atW)
 | 0=>(λ_ _=>none,λ_ _=>none)
 |m+1=>(Kg m ((z' m).1) ((z' m).2),Kh m ((z' m).1) ((z' m).2))
def rn:(List Stmt)→Int→Option atW:=(z' n).1
def z_:Stmt→Int→Option atW:=(z' n).2
def R3(n:Nat)(ty:Int):Option atW:=cond (decide (ty=1)) ( some ([105,110,116]:atW)) ( cond (decide (ty=2)) ( some ([115,116,114]:atW)) ( some ([98,111,111,108]:atW)))
def R4(p:bc)(hM:atW):Option atW:=ax (b0 (hM.length+([41,32,123,10]:atW).length))<|(rn n p.Body 1).bind λgz=>ax (b0 ((hM++([41,32,123,10]:atW)).length+gz.length))<|ax (b0 (((hM++([41,32,123,10]:atW))++gz).length+([125,10]:atW).length))<|some (((hM++([41,32,123,10]:atW))++gz)++([125,10]:atW))
def R5(n:Nat)(ak:atW→Int→Option atW)(a1:Int)(p:bc)(Ki:atW):Option atW:=ak Ki (atY (a1+1))
def Kj(ak:atW→Int→Option atW)(a1:Int)(p:bc)(cW:atW):Option atW:=ax (aJ a1 p.Params.length)<|ax (b0 (cW.length+((atZ p.Params a1).Name).length))<|ax (b0 ((cW++((atZ p.Params a1).Name)).length+([58,32]:atW).length))<|ax (aJ a1 p.Params.length)<|(R3 n ((atZ p.Params a1).fs)).bind λr24=>ax (b0 (((cW++((atZ p.Params a1).Name))++([58,32]:atW)).length+r24.length))<|R5 n ak a1 p (((cW++((atZ p.Params a1).Name))++([58,32]:atW))++r24)
def R6(p:bc)(ak:atW→Int→Option atW)(dK:atW)(a1:Int):Option atW:=cond (decide (a1<((p.Params.length:Nat):Int))) ( cond (decide (0<a1)) ( ax (b0 (dK.length+([44,32]:atW).length))<|Kj n ak a1 p (dK++([44,32]:atW))) ( Kj n ak a1 p dK)) ( R4 n p dK)
def Eh(n:Nat)(p:bc):Nat→atW→Int→Option atW
 | 0=>λ_ _=>none
 |m+1=>R6 n p (Eh n p m)
def Aa(p:bc):Option atW:=(J9 n p).bind λr1=>cond (!decide (r1=0)) ( some ([]:atW)) ( ax (b0 (([112,114,111,99,32]:atW).length+p.Name.length))<|ax (b0 ((([112,114,111,99,32]:atW)++p.Name).length+([40]:atW).length))<|Eh n p n ((([112,114,111,99,32]:atW)++p.Name)++([40]:atW)) 0)
def R7(n:Nat)(l:List bc):at0:=some (decide (((l.length:Nat):Int)≤16))
def Kk(l:List bc)(ak:Int→at0)(v6:Int):at0:=cond (decide (v6<((l.length:Nat):Int))) ( ax (aJ v6 l.length)<|(Aa n (atZ l v6)).bind λcU=>ax ((cond (decide (cU=([]:atW))) true (decide (16384<((cU.length:Nat):Int))))||(!(decide (0<v6))||aJ (atY (v6-1)) l.length))<|ax ((cond (decide (cU=([]:atW))) true (decide (16384<((cU.length:Nat):Int))))||(!(decide (0<v6))||aJ v6 l.length))<|cond (cond (cond (decide (cU=([]:atW))) true (decide (16384<((cU.length:Nat):Int)))) true (cond (decide (0<v6)) (!(Op.bytesLess ((atZ l (atY (v6-1))).Name) ((atZ l v6).Name))) false)) ( some false) ( ak (atY (v6+1)))) ( R7 n l)
def Ac(n:Nat)(l:List bc):Nat→Int→at0
 | 0=>λ_=>none
 |m+1=>Kk n l (Ac n l m)
def Kl(l:List bc):at0:=Ac n l n 0
def R8(n:Nat):at0:=some true
def Km(l:List atW)(ak:Int→at0)(v6:Int):at0:=cond (decide (v6<((l.length:Nat):Int))) ( ax (aJ v6 l.length)<|(wP n (atZ l v6)).bind λcU=>ax ((!cU)||(!(decide (0<v6))||aJ (atY (v6-1)) l.length))<|ax ((!cU)||(!(decide (0<v6))||aJ v6 l.length))<|cond (cond (!cU) true (cond (decide (0<v6)) (!(Op.bytesLess (atZ l (atY (v6-1))) (atZ l v6))) false)) ( some false) ( ak (atY (v6+1)))) ( R8 n)
def Ad(n:Nat)(l:List atW):Nat→Int→at0
 | 0=>λ_=>none
 |m+1=>Km n l (Ad n l m)
def Ei(l:List atW):at0:=Ad n l n 0
def Ej(f:fg):at0:=cond f.ee ( some (cond (decide (((f.Reads.length:Nat):Int)=0)) (decide (((f.cA.length:Nat):Int)=0)) false)) ( Option.bind (cond (cond (decide (((f.Reads.length:Nat):Int)≤64)) (decide (((f.cA.length:Nat):Int)≤64)) false) (Ei n f.Reads) (some default)) λr2=>Option.bind (cond (cond (cond (decide (((f.Reads.length:Nat):Int)≤64)) (decide (((f.cA.length:Nat):Int)≤64)) false) r2 false) (Ei n f.cA) (some default)) λr3=>some (cond (cond (cond (decide (((f.Reads.length:Nat):Int)≤64)) (decide (((f.cA.length:Nat):Int)≤64)) false) r2 false) r3 false))
def R9(ag:Request):at1:=(Ej n ag.br).bind λeY=>cond (cond (cond (!eY) true ag.br.ee) true (cond (!ag.eN) (decide (0<(atY (((ag.br.Reads.length:Nat):Int)+((ag.br.cA.length:Nat):Int))))) false)) ( some 1) ( some 0)
def Kn(ag:Request)(ak:Int→at1)(v9:Int):at1:=cond (decide (v9<((ag.ar.length:Nat):Int))) ( ax (aJ v9 ag.ar.length)<|(uj n (atZ ag.ar v9)).bind λb4=>ax ((!b4)||aJ v9 ag.ar.length)<|cond (cond (!b4) true (decide ((atZ ag.ar v9).Kind=0))) ( some 1) ( ak (atY (v9+1)))) ( R9 n ag)
def wV(n:Nat)(ag:Request):Nat→Int→at1
 | 0=>λ_=>none
 |m+1=>Kn n ag (wV n ag m)
def Ko(ag:Request):at1:=cond (cond (cond (cond (decide (ag.Client<1)) true (decide (32<ag.Client))) true (decide (ag.Seq<1))) true (decide (1099511627776<ag.Seq))) ( some 1) ( (sO n ag.bc).bind λr2=>cond (!r2) ( some 7) ( cond (decide (6<((ag.ar.length:Nat):Int))) ( some 2) ( wV n ag n 0)))
def R'(n:Nat)(l:List Request):at0:=some (decide (((l.length:Nat):Int)≤64))
def Kp(l:List Request)(ak:Int→at0)(v4:Int):at0:=cond (decide (v4<((l.length:Nat):Int))) ( ax (aJ v4 l.length)<|(Ko n (atZ l v4)).bind λbO=>cond (!decide (bO=0)) ( some false) ( ak (atY (v4+1)))) ( R' n l)
def Ae(n:Nat)(l:List Request):Nat→Int→at0
 | 0=>λ_=>none
 |m+1=>Kp n l (Ae n l m)
def Kq(l:List Request):at0:=Ae n l n 0
def Kr(ag:b7):at0:=Option.bind (cond (cond (decide (0≤ag.Pos)) (decide (ag.Pos≤1099511627776)) false) (zR n ag.aB) (some default)) λr1=>Option.bind (cond (cond (cond (cond (decide (0≤ag.Pos)) (decide (ag.Pos≤1099511627776)) false) r1 false) (decide (ag.aB.b9=ag.Pos)) false) (Kl n ag.cq) (some default)) λr2=>Option.bind (cond (cond (cond (cond (cond (decide (0≤ag.Pos)) (decide (ag.Pos≤1099511627776)) false) r1 false) (decide (ag.aB.b9=ag.Pos)) false) r2 false) (JW n ag.c6) (some default)) λr3=>Option.bind (cond (cond (cond (cond (cond (cond (decide (0≤ag.Pos)) (decide (ag.Pos≤1099511627776)) false) r1 false) (decide (ag.aB.b9=ag.Pos)) false) r2 false) r3 false) (JP n ag.Place) (some default)) λbj=>Option.bind (cond (cond (cond (cond (cond (cond (cond (decide (0≤ag.Pos)) (decide (ag.Pos≤1099511627776)) false) r1 false) (decide (ag.aB.b9=ag.Pos)) false) r2 false) r3 false) bj false) (JR n ag.bi) (some default)) λbZ=>Option.bind (cond (cond (cond (cond (cond (cond (cond (cond (decide (0≤ag.Pos)) (decide (ag.Pos≤1099511627776)) false) r1 false) (decide (ag.aB.b9=ag.Pos)) false) r2 false) r3 false) bj false) bZ false) (Kq n ag.Queue) (some default)) λbO=>some (cond (cond (cond (cond (cond (cond (cond (cond (decide (0≤ag.Pos)) (decide (ag.Pos≤1099511627776)) false) r1 false) (decide (ag.aB.b9=ag.Pos)) false) r2 false) r3 false) bj false) bZ false) bO false)
def R_(n:Nat)(hO:Int)(v24:Int)(v25:atW):Option bp:=some (⟨hO,v24,v25⟩:bp)
def Ks(n:Nat)(ak:Int→Int→atW→Int→Option bp)(at_:Int)(cv:Int)(ag:Row)(dK:Int)(a1:Int)(cm:atW):Option bp:=ak dK a1 cm (atY (cv+1))
def Sa(at_:Int)(ag:Row)(ak:Int→Int→atW→Int→Option bp)(v10:Int)(v11:Int)(v12:atW)(cv:Int):Option bp:=cond (decide (cv<((ag.bl.length:Nat):Int))) ( ax (aJ cv ag.bl.length)<|cond (decide ((atZ ag.bl cv).ck≤at_)) ( ax (aJ cv ag.bl.length)<|Ks n ak at_ cv ag (((atZ ag.bl cv).bA).Kind) (((atZ ag.bl cv).bA).N) (((atZ ag.bl cv).bA).S)) ( Ks n ak at_ cv ag v10 v11 v12)) ( R_ n v10 v11 v12)
def Ek(n:Nat)(at_:Int)(ag:Row):Nat→Int→Int→atW→Int→Option bp
 | 0=>λ_ _ _ _=>none
 |m+1=>Sa n at_ ag (Ek n at_ ag m)
def Kt(ag:Row)(at_:Int):Option bp:=Ek n at_ ag n 0 0 ([]:atW) 0
def Sb(n:Nat)(a1:List bn):Option (List bn):=some a1
def El(n:Nat)(ak:(List bn)→Int→Option (List bn))(at_:Int)(v9:Int)(s:aB)(bD:List bn):Option (List bn):=ak bD (atY (v9+1))
def Sc(at_:Int)(s:aB)(ak:(List bn)→Int→Option (List bn))(bq:List bn)(v9:Int):Option (List bn):=cond (decide (v9<((s.Rows.length:Nat):Int))) ( ax (aJ v9 s.Rows.length)<|(Kt n (atZ s.Rows v9) at_).bind λb4=>cond (!decide (b4.Kind=0)) ( ax (aJ v9 s.Rows.length)<|ax (room (bq.length+([(⟨(atZ s.Rows v9).Key,b4⟩:bn)]:List bn).length) 48)<|El n ak at_ v9 s (bq++([(⟨(atZ s.Rows v9).Key,b4⟩:bn)]:List bn))) ( El n ak at_ v9 s bq)) ( Sb n bq)
def Af(n:Nat)(at_:Int)(s:aB):Nat→(List bn)→Int→Option (List bn)
 | 0=>λ_ _=>none
 |m+1=>Sc n at_ s (Af n at_ s m)
def Sd(s:aB)(at_:Int):Option (List bn):=Af n at_ s n ([]:List bn) 0
def Ku(s:aB)(at_:Int):Option ((List bn)×Int):=(zR n s).bind λr1=>cond (!r1) ( some (([]:List bn),1)) ( cond (cond (decide (at_<s.cl)) true (decide (s.b9<at_))) ( some (([]:List bn),15)) ( (Sd n s at_).bind λbj=>some (bj,0)))
def Kv(n:Nat)(nI:Expr→Int→at1)(v11:Int):at1:=some v11
def Kw(nI:Expr→Int→at1)(bJ:Int)(e:Expr)(ak:Int→Int→at1)(v5:Int)(v6:Int):at1:=cond (cond (decide (v6<((e.ar.length:Nat):Int))) (decide (v5≤bJ)) false) ( ax (aJ v6 e.ar.length)<|(nI (atZ e.ar v6) (atY (bJ-v5))).bind λcU=>ak (atY (v5+cU)) (atY (v6+1))) ( Kv n nI v5)
def Ag(n:Nat)(nI:Expr→Int→at1)(bJ:Int)(e:Expr):Nat→Int→Int→at1
 | 0=>λ_ _=>none
 |m+1=>Kw n nI bJ e (Ag n nI bJ e m)
def Kx(nI:Expr→Int→at1)(e:Expr)(bJ:Int):at1:=Ag n nI bJ e n (atY (1+(atY (Int.tdiv ((e.S.length:Nat):Int) 64)))) 0
def ro:Nat→Expr→Int→at1
 | 0=>λ_ _=>none
 |m+1=>Kx m (ro m)
def Se(n:Nat)(m':(List Stmt)→Int→at1)(v25:Int):at1:=some v25
def Sf(m':(List Stmt)→Int→at1)(l:List Stmt)(bJ:Int)(ak:Int→Int→at1)(v12:Int)(cv:Int):at1:=cond (cond (decide (cv<((l.length:Nat):Int))) (decide (v12≤bJ)) false) ( ax (aJ cv l.length)<|ax (aJ cv l.length)<|(ro n ((atZ l cv).A) (atY (bJ-(atY ((atY (v12+1))+(atY (Int.tdiv ((((atZ l cv).Name).length:Nat):Int) 64))))))).bind λeG=>ax (aJ cv l.length)<|(ro n ((atZ l cv).B) (atY (bJ-(atY ((atY ((atY (v12+1))+(atY (Int.tdiv ((((atZ l cv).Name).length:Nat):Int) 64))))+eG))))).bind λgt=>ax (aJ cv l.length)<|(m' ((atZ l cv).Body) (atY (bJ-(atY ((atY ((atY ((atY (v12+1))+(atY (Int.tdiv ((((atZ l cv).Name).length:Nat):Int) 64))))+eG))+gt))))).bind λeO=>ax (aJ cv l.length)<|(m' ((atZ l cv).bx) (atY (bJ-(atY ((atY ((atY ((atY ((atY (v12+1))+(atY (Int.tdiv ((((atZ l cv).Name).length:Nat):Int) 64))))+eG))+gt))+eO))))).bind λes=>ak (atY ((atY ((atY ((atY ((atY ((atY (v12+1))+(atY (Int.tdiv ((((atZ l cv).Name).length:Nat):Int) 64))))+eG))+gt))+eO))+es)) (atY (cv+1))) ( Se n m' v12)
def Em(n:Nat)(m':(List Stmt)→Int→at1)(l:List Stmt)(bJ:Int):Nat→Int→Int→at1
 | 0=>λ_ _=>none
 |m+1=>Sf n m' l bJ (Em n m' l bJ m)
def Sg(m':(List Stmt)→Int→at1)(l:List Stmt)(bJ:Int):at1:=Em n m' l bJ n 0 0
def Ah:Nat→(List Stmt)→Int→at1
 | 0=>λ_ _=>none
 |m+1=>Sg m (Ah m)
def Sh(bJ:Int)(p:bc):at0:=(Ah n p.Body bJ).bind λcS=>some (decide (cS≤bJ))
def Si(bJ:Int)(p:bc)(ak:Int→at0)(v4:Int):at0:=cond (decide (v4<((p.Params.length:Nat):Int))) ( ax (aJ v4 p.Params.length)<|cond (decide (200<((((atZ p.Params v4).Name).length:Nat):Int))) ( some false) ( ak (atY (v4+1)))) ( Sh n bJ p)
def En(n:Nat)(bJ:Int)(p:bc):Nat→Int→at0
 | 0=>λ_=>none
 |m+1=>Si n bJ p (En n bJ p m)
def Eo(p:bc)(bJ:Int):at0:=cond (cond (decide (40<((p.Params.length:Nat):Int))) true (decide (200<((p.Name.length:Nat):Int)))) ( some false) ( En n bJ p n 0)
def Sj(n:Nat):at0:=some true
def Sk(n:Nat)(ak:Int→at0)(bD:Int)(s:aB):at0:=ak (atY (bD+1))
def Ky(ak:Int→at0)(bD:Int)(s:aB)(d_:Int→at0)(v21:Int):at0:=ax (aJ bD s.Rows.length)<|cond (decide (v21<((((atZ s.Rows bD).bl).length:Nat):Int))) ( ax (aJ bD s.Rows.length)<|ax (aJ v21 ((atZ s.Rows bD).bl).length)<|cond (decide (200<(((((((atZ s.Rows bD).bl).getD (v21).toNat default).bA).S).length:Nat):Int))) ( some false) ( d_ (atY (v21+1)))) ( Sk n ak bD s)
def Ai(n:Nat)(ak:Int→at0)(bD:Int)(s:aB):Nat→Int→at0
 | 0=>λ_=>none
 |m+1=>Ky n ak bD s (Ai n ak bD s m)
def Kz(s:aB)(ak:Int→at0)(bD:Int):at0:=cond (decide (bD<((s.Rows.length:Nat):Int))) ( ax (aJ bD s.Rows.length)<|ax ((decide (12<((((atZ s.Rows bD).bl).length:Nat):Int)))||aJ bD s.Rows.length)<|cond (cond (decide (12<((((atZ s.Rows bD).bl).length:Nat):Int))) true (decide (200<((((atZ s.Rows bD).Key).length:Nat):Int)))) ( some false) ( Ai n ak bD s n 0)) ( Sj n)
def un(n:Nat)(s:aB):Nat→Int→at0
 | 0=>λ_=>none
 |m+1=>Kz n s (un n s m)
def KA(s:aB)(rows:Int):at0:=cond (decide (rows<((s.Rows.length:Nat):Int))) ( some false) ( un n s n 0)
def Sl(n:Nat):at0:=some true
def KB(f:fg)(eC:Int→at0)(v9:Int):at0:=cond (decide (v9<((f.cA.length:Nat):Int))) ( ax (aJ v9 f.cA.length)<|cond (decide (100<(((atZ f.cA v9).length:Nat):Int))) ( some false) ( eC (atY (v9+1)))) ( Sl n)
def wW(n:Nat)(f:fg):Nat→Int→at0
 | 0=>λ_=>none
 |m+1=>KB n f (wW n f m)
def Sm(f:fg):at0:=wW n f n 0
def KC(f:fg)(d_:Int→at0)(v4:Int):at0:=cond (decide (v4<((f.Reads.length:Nat):Int))) ( ax (aJ v4 f.Reads.length)<|cond (decide (100<(((atZ f.Reads v4).length:Nat):Int))) ( some false) ( d_ (atY (v4+1)))) ( Sm n f)
def Aj(n:Nat)(f:fg):Nat→Int→at0
 | 0=>λ_=>none
 |m+1=>KC n f (Aj n f m)
def wX(f:fg)(bJ:Int):at0:=cond (cond (decide (bJ<((f.Reads.length:Nat):Int))) true (decide (bJ<((f.cA.length:Nat):Int)))) ( some false) ( Aj n f n 0)
def Sn(n:Nat):at0:=some true
def KD(ag:Request)(ak:Int→at0)(v5:Int):at0:=cond (decide (v5<((ag.ar.length:Nat):Int))) ( ax (aJ v5 ag.ar.length)<|cond (decide (300<((((atZ ag.ar v5).S).length:Nat):Int))) ( some false) ( ak (atY (v5+1)))) ( Sn n)
def Ak(n:Nat)(ag:Request):Nat→Int→at0
 | 0=>λ_=>none
 |m+1=>KD n ag (Ak n ag m)
def Ep(ag:Request):at0:=Option.bind (cond (!(cond (decide (300<((ag.bc.length:Nat):Int))) true (decide (40<((ag.ar.length:Nat):Int))))) (wX n ag.br 100) (some default)) λr1=>cond (cond (cond (decide (300<((ag.bc.length:Nat):Int))) true (decide (40<((ag.ar.length:Nat):Int)))) true (!r1)) ( some false) ( Ak n ag n 0)
def KE(n:Nat)(hG:List bi)(p:cb):at0:=some (cond (decide (((p.aE.length:Nat):Int)≤20)) (decide (((hG.length:Nat):Int)≤40)) false)
def KF(hG:List bi)(p:cb)(eC:Int→at0)(v10:Int):at0:=cond (cond (decide (v10<((hG.length:Nat):Int))) (decide (v10<41)) false) ( ax (aJ v10 hG.length)<|cond (decide (200<((((atZ hG v10).Key).length:Nat):Int))) ( some false) ( eC (atY (v10+1)))) ( KE n hG p)
def wY(n:Nat)(hG:List bi)(p:cb):Nat→Int→at0
 | 0=>λ_=>none
 |m+1=>KF n hG p (wY n hG p m)
def So(hG:List bi)(p:cb):at0:=wY n hG p n 0
def KG(hG:List bi)(p:cb)(d_:Int→at0)(v4:Int):at0:=cond (cond (decide (v4<((p.aE.length:Nat):Int))) (decide (v4<21)) false) ( ax (aJ v4 p.aE.length)<|ax ((decide (200<((((atZ p.aE v4).ec).length:Nat):Int)))||aJ v4 p.aE.length)<|cond (cond (decide (200<((((atZ p.aE v4).ec).length:Nat):Int))) true (decide (200<((((atZ p.aE v4).gQ).length:Nat):Int)))) ( some false) ( d_ (atY (v4+1)))) ( So n hG p)
def Al(n:Nat)(hG:List bi)(p:cb):Nat→Int→at0
 | 0=>λ_=>none
 |m+1=>KG n hG p (Al n hG p m)
def Er(p:cb)(hG:List bi):at0:=Al n hG p n 0
def KH(n:Nat)(l:List bM):at0:=some (decide (((l.length:Nat):Int)≤6))
def Sp(n:Nat)(ak:Int→at0)(l:List bM)(c7:Int):at0:=ak (atY (c7+1))
def Sq(n:Nat)(d_:Int→at0)(ak:Int→at0)(l:List bM)(c7:Int)(gX:Int):at0:=d_ (atY (gX+1))
def KI(d_:Int→at0)(ak:Int→at0)(l:List bM)(c7:Int)(gX:Int)(re:Int→at0)(iY:Int):at0:=cond (decide (iY<(((((((atZ l c7).bK).getD (gX).toNat default).Outcome).Out).length:Nat):Int))) ( ax (aJ iY (((((atZ l c7).bK).getD (gX).toNat default).Outcome).Out).length)<|cond (decide (200<(((((((((atZ l c7).bK).getD (gX).toNat default).Outcome).Out).getD (iY).toNat default).S).length:Nat):Int))) ( some false) ( re (atY (iY+1)))) ( Sq n d_ ak l c7 gX)
def Am(n:Nat)(d_:Int→at0)(ak:Int→at0)(l:List bM)(c7:Int)(gX:Int):Nat→Int→at0
 | 0=>λ_=>none
 |m+1=>KI n d_ ak l c7 gX (Am n d_ ak l c7 gX m)
def KJ(ak:Int→at0)(l:List bM)(c7:Int)(d_:Int→at0)(gX:Int):at0:=ax (aJ c7 l.length)<|cond (decide (gX<((((atZ l c7).bK).length:Nat):Int))) ( ax (aJ c7 l.length)<|ax (aJ gX ((atZ l c7).bK).length)<|cond (decide (20<(((((((atZ l c7).bK).getD (gX).toNat default).Outcome).Out).length:Nat):Int))) ( some false) ( Am n d_ ak l c7 gX n 0)) ( Sp n ak l c7)
def uo(n:Nat)(ak:Int→at0)(l:List bM)(c7:Int):Nat→Int→at0
 | 0=>λ_=>none
 |m+1=>KJ n ak l c7 (uo n ak l c7 m)
def KK(l:List bM)(ak:Int→at0)(c7:Int):at0:=cond (cond (decide (c7<((l.length:Nat):Int))) (decide (c7<7)) false) ( ax (aJ c7 l.length)<|cond (decide (12<((((atZ l c7).bK).length:Nat):Int))) ( some false) ( uo n ak l c7 n 0)) ( KH n l)
def qd(n:Nat)(l:List bM):Nat→Int→at0
 | 0=>λ_=>none
 |m+1=>KK n l (qd n l m)
def Es(l:List bM):at0:=qd n l n 0
def Sr(n:Nat):at0:=some true
def KL(ag:b7)(eC:Int→at0)(bB:Int):at0:=cond (decide (bB<((ag.Queue.length:Nat):Int))) ( ax (aJ bB ag.Queue.length)<|(Ep n (atZ ag.Queue bB)).bind λeZ=>cond (!eZ) ( some false) ( eC (atY (bB+1)))) ( Sr n)
def wZ(n:Nat)(ag:b7):Nat→Int→at0
 | 0=>λ_=>none
 |m+1=>KL n ag (wZ n ag m)
def Ss(ag:b7):at0:=wZ n ag n 0
def KM(ag:b7)(d_:Int→at0)(bq:Int):at0:=cond (decide (bq<((ag.cq.length:Nat):Int))) ( ax (aJ bq ag.cq.length)<|(Eo n (atZ ag.cq bq) 60).bind λdg=>cond (!dg) ( some false) ( d_ (atY (bq+1)))) ( Ss n ag)
def An(n:Nat)(ag:b7):Nat→Int→at0
 | 0=>λ_=>none
 |m+1=>KM n ag (An n ag m)
def Et(ag:b7):at0:=(KA n ag.aB 12).bind λr1=>Option.bind (cond (!(cond (cond (!r1) true (decide (4<((ag.cq.length:Nat):Int)))) true (decide (6<((ag.Queue.length:Nat):Int))))) (Es n ag.c6) (some default)) λr2=>Option.bind (cond (!(cond (cond (cond (!r1) true (decide (4<((ag.cq.length:Nat):Int)))) true (decide (6<((ag.Queue.length:Nat):Int)))) true (!r2))) (Er n ag.Place ag.bi) (some default)) λr3=>cond (cond (cond (cond (cond (!r1) true (decide (4<((ag.cq.length:Nat):Int)))) true (decide (6<((ag.Queue.length:Nat):Int)))) true (!r2)) true (!r3)) ( some false) ( An n ag n 0)
def St(n:Nat):at0:=some true
def KN(l:List bn)(ak:Int→at0)(v6:Int):at0:=cond (decide (v6<((l.length:Nat):Int))) ( ax (aJ v6 l.length)<|(wP n ((atZ l v6).Key)).bind λcU=>ax ((!cU)||(!(decide (0<v6))||aJ v6 l.length))<|ax ((!cU)||(!(decide (0<v6))||aJ (atY (v6-1)) l.length))<|cond (cond (!cU) true (cond (decide (0<v6)) ((Op.bytesLess ((atZ l v6).Key) ((atZ l (atY (v6-1))).Key))||(decide (((atZ l v6).Key)=((atZ l (atY (v6-1))).Key)))) false)) ( some false) ( ak (atY (v6+1)))) ( St n)
def Ao(n:Nat)(l:List bn):Nat→Int→at0
 | 0=>λ_=>none
 |m+1=>KN n l (Ao n l m)
def KO(l:List bn):at0:=Ao n l n 0
def Su(l:List bn):at0:=(KO n l).bind λcU=>some cU
def KP(l:List bn)(ak:Int→at0)(v4:Int):at0:=cond (decide (v4<((l.length:Nat):Int))) ( ax (aJ v4 l.length)<|(uj n ((atZ l v4).bA)).bind λbO=>cond (!bO) ( some false) ( ak (atY (v4+1)))) ( Su n l)
def Ap(n:Nat)(l:List bn):Nat→Int→at0
 | 0=>λ_=>none
 |m+1=>KP n l (Ap n l m)
def KQ(l:List bn):at0:=Ap n l n 0
def Sv(l:List bn):at0:=(KQ n l).bind λbO=>some bO
def KR(l:List bn)(ak:Int→at0)(v3:Int):at0:=cond (decide (v3<((l.length:Nat):Int))) ( ax (aJ v3 l.length)<|cond (decide (((atZ l v3).bA).Kind=0)) ( some false) ( ak (atY (v3+1)))) ( Sv n l)
def Aq(n:Nat)(l:List bn):Nat→Int→at0
 | 0=>λ_=>none
 |m+1=>KR n l (Aq n l m)
def KS(l:List bn):at0:=Aq n l n 0
def Sw(n:Nat)(at_:Int)(bB:List Row):Option (aB×Int):=some ((⟨at_,at_,bB⟩:aB),0)
def KT(l:List bn)(at_:Int)(ak:(List Row)→Int→Option (aB×Int))(bq:List Row)(v9:Int):Option (aB×Int):=cond (decide (v9<((l.length:Nat):Int))) ( ax (aJ v9 l.length)<|ax (aJ v9 l.length)<|ax (room (bq.length+([(⟨(atZ l v9).Key,[⟨at_,⟨((atZ l v9).bA).Kind,((atZ l v9).bA).N,((atZ l v9).bA).S⟩⟩]⟩:Row)]:List Row).length) 40)<|ak (bq++([(⟨(atZ l v9).Key,[⟨at_,⟨((atZ l v9).bA).Kind,((atZ l v9).bA).N,((atZ l v9).bA).S⟩⟩]⟩:Row)]:List Row)) (atY (v9+1))) ( Sw n at_ bq)
def Ar(n:Nat)(l:List bn)(at_:Int):Nat→(List Row)→Int→Option (aB×Int)
 | 0=>λ_ _=>none
 |m+1=>KT n l at_ (Ar n l at_ m)
def Eu(l:List bn)(at_:Int):Option (aB×Int):=(KS n l).bind λr1=>cond (cond (cond (!r1) true (decide (at_<0))) true (decide (1099511627776<at_))) ( some ((⟨0,0,[]⟩:aB),1)) ( Ar n l at_ n ([]:List Row) 0)
def Yw(n:Nat)(v11:Int):at1:=some v11
def Sx(n:Nat)(ak:Int→Int→at1)(s:atW)(at_:Int)(v6:Int)(bq:Int):at1:=ak bq (atY (v6+1))
def Yx(s:atW)(at_:Int)(ak:Int→Int→at1)(v5:Int)(v6:Int):at1:=cond (decide (v6<at_)) ( ax (aJ v6 s.length)<|cond (decide ((((s.getD (v6).toNat 0).toNat:Nat):Int)=10)) ( Sx n ak s at_ v6 (atY (v5+1))) ( Sx n ak s at_ v6 v5)) ( Yw n v5)
def KU(n:Nat)(s:atW)(at_:Int):Nat→Int→Int→at1
 | 0=>λ_ _=>none
 |m+1=>Yx n s at_ (KU n s at_ m)
def Sy(s:atW)(at_:Int):at1:=KU n s at_ n 0 0
def Yy(n:Nat)(c7:Int):at1:=some c7
def Yz(n:Nat)(ak:Int→at1)(s:atW)(eC:Int→at1)(bB:Int):at1:=ax (!(decide (bB<((s.length:Nat):Int)))||aJ bB s.length)<|cond (cond (decide (bB<((s.length:Nat):Int))) (!decide ((((s.getD (bB).toNat 0).toNat:Nat):Int)=10)) false) ( eC (atY (bB+1))) ( ak bB)
def KV(n:Nat)(ak:Int→at1)(s:atW):Nat→Int→at1
 | 0=>λ_=>none
 |m+1=>Yz n ak s (KV n ak s m)
def YA(s:atW)(ak:Int→at1)(v11:Int):at1:=cond (decide (v11<((s.length:Nat):Int))) ( ax (aJ v11 s.length)<|cond (decide ((((s.getD (v11).toNat 0).toNat:Nat):Int)=35)) ( KV n ak s n v11) ( ax (aJ v11 s.length)<|ax ((decide ((((s.getD (v11).toNat 0).toNat:Nat):Int)=32))||aJ v11 s.length)<|ax ((cond (decide ((((s.getD (v11).toNat 0).toNat:Nat):Int)=32)) true (decide ((((s.getD (v11).toNat 0).toNat:Nat):Int)=9)))||aJ v11 s.length)<|cond (cond (cond (decide ((((s.getD (v11).toNat 0).toNat:Nat):Int)=32)) true (decide ((((s.getD (v11).toNat 0).toNat:Nat):Int)=9))) true (decide ((((s.getD (v11).toNat 0).toNat:Nat):Int)=10))) ( ak (atY (v11+1))) ( some v11))) ( Yy n v11)
def KW(n:Nat)(s:atW):Nat→Int→at1
 | 0=>λ_=>none
 |m+1=>YA n s (KW n s m)
def KX(s:atW)(at_:Int):at1:=KW n s n at_
def YB(n:Nat):Option (List atW):=some ([([61,61]:atW),([33,61]:atW),([60,61]:atW),([62,61]:atW),([43,43]:atW),([40]:atW),([41]:atW),([123]:atW),([125]:atW),([44]:atW),([59]:atW),([58]:atW),([61]:atW),([60]:atW),([62]:atW),([43]:atW),([45]:atW),([42]:atW),([47]:atW),([37]:atW)]:List atW)
def YC(n:Nat)(s:atW):at0:=ax (!(decide (0<((s.length:Nat):Int)))||aJ 0 s.length)<|some (cond (decide (0<((s.length:Nat):Int))) (cond (!decide ((((s.getD 0 0).toNat:Nat):Int)=48)) true (decide (((s.length:Nat):Int)=1))) false)
def YD(s:atW)(ak:Int→at0)(v4:Int):at0:=cond (decide (v4<((s.length:Nat):Int))) ( ax (aJ v4 s.length)<|ax ((decide ((((s.getD (v4).toNat 0).toNat:Nat):Int)<48))||aJ v4 s.length)<|cond (cond (decide ((((s.getD (v4).toNat 0).toNat:Nat):Int)<48)) true (decide (57<(((s.getD (v4).toNat 0).toNat:Nat):Int)))) ( some false) ( ak (atY (v4+1)))) ( YC n s)
def Ev(n:Nat)(s:atW):Nat→Int→at0
 | 0=>λ_=>none
 |m+1=>YD n s (Ev n s m)
def YE(s:atW):at0:=Ev n s n 0
def YF(n:Nat)(s:atW)(bB:Int):Option (Int×Int):=cond (cond (decide (0<((s.length:Nat):Int))) (decide ((((s.getD 0 0).toNat:Nat):Int)=45)) false) ( some ((atY (IntKind.u64.wrap (0-bB))),0)) ( some ((atY bB),0))
def YG(s:atW)(v3:atW)(v4:Int)(eC:Int→Int→Option (Int×Int))(v10:Int)(v11:Int):Option (Int×Int):=cond (decide (v11<((v3.length:Nat):Int))) ( ax (aJ v11 v3.length)<|cond (decide ((IntKind.u64.wrap (Int.tdiv (IntKind.u64.wrap (v4-(IntKind.u64.wrap (IntKind.u8.wrap ((((v3.getD (v11).toNat 0).toNat:Nat):Int)-48))))) 10))<v10)) ( some (0,3)) ( eC (IntKind.u64.wrap ((IntKind.u64.wrap (v10*10))+(IntKind.u64.wrap (IntKind.u8.wrap ((((v3.getD (v11).toNat 0).toNat:Nat):Int)-48))))) (atY (v11+1)))) ( YF n s v10)
def KY(n:Nat)(s:atW)(v3:atW)(v4:Int):Nat→Int→Int→Option (Int×Int)
 | 0=>λ_ _=>none
 |m+1=>YG n s v3 v4 (KY n s v3 v4 m)
def Sz(s:atW)(v3:atW)(v4:Int):Option (Int×Int):=(YE n v3).bind λbZ=>cond (cond (!bZ) true (cond (cond (decide (0<((s.length:Nat):Int))) (decide ((((s.getD 0 0).toNat:Nat):Int)=45)) false) (decide (v3=([48]:atW))) false)) ( some (0,5)) ( KY n s v3 v4 n 0 0)
def SA(s:atW):Option (Int×Int):=ax (!(decide (0<((s.length:Nat):Int)))||aJ 0 s.length)<|cond (cond (decide (0<((s.length:Nat):Int))) (decide ((((s.getD 0 0).toNat:Nat):Int)=45)) false) ( ax (hh 1 s.length)<|Sz n s (s.drop 1) 9223372036854775808) ( Sz n s s 9223372036854775807)
def SB(w:atW):Option (Token×Int):=ax (aJ 0 w.length)<|(zY n (((w.getD 0 0).toNat:Nat):Int)).bind λr2=>cond r2 ( (D4 n w).bind λbj=>cond bj ( some ((⟨2,w,0,0⟩:Token),0)) ( (sO n w).bind λbO=>cond bO ( some ((⟨1,w,0,0⟩:Token),0)) ( some ((⟨0,[],0,0⟩:Token),2)))) ( (SA n w).bind λcU=>cond (!decide (cU.2=0)) ( some ((⟨0,[],0,0⟩:Token),cU.2)) ( some ((⟨3,[],cU.1,0⟩:Token),0)))
def YH(n:Nat)(cW:Int):Option (atW×Int×Int):=some (([]:atW),cW,6)
def SC(n:Nat)(ak:Int→atW→Option (atW×Int×Int))(s:atW)(v10:atW)(bD:Int):Option (atW×Int×Int):=cond (decide (((v10.length:Nat):Int)=64)) ( some (([]:atW),bD,2)) ( ax (lU bD (atY (bD+1)) s.length)<|ax (b0 (v10.length+((s.take ((atY (bD+1))).toNat).drop (bD).toNat).length))<|ak (atY (bD+1)) (v10++((s.take ((atY (bD+1))).toNat).drop (bD).toNat)))
def YI(s:atW)(ak:Int→atW→Option (atW×Int×Int))(v9:Int)(v10:atW):Option (atW×Int×Int):=cond (decide (v9<((s.length:Nat):Int))) ( ax (aJ v9 s.length)<|cond (decide ((((s.getD (v9).toNat 0).toNat:Nat):Int)=34)) ( some (v10,(atY (v9+1)),0)) ( cond (decide ((((s.getD (v9).toNat 0).toNat:Nat):Int)=92)) ( cond (decide ((atY (v9+1))=((s.length:Nat):Int))) ( some (([]:atW),(atY (v9+1)),6)) ( ax (aJ (atY (v9+1)) s.length)<|ax (!(!decide ((((s.getD ((atY (v9+1))).toNat 0).toNat:Nat):Int)=34))||aJ (atY (v9+1)) s.length)<|cond (cond (!decide ((((s.getD ((atY (v9+1))).toNat 0).toNat:Nat):Int)=34)) (!decide ((((s.getD ((atY (v9+1))).toNat 0).toNat:Nat):Int)=92)) false) ( some (([]:atW),(atY (v9+1)),5)) ( SC n ak s v10 (atY (v9+1))))) ( cond (cond (decide ((((s.getD (v9).toNat 0).toNat:Nat):Int)<32)) true (decide (126<(((s.getD (v9).toNat 0).toNat:Nat):Int)))) ( some (([]:atW),v9,5)) ( SC n ak s v10 v9)))) ( YH n v9)
def KZ(n:Nat)(s:atW):Nat→Int→atW→Option (atW×Int×Int)
 | 0=>λ_ _=>none
 |m+1=>YI n s (KZ n s m)
def YJ(s:atW)(at_:Int):Option (atW×Int×Int):=KZ n s n (atY (at_+1)) ([]:atW)
def YK(n:Nat)(at_:Int):Option (Token×Int×Int):=some ((⟨0,[],0,0⟩:Token),at_,5)
def YL(s:atW)(at_:Int)(dg:(List atW))(ak:Int→Option (Token×Int×Int))(cm:Int):Option (Token×Int×Int):=cond (decide (cm<((dg.length:Nat):Int))) ( ax (aJ cm dg.length)<|ax (!(decide ((atY (at_+(((atZ dg cm).length:Nat):Int)))≤((s.length:Nat):Int)))||aJ cm dg.length)<|ax (!(decide ((atY (at_+(((atZ dg cm).length:Nat):Int)))≤((s.length:Nat):Int)))||lU at_ (atY (at_+(((atZ dg cm).length:Nat):Int))) s.length)<|ax (!(decide ((atY (at_+(((atZ dg cm).length:Nat):Int)))≤((s.length:Nat):Int)))||aJ cm dg.length)<|cond (cond (decide ((atY (at_+(((atZ dg cm).length:Nat):Int)))≤((s.length:Nat):Int))) (decide (((s.take ((atY (at_+(((atZ dg cm).length:Nat):Int)))).toNat).drop (at_).toNat)=(atZ dg cm))) false) ( ax (aJ cm dg.length)<|ax (aJ cm dg.length)<|some ((⟨5,(atZ dg cm),0,0⟩:Token),(atY (at_+(((atZ dg cm).length:Nat):Int))),0)) ( ak (atY (cm+1)))) ( YK n at_)
def Ew(n:Nat)(s:atW)(at_:Int)(dg:(List atW)):Nat→Int→Option (Token×Int×Int)
 | 0=>λ_=>none
 |m+1=>YL n s at_ dg (Ew n s at_ dg m)
def SD(s:atW)(at_:Int):Option (Token×Int×Int):=ax (aJ at_ s.length)<|cond (decide ((((s.getD (at_).toNat 0).toNat:Nat):Int)=34)) ( (YJ n s at_).bind λr3=>some ((⟨4,r3.1,0,0⟩:Token),r3.2.1,r3.2.2)) ( ax (aJ at_ s.length)<|(D5 n (((s.getD (at_).toNat 0).toNat:Nat):Int)).bind λbZ=>cond bZ ( (JX n s at_).bind λcS=>ax (lU at_ cS s.length)<|(SB n ((s.take (cS).toNat).drop (at_).toNat)).bind λcP=>some (cP.1,cS,cP.2)) ( (YB n).bind λdg=>Ew n s at_ dg n 0))
def YM(n:Nat)(a1:List Token):Option ((List Token)×Int×Int):=some (a1,0,0)
def SE(src:atW)(ak:(List Token)→Int→Option ((List Token)×Int×Int))(v9:List Token)(v10:Int):Option ((List Token)×Int×Int):=cond (decide (v10<((src.length:Nat):Int))) ( (Sy n src v10).bind λb4=>(SD n src v10).bind λeT=>cond (!decide (eT.2.2=0)) ( some (([]:List Token),(atY (b4+1)),eT.2.2)) ( ax (room (v9.length+([(⟨eT.1.Kind,eT.1.Text,eT.1.N,(atY (b4+1))⟩:Token)]:List Token).length) 40)<|(KX n src eT.2.1).bind λeY=>ak (v9++([(⟨eT.1.Kind,eT.1.Text,eT.1.N,(atY (b4+1))⟩:Token)]:List Token)) eY)) ( YM n v9)
def Ex(n:Nat)(src:atW):Nat→(List Token)→Int→Option ((List Token)×Int×Int)
 | 0=>λ_ _=>none
 |m+1=>SE n src (Ex n src m)
def YN(src:atW):Option ((List Token)×Int×Int):=cond (decide (16384<((src.length:Nat):Int))) ( some (([]:List Token),0,2)) ( (KX n src 0).bind λr2=>Ex n src n ([]:List Token) r2)
def K0(ag:b7):Option (b7×Int):=(Kr n ag).bind λr1=>cond (!r1) ( some ((⟨0,⟨0,0,[]⟩,[],[],⟨0,[]⟩,[],[],0⟩:b7),1)) ( (Ku n ag.aB ag.Pos).bind λr3=>(Eu n r3.1 ag.Pos).bind λbj=>some ((⟨ag.Pos,bj.1,ag.cq,ag.c6,ag.Place,ag.bi,ag.Queue,ag.dA⟩:b7),0))
def As(ag:b7):Option (b7×Int):=(rh n ag).bind λr1=>cond (!r1) ( some ((⟨0,⟨0,0,[]⟩,[],[],⟨0,[]⟩,[],[],0⟩:b7),1)) ( (sE n ag).bind λr3=>(DS n r3).bind λbj=>some (bj.1,bj.2))
def SF(ag:b7):at0:=(Et n ag).bind λr1=>cond (!r1) ( (JF n).bind λr3=>some r3) ( (As n ag).bind λbj=>(K0 n ag).bind λbZ=>(DY n bj.1 bZ.1).bind λbO=>Option.bind (cond (cond bO (decide (bj.2=bZ.2)) false) (JF n) (some default)) λcS=>some (cond (cond bO (decide (bj.2=bZ.2)) false) cS false))
end Go.Ab.Y

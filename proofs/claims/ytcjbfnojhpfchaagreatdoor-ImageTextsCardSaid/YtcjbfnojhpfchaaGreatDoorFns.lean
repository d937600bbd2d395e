/- What each function computes, over plain data, with fuel. Printed by a program. -/
import Derived.Test.YtcjbfnojhpfchaaGreatDoorHand
set_option linter.all false
namespace Go.Ab.Y
open Go Go.Ab Go.Proofs
variable (n:Nat)
def LV(n:Nat)(c:Int):ans:=some (cond (cond (cond (cond (cond (cond (decide (97≤c)) (decide (c≤122)) false) true (cond (decide (48≤c)) (decide (c≤57)) false)) true (decide (c=47))) true (decide (c=46))) true (decide (c=95))) true (decide (c=45)))
def LW(n:Nat):ans:=some true
def FB(s:ano)(al:Int→ans)(v5:Int):ans:=cond (decide (v5<((s.length:Nat):Int))) ( aq (aH v5 s.length)<|(LV n (((s.getD (v5).toNat 0).toNat:Nat):Int)).bind λbD=>cond (!bD) ( some false) ( al (anq (v5+1)))) ( LW n)
def xK(n:Nat)(s:ano):Nat→Int→ans
 | 0=>λ_=>none
 |m+1=>FB n s (xK n s m)
def FC(s:ano):ans:=cond (decide (24<((s.length:Nat):Int))) ( some false) ( xK n s n 0)
def vm(k:ano):ans:=Option.bind (cond (!(decide (k=([]:ano)))) (FC n k) (some default)) λr1=>some (cond (!(decide (k=([]:ano)))) r1 false)
def LX(n:Nat)(l:List ano):ans:=some (decide (((l.length:Nat):Int)≤64))
def FD(l:List ano)(al:Int→ans)(v5:Int):ans:=cond (decide (v5<((l.length:Nat):Int))) ( aq (aH v5 l.length)<|(vm n (anr l v5)).bind λbD=>aq ((!bD)||(!(decide (0<v5))||aH (anq (v5-1)) l.length))<|cond (cond (!bD) true (cond (decide (0<v5)) ((Op.bytesLess (anr l v5) (anr l (anq (v5-1))))||(decide ((anr l v5)=(anr l (anq (v5-1)))))) false)) ( some false) ( al (anq (v5+1)))) ( LX n l)
def xL(n:Nat)(l:List ano):Nat→Int→ans
 | 0=>λ_=>none
 |m+1=>FD n l (xL n l m)
def Ba(l:List ano):ans:=xL n l n 0
def Bb(f:gS):ans:=cond f.fo ( some (cond (decide (((f.Reads.length:Nat):Int)=0)) (decide (((f.es.length:Nat):Int)=0)) false)) ( (Ba n f.Reads).bind λr2=>Option.bind (cond r2 (Ba n f.es) (some default)) λr3=>some (cond r2 r3 false))
def LY(n:Nat):ans:=some false
def h1(v1:Bool):ans:=cond v1 ( some true) ( LY n)
def Bc(s:ano):ans:=cond (decide (s=([112,114,111,99]:ano))) ( h1 n (decide (s=([112,114,111,99]:ano)))) ( cond (decide (s=([108,101,116]:ano))) ( h1 n (decide (s=([108,101,116]:ano)))) ( cond (decide (s=([112,117,116]:ano))) ( h1 n (decide (s=([112,117,116]:ano)))) ( cond (decide (s=([100,101,108,101,116,101]:ano))) ( h1 n (decide (s=([100,101,108,101,116,101]:ano)))) ( cond (decide (s=([105,102]:ano))) ( h1 n (decide (s=([105,102]:ano)))) ( cond (decide (s=([101,108,115,101]:ano))) ( h1 n (decide (s=([101,108,115,101]:ano)))) ( cond (decide (s=([102,111,114]:ano))) ( h1 n (decide (s=([102,111,114]:ano)))) ( cond (decide (s=([116,111]:ano))) ( h1 n (decide (s=([116,111]:ano)))) ( cond (decide (s=([109,97,120]:ano))) ( h1 n (decide (s=([109,97,120]:ano)))) ( cond (decide (s=([101,109,105,116]:ano))) ( h1 n (decide (s=([101,109,105,116]:ano)))) ( cond (decide (s=([97,98,111,114,116]:ano))) ( h1 n (decide (s=([97,98,111,114,116]:ano)))) ( cond (decide (s=([110,111,116]:ano))) ( h1 n (decide (s=([110,111,116]:ano)))) ( cond (decide (s=([97,110,100]:ano))) ( h1 n (decide (s=([97,110,100]:ano)))) ( cond (decide (s=([111,114]:ano))) ( h1 n (decide (s=([111,114]:ano)))) ( cond (decide (s=([105,110,116]:ano))) ( h1 n (decide (s=([105,110,116]:ano)))) ( cond (decide (s=([115,116,114]:ano))) ( h1 n (decide (s=([115,116,114]:ano)))) ( cond (decide (s=([98,111,111,108]:ano))) ( h1 n (decide (s=([98,111,111,108]:ano)))) ( cond (decide (s=([116,101,120,116]:ano))) ( h1 n (decide (s=([116,101,120,116]:ano)))) ( cond (decide (s=([108,101,110]:ano))) ( h1 n (decide (s=([108,101,110]:ano)))) ( cond (decide (s=([103,101,116,105,110,116]:ano))) ( h1 n (decide (s=([103,101,116,105,110,116]:ano)))) ( cond (decide (s=([103,101,116,115,116,114]:ano))) ( h1 n (decide (s=([103,101,116,115,116,114]:ano)))) ( cond (decide (s=([104,97,115]:ano))) ( h1 n (decide (s=([104,97,115]:ano)))) ( cond (decide (s=([110,111,119]:ano))) ( h1 n (decide (s=([110,111,119]:ano)))) ( cond (decide (s=([114,97,110,100,111,109]:ano))) ( h1 n (decide (s=([114,97,110,100,111,109]:ano)))) ( h1 n (decide (s=([110,111,100,101]:ano)))))))))))))))))))))))))))
def Bd(n:Nat)(c:Int):ans:=some (cond (decide (97≤c)) (decide (c≤122)) false)
def rH(s:ano):ans:=aq (!(cond (!(decide (s=([]:ano)))) (decide (((s.length:Nat):Int)≤16)) false)||aH 0 s.length)<|Option.bind (cond (cond (!(decide (s=([]:ano)))) (decide (((s.length:Nat):Int)≤16)) false) (Bd n (IntKind.i32.wrap (((s.getD 0 0).toNat:Nat):Int))) (some default)) λr2=>Option.bind (cond (cond (cond (!(decide (s=([]:ano)))) (decide (((s.length:Nat):Int)≤16)) false) r2 false) (xH n s) (some default)) λr3=>Option.bind (cond (cond (cond (cond (!(decide (s=([]:ano)))) (decide (((s.length:Nat):Int)≤16)) false) r2 false) (decide (r3=((s.length:Nat):Int))) false) (Bc n s) (some default)) λbc=>some (cond (cond (cond (cond (!(decide (s=([]:ano)))) (decide (((s.length:Nat):Int)≤16)) false) r2 false) (decide (r3=((s.length:Nat):Int))) false) (!bc) false)
def Up(n:Nat)(s:ano):ans:=some (decide (((s.length:Nat):Int)≤64))
def LZ(s:ano)(al:Int→ans)(v4:Int):ans:=cond (decide (v4<((s.length:Nat):Int))) ( aq (aH v4 s.length)<|aq ((decide ((((s.getD (v4).toNat 0).toNat:Nat):Int)<32))||aH v4 s.length)<|cond (cond (decide ((((s.getD (v4).toNat 0).toNat:Nat):Int)<32)) true (decide (126<(((s.getD (v4).toNat 0).toNat:Nat):Int)))) ( some false) ( al (anq (v4+1)))) ( Up n s)
def Be(n:Nat)(s:ano):Nat→Int→ans
 | 0=>λ_=>none
 |m+1=>LZ n s (Be n s m)
def Bf(s:ano):ans:=Be n s n 0
def rI(v:br):ans:=cond (decide (v.Kind=0)) ( some ((decide (v.Kind=0))&&((decide (v.N=0))&&((decide (v.S=([]:ano)))&&true)))) ( cond (decide (v.Kind=1)) ( some (decide (v.S=([]:ano)))) ( cond (decide (v.Kind=2)) ( Option.bind (cond (decide (v.N=0)) (Bf n v.S) (some default)) λbc=>some (cond (decide (v.N=0)) bc false)) ( some false)))
def L0(v:br):ans:=Option.bind (cond (!(decide (v.Kind=0))) (rI n v) (some default)) λr1=>some (cond (decide (v.Kind=0)) true (!r1))
def L1(n:Nat):ant:=some (-1)
def FE(s:List br)(al:Int→ant)(v4:Int):ant:=cond (decide (v4<((s.length:Nat):Int))) ( aq (aH v4 s.length)<|(L0 n (anr s v4)).bind λbe=>cond be ( some v4) ( al (anq (v4+1)))) ( L1 n)
def xM(n:Nat)(s:List br):Nat→Int→ant
 | 0=>λ_=>none
 |m+1=>FE n s (xM n s m)
def L2(s:List br):ant:=xM n s n 0
def L3(s:List br):ans:=(L2 n s).bind λr1=>some (decide (0≤r1))
def qu(ar:Request):ant:=cond (cond (cond (cond (decide (ar.Client<1)) true (decide (32<ar.Client))) true (decide (ar.Seq<1))) true (decide (1099511627776<ar.Seq))) ( some 1) ( (rH n ar.aZ).bind λr2=>cond (!r2) ( some 7) ( cond (decide (6<((ar.ao.length:Nat):Int))) ( some 2) ( (L3 n ar.ao).bind λbQ=>cond bQ ( some 1) ( (Bb n ar.bW).bind λbD=>cond (cond (cond (!bD) true ar.bW.fo) true (cond (!ar.fv) (decide (0<(anq (((ar.bW.Reads.length:Nat):Int)+((ar.bW.es.length:Nat):Int))))) false)) ( some 1) ( some 0)))))
def FF(n:Nat)(b:List Int)(c:Int):Option (List Int):=aq (room (b.length+([c]:List Int).length) 1)<|some (b++([c]:List Int))
def L4(v9:Int)(v10:List Int):Option ano:=(FF n v10 (IntKind.u8.wrap v9)).bind λbz=>aq (mZ bz)<|some (jP bz)
def L5(al:Int→(List Int)→Option ano)(v4:Int)(v5:List Int):Option ano:=cond (decide (128≤v4)) ( (FF n v5 (p3 .u8 (IntKind.u8.wrap v4) 128)).bind λbe=>al (mN .u64 v4 7) be) ( L4 n v4 v5)
def Bg(n:Nat):Nat→Int→(List Int)→Option ano
 | 0=>λ_ _=>none
 |m+1=>L5 n (Bg n m)
def hf(u:Int):Option ano:=Bg n n u ([]:List Int)
def pA(s:ano):Option ano:=(hf n (IntKind.u64.wrap ((s.length:Nat):Int))).bind λr1=>aq (bM (r1.length+s.length))<|some (r1++s)
def L6(n:Nat)(b0:ano):Option ano:=some b0
def FG(l:List ano)(al:Int→ano→Option ano)(bu:Int)(bG:ano):Option ano:=cond (decide (bu<((l.length:Nat):Int))) ( aq (aH bu l.length)<|(pA n (anr l bu)).bind λc_=>aq (bM (bG.length+c_.length))<|al (anq (bu+1)) (bG++c_)) ( L6 n bG)
def xN(n:Nat)(l:List ano):Nat→Int→ano→Option ano
 | 0=>λ_ _=>none
 |m+1=>FG n l (xN n l m)
def Bh(l:List ano):Option ano:=(hf n (IntKind.u64.wrap ((l.length:Nat):Int))).bind λr1=>xN n l n 0 r1
def pB(dZ:Int):Option ano:=(hf n (mi .u64 (oq .u64 (IntKind.u64.wrap dZ) 1) (IntKind.u64.wrap (mN .i64 dZ 63)))).bind λr1=>some r1
def vn(v:br):Option ano:=cond (decide (v.Kind=1)) ( (hf n 1).bind λr2=>(pB n v.N).bind λr3=>aq (bM (r2.length+r3.length))<|some (r2++r3)) ( cond (decide (v.Kind=2)) ( (hf n 2).bind λbe=>(pA n v.S).bind λbD=>aq (bM (be.length+bD.length))<|some (be++bD)) ( (hf n 0).bind λb4=>some b4))
def L7(n:Nat)(b:Bool):Option ano:=cond b ( some ([1]:ano)) ( some ([0]:ano))
def Bi(n:Nat)(h2:ano):Option ano:=some h2
def Bj(ar:Request)(fO:ano):Option ano:=(L7 n ar.fv).bind λdU=>aq (bM (fO.length+dU.length))<|cond ar.fv ( (Bh n ar.bW.Reads).bind λfa=>(Bh n ar.bW.es).bind λr26=>aq (bM (fa.length+r26.length))<|aq (bM ((fO++dU).length+(fa++r26).length))<|Bi n ((fO++dU)++(fa++r26))) ( Bi n (fO++dU))
def FH(ar:Request)(e4:ano→Int→Option ano)(cB:ano)(de:Int):Option ano:=cond (decide (de<((ar.ao.length:Nat):Int))) ( aq (aH de ar.ao.length)<|(vn n (anr ar.ao de)).bind λeC=>aq (bM (cB.length+eC.length))<|e4 (cB++eC) (anq (de+1))) ( Bj n ar cB)
def xO(n:Nat)(ar:Request):Nat→ano→Int→Option ano
 | 0=>λ_ _=>none
 |m+1=>FH n ar (xO n ar m)
def FI(ar:Request):Option ano:=(qu n ar).bind λr1=>cond (!decide (r1=0)) ( some ([]:ano)) ( (hf n (IntKind.u64.wrap ar.Client)).bind λr3=>(hf n (IntKind.u64.wrap ar.Seq)).bind λbc=>aq (bM (r3.length+bc.length))<|(pA n ar.aZ).bind λbe=>aq (bM ((r3++bc).length+be.length))<|(hf n (IntKind.u64.wrap ((ar.ao.length:Nat):Int))).bind λcH=>aq (bM (((r3++bc)++be).length+cH.length))<|xO n ar n (((r3++bc)++be)++cH) 0)
def L8(n:Nat)(aQ:ano):Option ano:=some aQ
def FJ(l:List Request)(al:Int→ano→Option ano)(v9:Int)(v10:ano):Option ano:=cond (decide (v9<((l.length:Nat):Int))) ( aq (aH v9 l.length)<|(qu n (⟨(anr l v9).Client,(anr l v9).Seq,(anr l v9).aZ,(anr l v9).ao,(anr l v9).fv,⟨((anr l v9).bW).fo,((anr l v9).bW).Reads,((anr l v9).bW).es⟩⟩:Request)).bind λb9=>cond (!decide (b9=0)) ( some ([]:ano)) ( (FI n (⟨(anr l v9).Client,(anr l v9).Seq,(anr l v9).aZ,(anr l v9).ao,(anr l v9).fv,⟨((anr l v9).bW).fo,((anr l v9).bW).Reads,((anr l v9).bW).es⟩⟩:Request)).bind λcK=>aq (bM (v10.length+cK.length))<|al (anq (v9+1)) (v10++cK))) ( L8 n v10)
def xP(n:Nat)(l:List Request):Nat→Int→ano→Option ano
 | 0=>λ_ _=>none
 |m+1=>FJ n l (xP n l m)
def xQ(l:List Request):Option ano:=cond (decide (64<((l.length:Nat):Int))) ( some ([]:ano)) ( (hf n (IntKind.u64.wrap ((l.length:Nat):Int))).bind λr2=>xP n l n 0 r2)
def L9(n:Nat):ans:=some true
def FK(floor:Int)(last:Int)(ar:Row)(al:Int→ans)(bG:Int):ans:=cond (decide (bG<((ar.cU.length:Nat):Int))) ( aq (aH bG ar.cU.length)<|Option.bind (cond (!(cond (decide ((anr ar.cU bG).gu<floor)) true (decide (last<(anr ar.cU bG).gu)))) (rI n (⟨((anr ar.cU bG).b2).Kind,((anr ar.cU bG).b2).N,((anr ar.cU bG).b2).S⟩:br)) (some default)) λc_=>cond (cond (cond (decide ((anr ar.cU bG).gu<floor)) true (decide (last<(anr ar.cU bG).gu))) true (!c_)) ( some false) ( aq (!(decide (0<bG))||aH (anq (bG-1)) ar.cU.length)<|aq (!(decide (0<bG))||((decide ((anr ar.cU bG).gu≤(anr ar.cU (anq (bG-1))).gu))||aH (anq (bG-1)) ar.cU.length))<|cond (cond (decide (0<bG)) (cond (decide ((anr ar.cU bG).gu≤(anr ar.cU (anq (bG-1))).gu)) true ((decide (((anr ar.cU bG).b2).Kind=((anr ar.cU (anq (bG-1))).b2).Kind))&&((decide (((anr ar.cU bG).b2).N=((anr ar.cU (anq (bG-1))).b2).N))&&((decide (((anr ar.cU bG).b2).S=((anr ar.cU (anq (bG-1))).b2).S))&&true)))) false) ( some false) ( al (anq (bG+1))))) ( L9 n)
def xR(n:Nat)(floor:Int)(last:Int)(ar:Row):Nat→Int→ans
 | 0=>λ_=>none
 |m+1=>FK n floor last ar (xR n floor last ar m)
def FL(ar:Row)(floor:Int)(last:Int):ans:=aq ((decide (((ar.cU.length:Nat):Int)=0))||aH 0 ar.cU.length)<|cond (cond (decide (((ar.cU.length:Nat):Int)=0)) true (decide (((ar.cU.getD 0 default).b2).Kind=0))) ( some false) ( xR n floor last ar n 0)
def L'(n:Nat):ans:=some true
def FM(s:aR)(al:Int→ans)(bu:Int):ans:=cond (decide (bu<((s.Rows.length:Nat):Int))) ( aq (aH bu s.Rows.length)<|(vm n ((anr s.Rows bu).Key)).bind λb4=>aq ((!b4)||(!(decide (0<bu))||aH (anq (bu-1)) s.Rows.length))<|Option.bind (cond (!(cond (!b4) true (cond (decide (0<bu)) ((Op.bytesLess ((anr s.Rows bu).Key) ((anr s.Rows (anq (bu-1))).Key))||(decide (((anr s.Rows bu).Key)=((anr s.Rows (anq (bu-1))).Key)))) false))) (FL n (anr s.Rows bu) s.dn s.dd) (some default)) λbz=>cond (cond (cond (!b4) true (cond (decide (0<bu)) ((Op.bytesLess ((anr s.Rows bu).Key) ((anr s.Rows (anq (bu-1))).Key))||(decide (((anr s.Rows bu).Key)=((anr s.Rows (anq (bu-1))).Key)))) false)) true (!bz)) ( some false) ( al (anq (bu+1)))) ( L' n)
def xS(n:Nat)(s:aR):Nat→Int→ans
 | 0=>λ_=>none
 |m+1=>FM n s (xS n s m)
def vo(s:aR):ans:=cond (cond (cond (decide (s.dn<0)) true (decide (s.dd<s.dn))) true (decide (1099511627776<s.dd))) ( some false) ( xS n s n 0)
def FN(n:Nat)(s:aR)(at_:Int):ant:=cond (cond (decide (at_<s.dn)) true (decide (s.dd<at_))) ( some 15) ( some 0)
def L_(n:Nat)(v6:Int):ant:=some v6
def Ma(at_:Int)(ar:Row)(al:Int→ant)(v3:Int):ant:=aq (!(decide (v3<((ar.cU.length:Nat):Int)))||aH v3 ar.cU.length)<|cond (cond (decide (v3<((ar.cU.length:Nat):Int))) (decide ((anr ar.cU v3).gu≤at_)) false) ( al (anq (v3+1))) ( L_ n v3)
def Bk(n:Nat)(at_:Int)(ar:Row):Nat→Int→ant
 | 0=>λ_=>none
 |m+1=>Ma n at_ ar (Bk n at_ ar m)
def Mb(ar:Row)(at_:Int):ant:=Bk n at_ ar n 0
def FO(ar:Row)(at_:Int):Option br:=(Mb n ar at_).bind λr1=>cond (decide (r1=0)) ( some (⟨0,0,[]⟩:br)) ( aq (aH (anq (r1-1)) ar.cU.length)<|some (⟨((anr ar.cU (anq (r1-1))).b2).Kind,((anr ar.cU (anq (r1-1))).b2).N,((anr ar.cU (anq (r1-1))).b2).S⟩:br))
def Mc(n:Nat)(cC:List bC):Option ((List bC)×Int):=some (cC,0)
def FP(n:Nat)(al:Int→(List bC)→Option ((List bC)×Int))(at_:Int)(s:aR)(v11:Int)(de:List bC):Option ((List bC)×Int):=al (anq (v11+1)) de
def Md(at_:Int)(s:aR)(al:Int→(List bC)→Option ((List bC)×Int))(v11:Int)(v12:List bC):Option ((List bC)×Int):=cond (decide (v11<((s.Rows.length:Nat):Int))) ( aq (aH v11 s.Rows.length)<|(FO n (anr s.Rows v11) at_).bind λei=>cond (!decide (ei.Kind=0)) ( aq (room (v12.length+([(⟨(anr s.Rows v11).Key,ei⟩:bC)]:List bC).length) 48)<|FP n al at_ s v11 (v12++([(⟨(anr s.Rows v11).Key,ei⟩:bC)]:List bC))) ( FP n al at_ s v11 v12)) ( Mc n v12)
def Bl(n:Nat)(at_:Int)(s:aR):Nat→Int→(List bC)→Option ((List bC)×Int)
 | 0=>λ_ _=>none
 |m+1=>Md n at_ s (Bl n at_ s m)
def Bm(s:aR)(at_:Int):Option ((List bC)×Int):=(vo n s).bind λr1=>cond (!r1) ( some (([]:List bC),1)) ( (FN n s at_).bind λr3=>cond (!decide (r3=0)) ( some (([]:List bC),r3)) ( Bl n at_ s n 0 ([]:List bC)))
def Me(n:Nat)(mz:ano):Option ano:=some mz
def FQ(p:cD)(al:Int→ano→Option ano)(aQ:Int)(ck:ano):Option ano:=cond (decide (aQ<((p.bb.length:Nat):Int))) ( aq (aH aQ p.bb.length)<|(pB n ((anr p.bb aQ).Id)).bind λej=>(pA n ((anr p.bb aQ).gR)).bind λe8=>aq (bM (ej.length+e8.length))<|(pB n ((anr p.bb aQ).Node)).bind λdU=>aq (bM ((ej++e8).length+dU.length))<|(pB n ((anr p.bb aQ).iN)).bind λfa=>aq (bM (((ej++e8)++dU).length+fa.length))<|(pA n ((anr p.bb aQ).k4)).bind λr27=>aq (bM ((((ej++e8)++dU)++fa).length+r27.length))<|aq (bM (ck.length+((((ej++e8)++dU)++fa)++r27).length))<|al (anq (aQ+1)) (ck++((((ej++e8)++dU)++fa)++r27))) ( Me n ck)
def xT(n:Nat)(p:cD):Nat→Int→ano→Option ano
 | 0=>λ_ _=>none
 |m+1=>FQ n p (xT n p m)
def Bn(p:cD):Option ano:=(pB n p.Version).bind λr1=>(hf n (IntKind.u64.wrap ((p.bb.length:Nat):Int))).bind λr2=>aq (bM (r1.length+r2.length))<|xT n p n 0 (r1++r2)
def Mf(n:Nat)(y:Param)(ad:Param):ans:=some (decide (y.Name=ad.Name))
def Mg(n:Nat)(ad:Param):ant:=some (-1)
def Mh(s:List Param)(ad:Param)(al:Int→ant)(v4:Int):ant:=cond (decide (v4<((s.length:Nat):Int))) ( aq (aH v4 s.length)<|(Mf n (anr s v4) ad).bind λbe=>cond be ( some v4) ( al (anq (v4+1)))) ( Mg n ad)
def xU(n:Nat)(s:List Param)(ad:Param):Nat→Int→ant
 | 0=>λ_=>none
 |m+1=>Mh n s ad (xU n s ad m)
def Mi(s:List Param)(ad:Param):ant:=xU n s ad n 0
def FR(s:List Param)(ad:Param):ans:=(Mi n s ad).bind λr1=>some (decide (0≤r1))
def Mj(n:Nat):ant:=some 0
def Mk(l:List Param)(al:Int→ant)(bu:Int):ant:=cond (decide (bu<((l.length:Nat):Int))) ( aq (aH bu l.length)<|(rH n ((anr l bu).Name)).bind λb4=>cond (!b4) ( some 7) ( cond (cond (decide ((anr l bu).fm<1)) true (decide (3<(anr l bu).fm))) ( some 10) ( aq (gG bu l.length)<|(FR n (l.take (bu).toNat) (anr l bu)).bind λbz=>cond bz ( some 8) ( al (anq (bu+1)))))) ( Mj n)
def xV(n:Nat)(l:List Param):Nat→Int→ant
 | 0=>λ_=>none
 |m+1=>Mk n l (xV n l m)
def FSb(l:List Param):ant:=cond (decide (6<((l.length:Nat):Int))) ( some 2) ( xV n l n 0)
def FT(n:Nat)(op:Int):ant:=cond (cond (decide (op<1)) true (decide (27<op))) ( some (-1)) ( cond (cond (decide (op≤3)) true (decide (25≤op))) ( some 0) ( cond (cond (cond (decide (op=9)) true (decide (op=18))) true (decide (20≤op))) ( some 1) ( some 2)))
def Ml(n:Nat)(s:ano):ans:=some (decide (((s.length:Nat):Int)≤64))
def Mm(s:ano)(al:Int→ans)(v4:Int):ans:=cond (decide (v4<((s.length:Nat):Int))) ( aq (aH v4 s.length)<|aq ((decide ((((s.getD (v4).toNat 0).toNat:Nat):Int)<32))||aH v4 s.length)<|cond (cond (decide ((((s.getD (v4).toNat 0).toNat:Nat):Int)<32)) true (decide (126<(((s.getD (v4).toNat 0).toNat:Nat):Int)))) ( some false) ( al (anq (v4+1)))) ( Ml n s)
def xW(n:Nat)(s:ano):Nat→Int→ans
 | 0=>λ_=>none
 |m+1=>Mm n s (xW n s m)
def Mn(s:ano):ans:=xW n s n 0
def FU(e:Expr)(depth:Int):ant:=(FT n e.Op).bind λr1=>cond (cond (cond (decide (r1<0)) true (cond (!decide (e.Op=1)) (!decide (e.N=0)) false)) true (cond (cond (!decide (e.Op=2)) (!decide (e.Op=3)) false) (!(decide (e.S=([]:ano)))) false)) ( some 1) ( Option.bind (cond (decide (e.Op=3)) (rH n e.S) (some default)) λr3=>cond (cond (decide (e.Op=3)) (!r3) false) ( some 7) ( Option.bind (cond ((!(cond (decide (e.Op=1)) (decide (e.N<0)) false))&&(decide (e.Op=2))) (Mn n e.S) (some default)) λbQ=>cond (cond (cond (cond (decide (e.Op=1)) (decide (e.N<0)) false) true (cond (decide (e.Op=2)) (!bQ) false)) true (!decide (((e.ao.length:Nat):Int)=r1))) ( some 1) ( cond (decide (12<depth)) ( some 2) ( some 0))))
def Mo(n:Nat)(m5:Expr→Int→ant):ant:=some 0
def Mp(m5:Expr→Int→ant)(depth:Int)(e:Expr)(al:Int→ant)(v6:Int):ant:=cond (decide (v6<((e.ao.length:Nat):Int))) ( aq (aH v6 e.ao.length)<|(m5 (anr e.ao v6) (anq (depth+1))).bind λcH=>cond (!decide (cH=0)) ( some cH) ( al (anq (v6+1)))) ( Mo n m5)
def Bo(n:Nat)(m5:Expr→Int→ant)(depth:Int)(e:Expr):Nat→Int→ant
 | 0=>λ_=>none
 |m+1=>Mp n m5 depth e (Bo n m5 depth e m)
def Mq(m5:Expr→Int→ant)(e:Expr)(depth:Int):ant:=(FU n e depth).bind λr1=>cond (!decide (r1=0)) ( some r1) ( Bo n m5 depth e n 0)
def xX:Nat→Expr→Int→ant
 | 0=>λ_ _=>none
 |m+1=>Mq m (xX m)
def Bp(e:Expr):ant:=(xX n e 1).bind λr1=>some r1
def xY(n:Nat)(e:Expr):ans:=some (cond (cond (cond (decide (e.Op=0)) (decide (e.N=0)) false) (decide (e.S=([]:ano))) false) (decide (((e.ao.length:Nat):Int)=0)) false)
def FV(s:Stmt)(u:kJ):ans:=Option.bind (cond ((!(cond (!u.name) (!(decide (s.Name=([]:ano)))) false))&&(!u.a)) (xY n (⟨s.A.Op,s.A.N,s.A.S,s.A.ao⟩:Expr)) (some default)) λr1=>Option.bind (cond ((!(cond (cond (!u.name) (!(decide (s.Name=([]:ano)))) false) true (cond (!u.a) (!r1) false)))&&(!u.b)) (xY n (⟨s.B.Op,s.B.N,s.B.S,s.B.ao⟩:Expr)) (some default)) λr2=>cond (cond (cond (cond (cond (cond (cond (!u.name) (!(decide (s.Name=([]:ano)))) false) true (cond (!u.a) (!r1) false)) true (cond (!u.b) (!r2) false)) true (cond (!u.max) (!decide (s.Max=0)) false)) true (cond (!u.body) (decide (0<((s.Body.length:Nat):Int))) false)) true (cond (!u.other) (decide (0<((s.bx.length:Nat):Int))) false)) ( some false) ( cond (decide (s.Op=6)) ( some (cond (decide (1≤s.Max)) (decide (s.Max≤16)) false)) ( cond (decide (s.Op=8)) ( some (cond (decide (0≤s.Max)) (decide (s.Max≤999)) false)) ( some true)))
def Mr(n:Nat):Option (kJ×Bool):=some ((⟨false,false,false,false,false,false⟩:kJ),false)
def FW(op:Int)(v2:Bool):Option (kJ×Bool):=cond v2 ( some ((⟨false,true,false,false,false,false⟩:kJ),true)) ( cond (decide (op=5)) ( some ((⟨false,true,false,false,true,true⟩:kJ),true)) ( cond (decide (op=6)) ( some ((⟨true,true,true,true,true,false⟩:kJ),true)) ( cond (decide (op=8)) ( some ((⟨false,false,false,true,false,false⟩:kJ),true)) ( Mr n))))
def FX(op:Int)(v1:Bool):Option (kJ×Bool):=cond v1 ( some ((⟨true,true,false,false,false,false⟩:kJ),true)) ( cond (decide (op=3)) ( some ((⟨false,true,true,false,false,false⟩:kJ),true)) ( cond (decide (op=4)) ( FW n op (decide (op=4))) ( FW n op (decide (op=7)))))
def FY(op:Int):Option (kJ×Bool):=cond (decide (op=1)) ( FX n op (decide (op=1))) ( FX n op (decide (op=2)))
def FZ(n:Nat)(depth:Int):ant:=cond (decide (12<depth)) ( some 2) ( some 0)
def F0(depth:Int)(s:Stmt)(r1:kJ×Bool):ant:=cond r1.1.b ( (Bp n (⟨s.B.Op,s.B.N,s.B.S,s.B.ao⟩:Expr)).bind λbD=>cond (!decide (bD=0)) ( some bD) ( FZ n depth)) ( FZ n depth)
def F1(s:Stmt)(depth:Int):ant:=(FY n s.Op).bind λr1=>Option.bind (cond (!(!r1.2)) (FV n (⟨s.Op,s.Name,s.Max,⟨s.A.Op,s.A.N,s.A.S,s.A.ao⟩,⟨s.B.Op,s.B.N,s.B.S,s.B.ao⟩,s.Body,s.bx⟩:Stmt) r1.1) (some default)) λr2=>cond (cond (!r1.2) true (!r2)) ( some 1) ( Option.bind (cond r1.1.name (rH n s.Name) (some default)) λbc=>cond (cond r1.1.name (!bc) false) ( some 7) ( cond r1.1.a ( (Bp n (⟨s.A.Op,s.A.N,s.A.S,s.A.ao⟩:Expr)).bind λbe=>cond (!decide (be=0)) ( some be) ( F0 n depth s r1)) ( F0 n depth s r1)))
def F2(s:Stmt)(depth:Int)(ad:Int):ant:=cond (decide (ad=0)) ( (F1 n (⟨s.Op,s.Name,s.Max,⟨s.A.Op,s.A.N,s.A.S,s.A.ao⟩,⟨s.B.Op,s.B.N,s.B.S,s.B.ao⟩,s.Body,s.bx⟩:Stmt) depth).bind λr2=>some r2) ( some ad)
def Ms(n:Nat)(a0:Expr):Option Unit:=some ()
def Mt(n:Nat)(pC:Expr→Int→Int→ant)(e:Expr)(gb:Int)(db:Int→Int→ant)(v6:Int)(bu:Int):ant:=cond (decide (bu<((e.ao.length:Nat):Int))) ( aq (aH bu e.ao.length)<|(pC (anr e.ao bu) v6 gb).bind λb4=>db b4 (anq (bu+1))) ( some v6)
def Bq(n:Nat)(pC:Expr→Int→Int→ant)(e:Expr)(gb:Int):Nat→Int→Int→ant
 | 0=>λ_ _=>none
 |m+1=>Mt n pC e gb (Bq n pC e gb m)
def Mu(pC:Expr→Int→Int→ant)(e:Expr)(jd:Int)(gb:Int):ant:=cond (decide (jd=0)) ( some jd) ( Bq n pC e gb n (anq (jd-1)) 0)
def xZ:Nat→Expr→Int→Int→ant
 | 0=>λ_ _ _=>none
 |m+1=>Mu m (xZ m)
def Br(e:Expr)(jd:Int)(gb:Int):ant:=Option.bind (cond (!(decide (jd=0))) (xY n e) (some default)) λr1=>cond (cond (decide (jd=0)) true r1) ( some jd) ( (Ms n e).bind λr3=>(xZ n e jd gb).bind λbc=>some bc)
def Mv(oJ:(List Stmt)→Int→Int→Int→Option (Int×Int))(depth:Int)(l:List Stmt)(db:Int→Int→Int→Option (Int×Int))(v10:Int)(v11:Int)(v12:Int):Option (Int×Int):=cond (decide (v12<((l.length:Nat):Int))) ( aq (aH v12 l.length)<|cond (decide (v10=0)) ( some (v10,v11)) ( (F2 n (⟨(anr l v12).Op,(anr l v12).Name,(anr l v12).Max,⟨((anr l v12).A).Op,((anr l v12).A).N,((anr l v12).A).S,((anr l v12).A).ao⟩,⟨((anr l v12).B).Op,((anr l v12).B).N,((anr l v12).B).S,((anr l v12).B).ao⟩,(anr l v12).Body,(anr l v12).bx⟩:Stmt) depth v11).bind λei=>(Br n (⟨((anr l v12).A).Op,((anr l v12).A).N,((anr l v12).A).S,((anr l v12).A).ao⟩:Expr) (anq (v10-1)) ei).bind λda=>(Br n (⟨((anr l v12).B).Op,((anr l v12).B).N,((anr l v12).B).S,((anr l v12).B).ao⟩:Expr) da ei).bind λct=>(oJ ((anr l v12).Body) (anq (depth+1)) ct ei).bind λcL=>(oJ ((anr l v12).bx) (anq (depth+1)) cL.1 cL.2).bind λeC=>db eC.1 eC.2 (anq (v12+1)))) ( some (v10,v11))
def Bs(n:Nat)(oJ:(List Stmt)→Int→Int→Int→Option (Int×Int))(depth:Int)(l:List Stmt):Nat→Int→Int→Int→Option (Int×Int)
 | 0=>λ_ _ _=>none
 |m+1=>Mv n oJ depth l (Bs n oJ depth l m)
def Mw(oJ:(List Stmt)→Int→Int→Int→Option (Int×Int))(l:List Stmt)(depth:Int)(jd:Int)(gb:Int):Option (Int×Int):=Bs n oJ depth l n jd gb 0
def vp:Nat→(List Stmt)→Int→Int→Int→Option (Int×Int)
 | 0=>λ_ _ _ _=>none
 |m+1=>Mw m (vp m)
def Mx(p:aZ)(ad:Int):Option (Int×Int):=(vp n p.Body 1 401 ad).bind λr1=>some ((anq (401-r1.1)),r1.2)
def Bt(p:aZ):ant:=(rH n p.Name).bind λr1=>cond (!r1) ( some 7) ( (FSb n p.Params).bind λr3=>cond (!decide (r3=0)) ( some r3) ( (Mx n p r3).bind λbQ=>cond (cond (decide (bQ.2=0)) (decide (400<bQ.1)) false) ( some 2) ( some bQ.2)))
def F3(n:Nat)(ty:Int):Option ano:=cond (decide (ty=1)) ( some ([105,110,116]:ano)) ( cond (decide (ty=2)) ( some ([115,116,114]:ano)) ( some ([98,111,111,108]:ano)))
def qv(n:Nat)(op:Int):Option (Unit ⊕ Unit ⊕ Unit ⊕ Unit ⊕ Unit ⊕ Unit ⊕ Unit ⊕ Unit):=cond (decide (op=1)) ( some (.inl ())) ( cond (decide (op=2)) ( some (.inr (.inl ()))) ( cond (decide (op=3)) ( some (.inr (.inr (.inl ())))) ( cond (decide (op=4)) ( some (.inr (.inr (.inr (.inl ()))))) ( cond (decide (op=5)) ( some (.inr (.inr (.inr (.inr (.inl ())))))) ( cond (decide (op=6)) ( some (.inr (.inr (.inr (.inr (.inr (.inl ()))))))) ( cond (decide (op=7)) ( some (.inr (.inr (.inr (.inr (.inr (.inr (.inl ())))))))) ( some (.inr (.inr (.inr (.inr (.inr (.inr (.inr ()))))))))))))))
def vq(dZ:Int):Option ano:=(Fy n dZ 10).bind λr1=>some r1
def x0(n:Nat)(bS:List Int)(bX:Int):Option Unit:=some ()
def F4(c:Int)(bS:List Int)(bX:Int):Option (List Int):=(x0 n bS bX).bind λr1=>aq (room (bS.length+([c]:List Int).length) 1)<|some (bS++([c]:List Int))
def Bu(s:ano)(bS:List Int)(bX:Int):Option (Int×(List Int)):=(x0 n bS bX).bind λr1=>aq (room (bS.length+s.length) 1)<|some (((s.length:Nat):Int),(bS++s.map λb=>(b.toNat:Int)))
def My(bX:Int)(v20:List Int):Option (List Int):=(F4 n 10 v20 bX).bind λe8=>some e8
def Mz(parts:List ano)(bX:Int)(e4:(List Int)→Int→Option (List Int))(b0:List Int)(cB:Int):Option (List Int):=cond (decide (cB<((parts.length:Nat):Int))) ( aq (aH cB parts.length)<|(Bu n (anr parts cB) b0 bX).bind λcL=>e4 cL.2 (anq (cB+1))) ( My n bX b0)
def Bv(n:Nat)(parts:List ano)(bX:Int):Nat→(List Int)→Int→Option (List Int)
 | 0=>λ_ _=>none
 |m+1=>Mz n parts bX (Bv n parts bX m)
def MA(parts:List ano)(bX:Int)(v9:List Int):Option (List Int):=Bv n parts bX n v9 0
def MB(parts:List ano)(bX:Int)(gB:(List Int)→Int→Option (List Int))(v4:List Int)(v5:Int):Option (List Int):=cond (decide (v5<bX)) ( (Bu n ([32,32,32,32]:ano) v4 bX).bind λbe=>gB be.2 (anq (v5+1))) ( MA n parts bX v4)
def Bw(n:Nat)(parts:List ano)(bX:Int):Nat→(List Int)→Int→Option (List Int)
 | 0=>λ_ _=>none
 |m+1=>MB n parts bX (Bw n parts bX m)
def lY(parts:List ano)(bS:List Int)(bX:Int):Option (List Int):=Bw n parts bX n bS 0
def MC(s:Stmt)(bS:List Int)(bX:Int):Option (List Int):=(vq n s.Max).bind λr1=>(lY n ([([97,98,111,114,116,32]:ano),r1,([59]:ano)]:List ano) bS bX).bind λr2=>some r2
def MD(n:Nat):ans:=some true
def ME(s:ano)(al:Int→ans)(v4:Int):ans:=cond (decide (v4<((s.length:Nat):Int))) ( aq (aH v4 s.length)<|aq ((decide ((((s.getD (v4).toNat 0).toNat:Nat):Int)<32))||aH v4 s.length)<|cond (cond (decide ((((s.getD (v4).toNat 0).toNat:Nat):Int)<32)) true (decide (126<(((s.getD (v4).toNat 0).toNat:Nat):Int)))) ( some false) ( al (anq (v4+1)))) ( MD n)
def Bx(n:Nat)(s:ano):Nat→Int→ans
 | 0=>λ_=>none
 |m+1=>ME n s (Bx n s m)
def MF(s:ano):ans:=Bx n s n 0
def rJ(n:Nat)(bS:List Int):Option (ano×(List Int)):=aq (mZ bS&&decide (bS.length≤9223372036854775807))<|some (jP bS,bS)
def x1(n:Nat)(bS:List Int):Option Unit:=some ()
def qw(c:Int)(bS:List Int):Option (List Int):=(x1 n bS).bind λr1=>aq (room (bS.length+([c]:List Int).length) 1)<|some (bS++([c]:List Int))
def MG(v25:List Int):Option (ano×Int):=(qw n 34 v25).bind λr26=>(rJ n r26).bind λr27=>some (r27.1,0)
def MH(n:Nat)(al:(List Int)→Int→Option (ano×Int))(s:ano)(cB:Int)(fO:List Int):Option (ano×Int):=al fO (anq (cB+1))
def F5(al:(List Int)→Int→Option (ano×Int))(s:ano)(cB:Int)(cC:List Int):Option (ano×Int):=aq (aH cB s.length)<|(qw n (((s.getD (cB).toNat 0).toNat:Nat):Int) cC).bind λe8=>MH n al s cB e8
def MI(s:ano)(al:(List Int)→Int→Option (ano×Int))(b0:List Int)(cB:Int):Option (ano×Int):=cond (decide (cB<((s.length:Nat):Int))) ( aq (aH cB s.length)<|aq ((decide ((((s.getD (cB).toNat 0).toNat:Nat):Int)=34))||aH cB s.length)<|cond (cond (decide ((((s.getD (cB).toNat 0).toNat:Nat):Int)=34)) true (decide ((((s.getD (cB).toNat 0).toNat:Nat):Int)=92))) ( (qw n 92 b0).bind λeC=>F5 n al s cB eC) ( F5 n al s cB b0)) ( MG n b0)
def By(n:Nat)(s:ano):Nat→(List Int)→Int→Option (ano×Int)
 | 0=>λ_ _=>none
 |m+1=>MI n s (By n s m)
def F6(s:ano):Option (ano×Int):=cond (decide (64<((s.length:Nat):Int))) ( some (([]:ano),2)) ( (MF n s).bind λr2=>cond (!r2) ( some (([]:ano),1)) ( (qw n 34 ([]:List Int)).bind λbc=>By n s n bc 0))
def MJ(n:Nat):ant:=some 9
def Bz(op:Int)(v3:Bool):ant:=cond v3 ( some 7) ( cond (decide (op=9)) ( some 8) ( MJ n))
def F7(op:Int)(v2:Bool):ant:=cond v2 ( some 6) ( cond (decide (op=6)) ( Bz n op (decide (op=6))) ( cond (decide (op=7)) ( Bz n op (decide (op=7))) ( Bz n op (decide (op=8)))))
def s_(op:Int)(v1:Bool):ant:=cond v1 ( some 4) ( cond (decide (op=19)) ( some 5) ( cond (decide (op=4)) ( F7 n op (decide (op=4))) ( F7 n op (decide (op=5)))))
def BA(op:Int):ant:=cond (decide (op=17)) ( some 1) ( cond (decide (op=16)) ( some 2) ( cond (decide (op=18)) ( some 3) ( cond (decide (op=10)) ( s_ n op (decide (op=10))) ( cond (decide (op=11)) ( s_ n op (decide (op=11))) ( cond (decide (op=12)) ( s_ n op (decide (op=12))) ( cond (decide (op=13)) ( s_ n op (decide (op=13))) ( cond (decide (op=14)) ( s_ n op (decide (op=14))) ( s_ n op (decide (op=15))))))))))
def F8(n:Nat)(op:Int):Option ano:=cond (decide (op=17)) ( some ([111,114]:ano)) ( cond (decide (op=16)) ( some ([97,110,100]:ano)) ( cond (decide (op=10)) ( some ([61,61]:ano)) ( cond (decide (op=11)) ( some ([33,61]:ano)) ( cond (decide (op=12)) ( some ([60]:ano)) ( cond (decide (op=13)) ( some ([60,61]:ano)) ( cond (decide (op=14)) ( some ([62]:ano)) ( cond (decide (op=15)) ( some ([62,61]:ano)) ( cond (decide (op=19)) ( some ([43,43]:ano)) ( cond (decide (op=4)) ( some ([43]:ano)) ( cond (decide (op=5)) ( some ([45]:ano)) ( cond (decide (op=6)) ( some ([42]:ano)) ( cond (decide (op=7)) ( some ([47]:ano)) ( some ([37]:ano))))))))))))))
def F9(n:Nat)(op:Int):Option ano:=cond (decide (op=20)) ( some ([116,101,120,116]:ano)) ( cond (decide (op=21)) ( some ([108,101,110]:ano)) ( cond (decide (op=22)) ( some ([103,101,116,105,110,116]:ano)) ( cond (decide (op=23)) ( some ([103,101,116,115,116,114]:ano)) ( cond (decide (op=24)) ( some ([104,97,115]:ano)) ( cond (decide (op=25)) ( some ([110,111,119]:ano)) ( cond (decide (op=26)) ( some ([114,97,110,100,111,109]:ano)) ( cond (decide (op=27)) ( some ([110,111,100,101]:ano)) ( some ([]:ano)))))))))
def F'(qx:Expr→Option ano)(nS:Expr→Int→Option ano)(e:Expr):Option ano:=(BA n e.Op).bind λr1=>cond (decide (e.Op=1)) ( (vq n e.N).bind λr3=>some r3) ( cond (decide (e.Op=2)) ( (F6 n e.S).bind λbQ=>some bQ.1) ( cond (decide (e.Op=3)) ( some e.S) ( cond (decide (e.Op=18)) ( aq (aH 0 e.ao.length)<|(nS (e.ao.getD 0 default) r1).bind λb4=>aq (bM (([110,111,116,32]:ano).length+b4.length))<|some (([110,111,116,32]:ano)++b4)) ( cond (decide (e.Op=9)) ( aq (aH 0 e.ao.length)<|(nS (e.ao.getD 0 default) r1).bind λcK=>aq (bM (([45]:ano).length+cK.length))<|some (([45]:ano)++cK)) ( cond (cond (decide (r1=9)) (decide (((e.ao.length:Nat):Int)=0)) false) ( (F9 n e.Op).bind λct=>aq (bM (ct.length+([40,41]:ano).length))<|some (ct++([40,41]:ano))) ( cond (decide (r1=9)) ( (F9 n e.Op).bind λfb=>aq (bM (fb.length+([40]:ano).length))<|aq (aH 0 e.ao.length)<|(qx (e.ao.getD 0 default)).bind λcR=>aq (bM ((fb++([40]:ano)).length+cR.length))<|aq (bM (((fb++([40]:ano))++cR).length+([41]:ano).length))<|some (((fb++([40]:ano))++cR)++([41]:ano))) ( cond (decide (r1=4)) ( aq (aH 0 e.ao.length)<|(nS (e.ao.getD 0 default) 5).bind λr27=>aq (bM (r27.length+([32]:ano).length))<|(F8 n e.Op).bind λfc=>aq (bM ((r27++([32]:ano)).length+fc.length))<|aq (bM (((r27++([32]:ano))++fc).length+([32]:ano).length))<|aq (aH 1 e.ao.length)<|(nS (e.ao.getD 1 default) 5).bind λnT=>aq (bM ((((r27++([32]:ano))++fc)++([32]:ano)).length+nT.length))<|some ((((r27++([32]:ano))++fc)++([32]:ano))++nT)) ( aq (aH 0 e.ao.length)<|(nS (e.ao.getD 0 default) r1).bind λoK=>aq (bM (oK.length+([32]:ano).length))<|(F8 n e.Op).bind λqy=>aq (bM ((oK++([32]:ano)).length+qy.length))<|aq (bM (((oK++([32]:ano))++qy).length+([32]:ano).length))<|aq (aH 1 e.ao.length)<|(nS (e.ao.getD 1 default) (anq (r1+1))).bind λhR=>aq (bM ((((oK++([32]:ano))++qy)++([32]:ano)).length+hR.length))<|some ((((oK++([32]:ano))++qy)++([32]:ano))++hR)))))))))
def F_(qx:Expr→Option ano)(nS:Expr→Int→Option ano)(e:Expr)(least:Int):Option ano:=(BA n e.Op).bind λr1=>cond (decide (r1<least)) ( (qx e).bind λr3=>aq (bM (([40]:ano).length+r3.length))<|aq (bM ((([40]:ano)++r3).length+([41]:ano).length))<|some ((([40]:ano)++r3)++([41]:ano))) ( (qx e).bind λbe=>some be)
def x2:Nat→(Expr→Option ano)×(Expr→Int→Option ano)
 | 0=>(λ_=>none,λ_ _=>none)
 |m+1=>(F' m ((x2 m).1) ((x2 m).2),F_ m ((x2 m).1) ((x2 m).2))
def lB:Expr→Option ano:=(x2 n).1
def vr:Expr→Int→Option ano:=(x2 n).2
def MK(s:Stmt)(bS:List Int)(bX:Int):Option (List Int):=(lB n (⟨s.A.Op,s.A.N,s.A.S,s.A.ao⟩:Expr)).bind λr1=>(lY n ([s.Name,([32,61,32]:ano),r1,([59]:ano)]:List ano) bS bX).bind λr2=>some r2
def ML(s:Stmt)(bS:List Int)(bX:Int):Option (List Int):=(lB n (⟨s.A.Op,s.A.N,s.A.S,s.A.ao⟩:Expr)).bind λr1=>(lY n ([([108,101,116,32]:ano),s.Name,([32,61,32]:ano),r1,([59]:ano)]:List ano) bS bX).bind λr2=>some r2
def MM(s:Stmt)(bS:List Int)(bX:Int):Option (List Int):=(lB n (⟨s.A.Op,s.A.N,s.A.S,s.A.ao⟩:Expr)).bind λr1=>(lY n ([([101,109,105,116,32]:ano),r1,([59]:ano)]:List ano) bS bX).bind λr2=>some r2
def MN(s:Stmt)(bS:List Int)(bX:Int):Option (List Int):=(lB n (⟨s.A.Op,s.A.N,s.A.S,s.A.ao⟩:Expr)).bind λr1=>(lB n (⟨s.B.Op,s.B.N,s.B.S,s.B.ao⟩:Expr)).bind λr2=>(lY n ([([112,117,116,32]:ano),r1,([32,61,32]:ano),r2,([59]:ano)]:List ano) bS bX).bind λr3=>some r3
def MO(s:Stmt)(bS:List Int)(bX:Int):Option (List Int):=(lB n (⟨s.A.Op,s.A.N,s.A.S,s.A.ao⟩:Expr)).bind λr1=>(lY n ([([100,101,108,101,116,101,32]:ano),r1,([59]:ano)]:List ano) bS bX).bind λr2=>some r2
def MP(n:Nat)(hS:(List Stmt)→(List Int)→Int→Option ((List Int)×Int))(ie:Stmt→(List Int)→Int→Option ((List Int)×Int))(ig:Stmt→(List Int)→Int→Option ((List Int)×Int))(mz:List Int)(x3:Int):Option ((List Int)×Int):=some (mz,(anq (x3-1)))
def MQ(hS:(List Stmt)→(List Int)→Int→Option ((List Int)×Int))(ie:Stmt→(List Int)→Int→Option ((List Int)×Int))(ig:Stmt→(List Int)→Int→Option ((List Int)×Int))(l:List Stmt)(al:(List Int)→Int→Int→Option ((List Int)×Int))(cB:List Int)(de:Int)(aQ:Int):Option ((List Int)×Int):=cond (decide (aQ<((l.length:Nat):Int))) ( aq (aH aQ l.length)<|(qv n ((anr l aQ).Op)).bind λfb=>hZ.on fb (λadH=>(ML n (⟨(anr l aQ).Op,(anr l aQ).Name,(anr l aQ).Max,⟨((anr l aQ).A).Op,((anr l aQ).A).N,((anr l aQ).A).S,((anr l aQ).A).ao⟩,⟨((anr l aQ).B).Op,((anr l aQ).B).N,((anr l aQ).B).S,((anr l aQ).B).ao⟩,(anr l aQ).Body,(anr l aQ).bx⟩:Stmt) cB de).bind λe8=>al e8 de (anq (aQ+1))) (λUq=>hZ.on Uq (λadI=>(MK n (⟨(anr l aQ).Op,(anr l aQ).Name,(anr l aQ).Max,⟨((anr l aQ).A).Op,((anr l aQ).A).N,((anr l aQ).A).S,((anr l aQ).A).ao⟩,⟨((anr l aQ).B).Op,((anr l aQ).B).N,((anr l aQ).B).S,((anr l aQ).B).ao⟩,(anr l aQ).Body,(anr l aQ).bx⟩:Stmt) cB de).bind λcR=>al cR de (anq (aQ+1))) (λUr=>hZ.on Ur (λadJ=>(MN n (⟨(anr l aQ).Op,(anr l aQ).Name,(anr l aQ).Max,⟨((anr l aQ).A).Op,((anr l aQ).A).N,((anr l aQ).A).S,((anr l aQ).A).ao⟩,⟨((anr l aQ).B).Op,((anr l aQ).B).N,((anr l aQ).B).S,((anr l aQ).B).ao⟩,(anr l aQ).Body,(anr l aQ).bx⟩:Stmt) cB de).bind λdU=>al dU de (anq (aQ+1))) (λUs=>hZ.on Us (λadK=>(MO n (⟨(anr l aQ).Op,(anr l aQ).Name,(anr l aQ).Max,⟨((anr l aQ).A).Op,((anr l aQ).A).N,((anr l aQ).A).S,((anr l aQ).A).ao⟩,⟨((anr l aQ).B).Op,((anr l aQ).B).N,((anr l aQ).B).S,((anr l aQ).B).ao⟩,(anr l aQ).Body,(anr l aQ).bx⟩:Stmt) cB de).bind λr24=>al r24 de (anq (aQ+1))) (λUt=>hZ.on Ut (λadL=>(ie (⟨(anr l aQ).Op,(anr l aQ).Name,(anr l aQ).Max,⟨((anr l aQ).A).Op,((anr l aQ).A).N,((anr l aQ).A).S,((anr l aQ).A).ao⟩,⟨((anr l aQ).B).Op,((anr l aQ).B).N,((anr l aQ).B).S,((anr l aQ).B).ao⟩,(anr l aQ).Body,(anr l aQ).bx⟩:Stmt) cB de).bind λfa=>al fa.1 fa.2 (anq (aQ+1))) (λUu=>hZ.on Uu (λadM=>(ig (⟨(anr l aQ).Op,(anr l aQ).Name,(anr l aQ).Max,⟨((anr l aQ).A).Op,((anr l aQ).A).N,((anr l aQ).A).S,((anr l aQ).A).ao⟩,⟨((anr l aQ).B).Op,((anr l aQ).B).N,((anr l aQ).B).S,((anr l aQ).B).ao⟩,(anr l aQ).Body,(anr l aQ).bx⟩:Stmt) cB de).bind λr26=>al r26.1 r26.2 (anq (aQ+1))) (λUv=>hZ.on Uv (λadN=>(MM n (⟨(anr l aQ).Op,(anr l aQ).Name,(anr l aQ).Max,⟨((anr l aQ).A).Op,((anr l aQ).A).N,((anr l aQ).A).S,((anr l aQ).A).ao⟩,⟨((anr l aQ).B).Op,((anr l aQ).B).N,((anr l aQ).B).S,((anr l aQ).B).ao⟩,(anr l aQ).Body,(anr l aQ).bx⟩:Stmt) cB de).bind λr27=>al r27 de (anq (aQ+1))) (λadO=>(MC n (⟨(anr l aQ).Op,(anr l aQ).Name,(anr l aQ).Max,⟨((anr l aQ).A).Op,((anr l aQ).A).N,((anr l aQ).A).S,((anr l aQ).A).ao⟩,⟨((anr l aQ).B).Op,((anr l aQ).B).N,((anr l aQ).B).S,((anr l aQ).B).ao⟩,(anr l aQ).Body,(anr l aQ).bx⟩:Stmt) cB de).bind λm6=>al m6 de (anq (aQ+1)))))))))) ( MP n hS ie ig cB de)
def BB(n:Nat)(hS:(List Stmt)→(List Int)→Int→Option ((List Int)×Int))(ie:Stmt→(List Int)→Int→Option ((List Int)×Int))(ig:Stmt→(List Int)→Int→Option ((List Int)×Int))(l:List Stmt):Nat→(List Int)→Int→Int→Option ((List Int)×Int)
 | 0=>λ_ _ _=>none
 |m+1=>MQ n hS ie ig l (BB n hS ie ig l m)
def Ga(hS:(List Stmt)→(List Int)→Int→Option ((List Int)×Int))(ie:Stmt→(List Int)→Int→Option ((List Int)×Int))(ig:Stmt→(List Int)→Int→Option ((List Int)×Int))(l:List Stmt)(bS:List Int)(bX:Int):Option ((List Int)×Int):=BB n hS ie ig l n bS (anq (bX+1)) 0
def Gb(hS:(List Stmt)→(List Int)→Int→Option ((List Int)×Int))(ie:Stmt→(List Int)→Int→Option ((List Int)×Int))(ig:Stmt→(List Int)→Int→Option ((List Int)×Int))(v6:List Int)(bu:Int):Option ((List Int)×Int):=(lY n ([([125]:ano)]:List ano) v6 bu).bind λcH=>some (cH,bu)
def Gc(hS:(List Stmt)→(List Int)→Int→Option ((List Int)×Int))(ie:Stmt→(List Int)→Int→Option ((List Int)×Int))(ig:Stmt→(List Int)→Int→Option ((List Int)×Int))(s:Stmt)(bS:List Int)(bX:Int):Option ((List Int)×Int):=(lB n (⟨s.A.Op,s.A.N,s.A.S,s.A.ao⟩:Expr)).bind λr1=>(lY n ([([105,102,32]:ano),r1,([32,123]:ano)]:List ano) bS bX).bind λr2=>(hS s.Body r2 bX).bind λr3=>cond (decide (0<((s.bx.length:Nat):Int))) ( (lY n ([([125,32,101,108,115,101,32,123]:ano)]:List ano) r3.1 r3.2).bind λbc=>(hS s.bx bc r3.2).bind λbQ=>Gb n hS ie ig bQ.1 bQ.2) ( Gb n hS ie ig r3.1 r3.2)
def Gd(hS:(List Stmt)→(List Int)→Int→Option ((List Int)×Int))(ie:Stmt→(List Int)→Int→Option ((List Int)×Int))(ig:Stmt→(List Int)→Int→Option ((List Int)×Int))(s:Stmt)(bS:List Int)(bX:Int):Option ((List Int)×Int):=(lB n (⟨s.A.Op,s.A.N,s.A.S,s.A.ao⟩:Expr)).bind λr1=>(lB n (⟨s.B.Op,s.B.N,s.B.S,s.B.ao⟩:Expr)).bind λr2=>(vq n s.Max).bind λr3=>(lY n ([([102,111,114,32]:ano),s.Name,([32,61,32]:ano),r1,([32,116,111,32]:ano),r2,([32,109,97,120,32]:ano),r3,([32,123]:ano)]:List ano) bS bX).bind λbc=>(hS s.Body bc bX).bind λbQ=>(lY n ([([125]:ano)]:List ano) bQ.1 bQ.2).bind λbe=>some (be,bQ.2)
def oL:Nat→((List Stmt)→(List Int)→Int→Option ((List Int)×Int))×(Stmt→(List Int)→Int→Option ((List Int)×Int))×(Stmt→(List Int)→Int→Option ((List Int)×Int))
 | 0=>(λ_ _ _=>none,λ_ _ _=>none,λ_ _ _=>none)
 |m+1=>(Ga m ((oL m).1) ((oL m).2.1) ((oL m).2.2),Gc m ((oL m).1) ((oL m).2.1) ((oL m).2.2),Gd m ((oL m).1) ((oL m).2.1) ((oL m).2.2))
def qz:(List Stmt)→(List Int)→Int→Option ((List Int)×Int):=(oL n).1
def vt:Stmt→(List Int)→Int→Option ((List Int)×Int):=(oL n).2.1
def vu:Stmt→(List Int)→Int→Option ((List Int)×Int):=(oL n).2.2
def Ge(n:Nat)(bS:List Int)(bX:Int):Option (ano×(List Int)):=aq (mZ bS&&decide (bS.length≤9223372036854775807))<|some (jP bS,bS)
def MR(p:aZ)(cC:List ano):Option ano:=(Fz n cC ([44,32]:ano)).bind λej=>(lY n ([([112,114,111,99,32]:ano),p.Name,([40]:ano),ej,([41,32,123]:ano)]:List ano) ([]:List Int) 0).bind λe8=>(qz n p.Body e8 0).bind λcR=>(lY n ([([125]:ano)]:List ano) cR.1 cR.2).bind λdU=>(Ge n dU cR.2).bind λr24=>some r24.1
def MS(p:aZ)(al:Int→(List ano)→Option ano)(v10:Int)(v11:List ano):Option ano:=cond (decide (v10<((p.Params.length:Nat):Int))) ( aq (aH v10 p.Params.length)<|aq (bM (((anr p.Params v10).Name).length+([58,32]:ano).length))<|(F3 n ((anr p.Params v10).fm)).bind λei=>aq (bM ((((anr p.Params v10).Name)++([58,32]:ano)).length+ei.length))<|aq (room (v11.length+([((((anr p.Params v10).Name)++([58,32]:ano))++ei)]:List ano).length) 16)<|al (anq (v10+1)) (v11++([((((anr p.Params v10).Name)++([58,32]:ano))++ei)]:List ano))) ( MR n p v11)
def BC(n:Nat)(p:aZ):Nat→Int→(List ano)→Option ano
 | 0=>λ_ _=>none
 |m+1=>MS n p (BC n p m)
def ta(p:aZ):Option ano:=(Bt n p).bind λr1=>cond (!decide (r1=0)) ( some ([]:ano)) ( BC n p n 0 ([]:List ano))
def BD(n:Nat)(next:Int):ant:=some (cond (decide ((anq (next-1))<8)) (anq (next-1)) 8)
def MT(n:Nat):ans:=some false
def MU(n:Nat):ans:=some true
def Gf(o:Outcome)(e4:Int→ans)(v4:Int):ans:=cond (decide (v4<((o.Out.length:Nat):Int))) ( aq (aH v4 o.Out.length)<|(rI n (anr o.Out v4)).bind λbe=>cond (cond (!be) true (decide ((anr o.Out v4).Kind=0))) ( some false) ( e4 (anq (v4+1)))) ( MU n)
def vv(n:Nat)(o:Outcome):Nat→Int→ans
 | 0=>λ_=>none
 |m+1=>Gf n o (vv n o m)
def BE(o:Outcome):ans:=cond (decide (o.Status=1)) ( cond (cond (!decide (o.Code=0)) true (decide (16<((o.Out.length:Nat):Int)))) ( some false) ( vv n o n 0)) ( cond (decide (o.Status=2)) ( some (cond (cond (decide (0≤o.Code)) (decide (o.Code≤1009)) false) (decide (((o.Out.length:Nat):Int)=0)) false)) ( MT n))
def MV(n:Nat):ans:=some true
def Gg(s:bY)(al:Int→ans)(v6:Int):ans:=cond (decide (v6<((s.cM.length:Nat):Int))) ( aq (aH v6 s.cM.length)<|Option.bind (cond (!(!((decide ((anr s.cM v6).Client=s.Client))&&((decide ((anr s.cM v6).Seq=(anq ((anq (s.Next-((s.cM.length:Nat):Int)))+v6))))&&true)))) (BE n (⟨((anr s.cM v6).Outcome).Status,((anr s.cM v6).Outcome).Code,((anr s.cM v6).Outcome).Out⟩:Outcome)) (some default)) λcH=>cond (cond (!((decide ((anr s.cM v6).Client=s.Client))&&((decide ((anr s.cM v6).Seq=(anq ((anq (s.Next-((s.cM.length:Nat):Int)))+v6))))&&true))) true (!cH)) ( some false) ( al (anq (v6+1)))) ( MV n)
def x4(n:Nat)(s:bY):Nat→Int→ans
 | 0=>λ_=>none
 |m+1=>Gg n s (x4 n s m)
def Gh(s:bY):ans:=Option.bind (cond (!(cond (cond (cond (decide (s.Client<1)) true (decide (32<s.Client))) true (decide (s.Next<1))) true (decide (1099511627776<s.Next)))) (BD n s.Next) (some default)) λr1=>cond (cond (cond (cond (cond (decide (s.Client<1)) true (decide (32<s.Client))) true (decide (s.Next<1))) true (decide (1099511627776<s.Next))) true (!decide (((s.cM.length:Nat):Int)=r1))) ( some false) ( x4 n s n 0)
def MW(n:Nat):ans:=some true
def Gi(l:List bY)(al:Int→ans)(v5:Int):ans:=cond (decide (v5<((l.length:Nat):Int))) ( aq (aH v5 l.length)<|(Gh n (anr l v5)).bind λbD=>aq ((!bD)||(!(decide (0<v5))||aH (anq (v5-1)) l.length))<|cond (cond (!bD) true (cond (decide (0<v5)) (decide ((anr l v5).Client≤(anr l (anq (v5-1))).Client)) false)) ( some false) ( al (anq (v5+1)))) ( MW n)
def x5(n:Nat)(l:List bY):Nat→Int→ans
 | 0=>λ_=>none
 |m+1=>Gi n l (x5 n l m)
def tb(l:List bY):ans:=x5 n l n 0
def jQ(s:ano)(bS:List Int):Option (Int×(List Int)):=(x1 n bS).bind λr1=>aq (room (bS.length+s.length) 1)<|some (((s.length:Nat):Int),(bS++s.map λb=>(b.toNat:Int)))
def MX(Gj:List Int):Option ano:=(rJ n Gj).bind λUw=>some Uw.1
def MY(n:Nat)(al:(List Int)→Int→Option ano)(l:List bY)(eQ:Int)(Gk:List Int):Option ano:=al Gk (anq (eQ+1))
def MZ(n:Nat)(gB:(List Int)→Int→Option ano)(al:(List Int)→Int→Option ano)(l:List bY)(eQ:Int)(ih:Int)(v109:List Int):Option ano:=gB v109 (anq (ih+1))
def Gl(gB:(List Int)→Int→Option ano)(al:(List Int)→Int→Option ano)(l:List bY)(eQ:Int)(ih:Int)(BF:(List Int)→Int→Option ano)(BG:List Int)(vw:Int):Option ano:=cond (decide (vw<(((((((anr l eQ).cM).getD (ih).toNat default).Outcome).Out).length:Nat):Int))) ( aq (aH vw (((((anr l eQ).cM).getD (ih).toNat default).Outcome).Out).length)<|(vn n ((((((anr l eQ).cM).getD (ih).toNat default).Outcome).Out).getD (vw).toNat default)).bind λtc=>(jQ n tc BG).bind λUx=>BF Ux.2 (anq (vw+1))) ( MZ n gB al l eQ ih BG)
def vx(n:Nat)(gB:(List Int)→Int→Option ano)(al:(List Int)→Int→Option ano)(l:List bY)(eQ:Int)(ih:Int):Nat→(List Int)→Int→Option ano
 | 0=>λ_ _=>none
 |m+1=>Gl n gB al l eQ ih (vx n gB al l eQ ih m)
def Gm(al:(List Int)→Int→Option ano)(l:List bY)(eQ:Int)(gB:(List Int)→Int→Option ano)(BH:List Int)(ih:Int):Option ano:=cond (decide (ih<((((anr l eQ).cM).length:Nat):Int))) ( aq (aH ih ((anr l eQ).cM).length)<|(hf n (IntKind.u64.wrap (((((anr l eQ).cM).getD (ih).toNat default).Outcome).Status))).bind λx6=>(hf n (IntKind.u64.wrap (((((anr l eQ).cM).getD (ih).toNat default).Outcome).Code))).bind λvy=>aq (bM (x6.length+vy.length))<|(hf n (IntKind.u64.wrap (((((((anr l eQ).cM).getD (ih).toNat default).Outcome).Out).length:Nat):Int))).bind λM0=>aq (bM ((x6++vy).length+M0.length))<|(jQ n ((x6++vy)++M0) BH).bind λGn=>vx n gB al l eQ ih n Gn.2 0) ( MY n al l eQ BH)
def vz(n:Nat)(al:(List Int)→Int→Option ano)(l:List bY)(eQ:Int):Nat→(List Int)→Int→Option ano
 | 0=>λ_ _=>none
 |m+1=>Gm n al l eQ (vz n al l eQ m)
def Gp(l:List bY)(al:(List Int)→Int→Option ano)(v59:List Int)(eQ:Int):Option ano:=cond (decide (eQ<((l.length:Nat):Int))) ( aq (aH eQ l.length)<|(hf n (IntKind.u64.wrap ((anr l eQ).Client))).bind λM1=>(hf n (IntKind.u64.wrap ((anr l eQ).Next))).bind λvA=>aq (bM (M1.length+vA.length))<|(jQ n (M1++vA) v59).bind λtd=>vz n al l eQ n td.2 0) ( MX n v59)
def x7(n:Nat)(l:List bY):Nat→(List Int)→Int→Option ano
 | 0=>λ_ _=>none
 |m+1=>Gp n l (x7 n l m)
def BI(l:List bY):Option ano:=(tb n l).bind λr1=>cond (!r1) ( some ([]:ano)) ( (hf n (IntKind.u64.wrap ((l.length:Nat):Int))).bind λr3=>(jQ n r3 ([]:List Int)).bind λbc=>x7 n l n bc.2 0)
def M3(cC:List Int):Option ano:=(rJ n cC).bind λej=>some ej.1
def Gq(l:List bC)(al:(List Int)→Int→Option ano)(v10:List Int)(v11:Int):Option ano:=cond (decide (v11<((l.length:Nat):Int))) ( aq (aH v11 l.length)<|(pA n ((anr l v11).Key)).bind λcK=>(jQ n cK v10).bind λei=>(vn n (⟨((anr l v11).b2).Kind,((anr l v11).b2).N,((anr l v11).b2).S⟩:br)).bind λda=>(jQ n da ei.2).bind λct=>al ct.2 (anq (v11+1))) ( M3 n v10)
def x8(n:Nat)(l:List bC):Nat→(List Int)→Int→Option ano
 | 0=>λ_ _=>none
 |m+1=>Gq n l (x8 n l m)
def Gr(l:List bC):Option ano:=(hf n (IntKind.u64.wrap ((l.length:Nat):Int))).bind λr1=>(jQ n r1 ([]:List Int)).bind λr2=>x8 n l n r2.2 0
def BJ(ar:cV)(Gs:List Int):Option ano:=(xQ n ar.Queue).bind λBK=>(jQ n BK Gs).bind λnU=>(hf n ar.dT).bind λrK=>(jQ n rK nU.2).bind λGt=>(rJ n Gt.2).bind λBL=>some BL.1
def Gu(ar:cV)(e4:(List Int)→Int→Option ano)(BM:List Int)(v37:Int):Option ano:=cond (decide (v37<((ar.bn.length:Nat):Int))) ( aq (aH v37 ar.bn.length)<|(pA n ((anr ar.bn v37).Key)).bind λte=>(jQ n te BM).bind λrL=>(pB n ((anr ar.bn v37).Count)).bind λk7=>(jQ n k7 rL.2).bind λhR=>e4 hR.2 (anq (v37+1))) ( BJ n ar BM)
def x9(n:Nat)(ar:cV):Nat→(List Int)→Int→Option ano
 | 0=>λ_ _=>none
 |m+1=>Gu n ar (x9 n ar m)
def x'(ar:cV)(fO:List Int):Option ano:=(BI n ar.ea).bind λdU=>(jQ n dU fO).bind λr24=>(Bn n ar.Place).bind λfa=>(jQ n fa r24.2).bind λr26=>(hf n (IntKind.u64.wrap ((ar.bn.length:Nat):Int))).bind λr27=>(jQ n r27 r26.2).bind λm6=>x9 n ar n m6.2 0
def Gv(ar:cV)(gB:(List Int)→Int→Option ano)(b0:List Int)(cB:Int):Option ano:=cond (decide (cB<((ar.eh.length:Nat):Int))) ( aq (aH cB ar.eh.length)<|(ta n (anr ar.eh cB)).bind λcL=>(pA n cL).bind λeC=>(jQ n eC b0).bind λfb=>gB fb.2 (anq (cB+1))) ( x' n ar b0)
def x_(n:Nat)(ar:cV):Nat→(List Int)→Int→Option ano
 | 0=>λ_ _=>none
 |m+1=>Gv n ar (x_ n ar m)
def tf(ar:cV):Option ano:=(Bm n ar.aR ar.Pos).bind λr1=>(pB n ar.Pos).bind λr2=>(jQ n r2 ([]:List Int)).bind λr3=>(Gr n r1.1).bind λbc=>(jQ n bc r3.2).bind λbQ=>(hf n (IntKind.u64.wrap ((ar.eh.length:Nat):Int))).bind λbe=>(jQ n be bQ.2).bind λbD=>x_ n ar n bD.2 0
def M4(n:Nat)(l:List bn):ans:=some (decide (((l.length:Nat):Int)≤32))
def Gw(l:List bn)(al:Int→ans)(v5:Int):ans:=cond (decide (v5<((l.length:Nat):Int))) ( aq (aH v5 l.length)<|(vm n ((anr l v5).Key)).bind λbD=>aq ((cond (cond (!bD) true (decide ((anr l v5).Count<1))) true (decide (1099511627776<(anr l v5).Count)))||(!(decide (0<v5))||aH (anq (v5-1)) l.length))<|cond (cond (cond (cond (!bD) true (decide ((anr l v5).Count<1))) true (decide (1099511627776<(anr l v5).Count))) true (cond (decide (0<v5)) (!(Op.bytesLess ((anr l (anq (v5-1))).Key) ((anr l v5).Key))) false)) ( some false) ( al (anq (v5+1)))) ( M4 n l)
def ya(n:Nat)(l:List bn):Nat→Int→ans
 | 0=>λ_=>none
 |m+1=>Gw n l (ya n l m)
def Gx(l:List bn):ans:=ya n l n 0
def M5(n:Nat):ans:=some true
def Gy(l:List aZ)(al:Int→ans)(v6:Int):ans:=cond (decide (v6<((l.length:Nat):Int))) ( aq (aH v6 l.length)<|(ta n (anr l v6)).bind λcH=>aq ((cond (decide (cH=([]:ano))) true (decide (16384<((cH.length:Nat):Int))))||(!(decide (0<v6))||aH (anq (v6-1)) l.length))<|cond (cond (cond (decide (cH=([]:ano))) true (decide (16384<((cH.length:Nat):Int)))) true (cond (decide (0<v6)) ((Op.bytesLess ((anr l v6).Name) ((anr l (anq (v6-1))).Name))||(decide (((anr l v6).Name)=((anr l (anq (v6-1))).Name)))) false)) ( some false) ( al (anq (v6+1)))) ( M5 n)
def yb(n:Nat)(l:List aZ):Nat→Int→ans
 | 0=>λ_=>none
 |m+1=>Gy n l (yb n l m)
def Gz(l:List aZ):ans:=cond (decide (16<((l.length:Nat):Int))) ( some false) ( yb n l n 0)
def M6(n:Nat)(s:ano):ans:=some (decide (((s.length:Nat):Int)≤24))
def GA(s:ano)(al:Int→ans)(v4:Int):ans:=cond (decide (v4<((s.length:Nat):Int))) ( aq (aH v4 s.length)<|aq ((decide ((((s.getD (v4).toNat 0).toNat:Nat):Int)<33))||aH v4 s.length)<|cond (cond (decide ((((s.getD (v4).toNat 0).toNat:Nat):Int)<33)) true (decide (126<(((s.getD (v4).toNat 0).toNat:Nat):Int)))) ( some false) ( al (anq (v4+1)))) ( M6 n s)
def yc(n:Nat)(s:ano):Nat→Int→ans
 | 0=>λ_=>none
 |m+1=>GA n s (yc n s m)
def BN(s:ano):ans:=yc n s n 0
def M7(n:Nat)(x:Part)(ad:Int):ans:=some (decide (x.Id=ad))
def M8(n:Nat)(ad:Int):ant:=some (-1)
def GB(s:List Part)(ad:Int)(al:Int→ant)(v4:Int):ant:=cond (decide (v4<((s.length:Nat):Int))) ( aq (aH v4 s.length)<|(M7 n (anr s v4) ad).bind λbe=>cond be ( some v4) ( al (anq (v4+1)))) ( M8 n ad)
def yd(n:Nat)(s:List Part)(ad:Int):Nat→Int→ant
 | 0=>λ_=>none
 |m+1=>GB n s ad (yd n s ad m)
def M9(s:List Part)(ad:Int):ant:=yd n s ad n 0
def M_(l:List Part)(id:Int):ant:=(M9 n l id).bind λr1=>some r1
def BO(n:Nat)(dZ:Int):ans:=some (cond (decide (1≤dZ)) (decide (dZ≤16)) false)
def Na(n:Nat)(dZ:Int):ans:=some (cond (decide (1≤dZ)) (decide (dZ≤1099511627776)) false)
def GC(l:List Part)(i:Int):ans:=aq (aH i l.length)<|cond (decide ((anr l i).iN=0)) ( some (decide (((anr l i).k4)=([]:ano)))) ( (BO n ((anr l i).iN)).bind λr3=>Option.bind (cond (cond r3 (!decide ((anr l i).iN=(anr l i).Node)) false) (BN n ((anr l i).k4)) (some default)) λbc=>aq (!(cond (cond (cond r3 (!decide ((anr l i).iN=(anr l i).Node)) false) bc false) (!(Op.bytesLess ((anr l i).k4) ((anr l i).gR))) false)||((decide ((anq (i+1))=((l.length:Nat):Int)))||aH (anq (i+1)) l.length))<|some (cond (cond (cond (cond r3 (!decide ((anr l i).iN=(anr l i).Node)) false) bc false) (!(Op.bytesLess ((anr l i).k4) ((anr l i).gR))) false) (cond (decide ((anq (i+1))=((l.length:Nat):Int))) true (Op.bytesLess ((anr l i).k4) ((anr l (anq (i+1))).gR))) false))
def Nb(n:Nat):ans:=some true
def GD(p:cD)(al:Int→ans)(v12:Int):ans:=cond (decide (v12<((p.bb.length:Nat):Int))) ( aq (aH v12 p.bb.length)<|Option.bind (cond (decide (0<v12)) (BN n ((anr p.bb v12).gR)) (some default)) λei=>aq (!(decide (0<v12))||((!ei)||aH (anq (v12-1)) p.bb.length))<|cond (cond (decide (0<v12)) (cond (!ei) true ((Op.bytesLess ((anr p.bb v12).gR) ((anr p.bb (anq (v12-1))).gR))||(decide (((anr p.bb v12).gR)=((anr p.bb (anq (v12-1))).gR))))) false) ( some false) ( (Na n ((anr p.bb v12).Id)).bind λct=>Option.bind (cond (!(!ct)) (BO n ((anr p.bb v12).Node)) (some default)) λcL=>Option.bind (cond (!(cond (!ct) true (!cL))) (GC n p.bb v12) (some default)) λeC=>aq ((cond (cond (!ct) true (!cL)) true (!eC))||gG v12 p.bb.length)<|Option.bind (cond (!(cond (cond (!ct) true (!cL)) true (!eC))) (M_ n (p.bb.take (v12).toNat) ((anr p.bb v12).Id)) (some default)) λej=>cond (cond (cond (cond (!ct) true (!cL)) true (!eC)) true (decide (0≤ej))) ( some false) ( al (anq (v12+1))))) ( Nb n)
def vB(n:Nat)(p:cD):Nat→Int→ans
 | 0=>λ_=>none
 |m+1=>GD n p (vB n p m)
def BP(p:cD):ans:=aq ((cond (cond (cond (decide (p.Version<0)) true (decide (1099511627776<p.Version))) true (decide (((p.bb.length:Nat):Int)<1))) true (decide (16<((p.bb.length:Nat):Int))))||aH 0 p.bb.length)<|cond (cond (cond (cond (cond (decide (p.Version<0)) true (decide (1099511627776<p.Version))) true (decide (((p.bb.length:Nat):Int)<1))) true (decide (16<((p.bb.length:Nat):Int)))) true (!(decide (((p.bb.getD 0 default).gR)=([]:ano))))) ( some false) ( vB n p n 0)
def Nc(ar:cV):ans:=(tb n ar.ea).bind λbz=>Option.bind (cond bz (BP n ar.Place) (some default)) λb9=>Option.bind (cond (cond bz b9 false) (Gx n ar.bn) (some default)) λcK=>some (cond (cond bz b9 false) cK false)
def GE(ar:cV)(al:Int→ans)(bu:Int):ans:=cond (decide (bu<((ar.Queue.length:Nat):Int))) ( aq (aH bu ar.Queue.length)<|(qu n (⟨(anr ar.Queue bu).Client,(anr ar.Queue bu).Seq,(anr ar.Queue bu).aZ,(anr ar.Queue bu).ao,(anr ar.Queue bu).fv,⟨((anr ar.Queue bu).bW).fo,((anr ar.Queue bu).bW).Reads,((anr ar.Queue bu).bW).es⟩⟩:Request)).bind λb4=>cond (!decide (b4=0)) ( some false) ( al (anq (bu+1)))) ( Nc n ar)
def vC(n:Nat)(ar:cV):Nat→Int→ans
 | 0=>λ_=>none
 |m+1=>GE n ar (vC n ar m)
def rM(ar:cV):ans:=Option.bind (cond (!(cond (decide (ar.Pos<0)) true (decide (1099511627776<ar.Pos)))) (vo n ar.aR) (some default)) λr1=>Option.bind (cond (!(cond (cond (cond (decide (ar.Pos<0)) true (decide (1099511627776<ar.Pos))) true (!r1)) true (!decide (ar.aR.dd=ar.Pos)))) (Gz n ar.eh) (some default)) λr2=>cond (cond (cond (cond (cond (cond (decide (ar.Pos<0)) true (decide (1099511627776<ar.Pos))) true (!r1)) true (!decide (ar.aR.dd=ar.Pos))) true (!r2)) true (decide (64<((ar.Queue.length:Nat):Int)))) ( some false) ( vC n ar n 0)
def BQ(ar:cV):Option (ano×Int):=(rM n ar).bind λr1=>cond (!r1) ( some (([]:ano),1)) ( (tf n ar).bind λr3=>cond (decide (16384<((r3.length:Nat):Int))) ( some (([]:ano),2)) ( some (r3,0)))
def ye(n:Nat)(cN:Int):ant:=some cN
def Nd(n:Nat)(p:bC):ans:=some (decide (p.b2.Kind=0))
def Nf(n:Nat):ant:=some (-1)
def GF(s:List bC)(al:Int→ant)(v4:Int):ant:=cond (decide (v4<((s.length:Nat):Int))) ( aq (aH v4 s.length)<|(Nd n (anr s v4)).bind λbe=>cond be ( some v4) ( al (anq (v4+1)))) ( Nf n)
def yf(n:Nat)(s:List bC):Nat→Int→ant
 | 0=>λ_=>none
 |m+1=>GF n s (yf n s m)
def Ng(s:List bC):ant:=yf n s n 0
def Nh(s:List bC):ans:=(Ng n s).bind λr1=>some (decide (0≤r1))
def Ni(n:Nat):ans:=some true
def GG(l:List bC)(al:Int→ans)(v6:Int):ans:=cond (decide (v6<((l.length:Nat):Int))) ( aq (aH v6 l.length)<|(vm n ((anr l v6).Key)).bind λcH=>Option.bind (cond (!(!cH)) (rI n (⟨((anr l v6).b2).Kind,((anr l v6).b2).N,((anr l v6).b2).S⟩:br)) (some default)) λb4=>aq ((cond (!cH) true (!b4))||(!(decide (0<v6))||aH (anq (v6-1)) l.length))<|cond (cond (cond (!cH) true (!b4)) true (cond (decide (0<v6)) (!(Op.bytesLess ((anr l (anq (v6-1))).Key) ((anr l v6).Key))) false)) ( some false) ( al (anq (v6+1)))) ( Ni n)
def yg(n:Nat)(l:List bC):Nat→Int→ans
 | 0=>λ_=>none
 |m+1=>GG n l (yg n l m)
def GH(l:List bC):ans:=yg n l n 0
def BR(l:List bC):ans:=(GH n l).bind λr1=>Option.bind (cond r1 (Nh n l) (some default)) λr2=>some (cond r1 (!r2) false)
def Nj(n:Nat)(dZ:Int):Option br:=some (⟨1,dZ,[]⟩:br)
def BS(n:Nat)(s:ano)(at_:Int):ans:=some (cond (decide (at_<0)) true (decide (((s.length:Nat):Int)<at_)))
def Uy(n:Nat):Option (Int×Int×Int):=some (0,0,5)
def Nk(s:ano)(at_:Int)(al:Int→Int→Option (Int×Int×Int))(bu:Int)(bG:Int):Option (Int×Int×Int):=cond (decide (bu<10)) ( cond (decide (((s.length:Nat):Int)≤(anq (at_+bu)))) ( some (0,0,6)) ( aq (aH (anq (at_+bu)) s.length)<|cond (cond (cond (decide (bu=9)) (decide (1<(((s.getD ((anq (at_+bu))).toNat 0).toNat:Nat):Int))) false) true (cond (decide ((((s.getD ((anq (at_+bu))).toNat 0).toNat:Nat):Int)=0)) (decide (0<bu)) false)) ( some (0,0,5)) ( aq (nA (anq (7*bu)))<|cond (decide ((((s.getD ((anq (at_+bu))).toNat 0).toNat:Nat):Int)<128)) ( some ((p3 .u64 bG (oq .u64 (IntKind.u64.wrap (o7 .u8 (((s.getD ((anq (at_+bu))).toNat 0).toNat:Nat):Int) 127)) (anq (7*bu)))),(anq ((anq (at_+bu))+1)),0)) ( al (anq (bu+1)) (p3 .u64 bG (oq .u64 (IntKind.u64.wrap (o7 .u8 (((s.getD ((anq (at_+bu))).toNat 0).toNat:Nat):Int) 127)) (anq (7*bu)))))))) ( Uy n)
def BT(n:Nat)(s:ano)(at_:Int):Nat→Int→Int→Option (Int×Int×Int)
 | 0=>λ_ _=>none
 |m+1=>Nk n s at_ (BT n s at_ m)
def rN(s:ano)(at_:Int):Option (Int×Int×Int):=(BS n s at_).bind λr1=>cond r1 ( some (0,0,1)) ( BT n s at_ n 0 0)
def yh(s:ano)(at_:Int):Option (Int×Int×Int):=(rN n s at_).bind λr1=>cond (!decide (r1.2.2=0)) ( some (0,0,r1.2.2)) ( some ((mi .i64 (anq (mN .u64 r1.1 1)) (anq (0-(anq (o7 .u64 r1.1 1))))),r1.2.1,0))
def pD(s:ano)(at_:Int)(cN:Int):Option (Int×Int×Int):=(rN n s at_).bind λr1=>cond (!decide (r1.2.2=0)) ( some (0,0,r1.2.2)) ( cond (cond (decide (cN<0)) true (decide ((IntKind.u64.wrap cN)<r1.1))) ( some (0,0,2)) ( cond (decide ((IntKind.u64.wrap (anq (((s.length:Nat):Int)-r1.2.1)))<r1.1)) ( some (0,0,6)) ( some ((anq r1.1),r1.2.1,0))))
def tg(s:ano)(at_:Int)(cN:Int):Option (ano×Int×Int):=(pD n s at_ cN).bind λr1=>cond (!decide (r1.2.2=0)) ( some (([]:ano),0,r1.2.2)) ( aq (lm r1.2.1 (anq (r1.2.1+r1.1)) s.length)<|some (((s.take ((anq (r1.2.1+r1.1))).toNat).drop (r1.2.1).toNat),(anq (r1.2.1+r1.1)),0))
def BU(n:Nat)(b4:ano×Int×Int)(v11:Int):Option (br×Int×Int):=cond (!decide (v11=0)) ( some ((⟨0,0,[]⟩:br),0,v11)) ( some ((⟨2,0,b4.1⟩:br),b4.2.1,0))
def yi(s:ano)(at_:Int):Option (br×Int×Int):=(rN n s at_).bind λr1=>cond (!decide (r1.2.2=0)) ( some ((⟨0,0,[]⟩:br),0,r1.2.2)) ( cond (decide (r1.1=0)) ( some ((⟨0,0,[]⟩:br),r1.2.1,0)) ( cond (decide (r1.1=1)) ( (yh n s r1.2.1).bind λbQ=>cond (!decide (bQ.2.2=0)) ( some ((⟨0,0,[]⟩:br),0,bQ.2.2)) ( (Nj n bQ.1).bind λbD=>some (bD,bQ.2.1,0))) ( cond (decide (r1.1=2)) ( (tg n s r1.2.1 64).bind λb4=>Option.bind (cond (decide (b4.2.2=0)) (Bf n b4.1) (some default)) λc_=>cond (cond (decide (b4.2.2=0)) (!c_) false) ( BU n b4 5) ( BU n b4 b4.2.2)) ( some ((⟨0,0,[]⟩:br),0,5)))))
def GI(ck:Int)(cC:List bC):Option ((List bC)×Int×Int):=(BR n cC).bind λej=>cond (!ej) ( some (([]:List bC),0,5)) ( some (cC,ck,0))
def GJ(s:ano)(r1:Int×Int×Int)(al:Int→Int→(List bC)→Option ((List bC)×Int×Int))(v9:Int)(v10:Int)(v11:List bC):Option ((List bC)×Int×Int):=cond (decide (v10<r1.1)) ( (tg n s v9 24).bind λb9=>cond (!decide (b9.2.2=0)) ( some (([]:List bC),0,b9.2.2)) ( (yi n s b9.2.1).bind λcK=>cond (!decide (cK.2.2=0)) ( some (([]:List bC),0,cK.2.2)) ( aq (room (v11.length+([(⟨b9.1,cK.1⟩:bC)]:List bC).length) 48)<|al cK.2.1 (anq (v10+1)) (v11++([(⟨b9.1,cK.1⟩:bC)]:List bC))))) ( GI n v9 v11)
def vD(n:Nat)(s:ano)(r1:Int×Int×Int):Nat→Int→Int→(List bC)→Option ((List bC)×Int×Int)
 | 0=>λ_ _ _=>none
 |m+1=>GJ n s r1 (vD n s r1 m)
def GK(s:ano)(at_:Int):Option ((List bC)×Int×Int):=(pD n s at_ 2147483647).bind λr1=>cond (!decide (r1.2.2=0)) ( some (([]:List bC),0,r1.2.2)) ( vD n s r1 n r1.2.1 0 ([]:List bC))
def yj(ad:eX):Option ((List bC)×Int×Int):=cond (!decide (ad.e=0)) ( some (([]:List bC),ad.at_,ad.e)) ( (GK n ad.s ad.at_).bind λr2=>cond (!decide (r2.2.2=0)) ( some (([]:List bC),ad.at_,r2.2.2)) ( some (r2.1,r2.2.1,r2.2.2)))
def rO(ad:oI):Option (Int×Int×Int):=cond (!decide (ad.e=0)) ( some (0,ad.at_,ad.e)) ( (yh n ad.s ad.at_).bind λr2=>some (r2.1,r2.2.1,r2.2.2))
def vE(ad:oI):Option (ano×Int×Int):=cond (!decide (ad.e=0)) ( some (([]:ano),ad.at_,ad.e)) ( (tg n ad.s ad.at_ 24).bind λr2=>some (r2.1,r2.2.1,r2.2.2))
def GL(n:Nat)(s:ano)(v28:Int)(r1:Int×Int×Int)(v30:List Part)(mz:Int):Option (cD×Int×Int):=cond (!decide (mz=0)) ( some ((⟨0,[]⟩:cD),0,mz)) ( some ((⟨r1.1,v30⟩:cD),v28,0))
def BV(s:ano)(r1:Int×Int×Int)(v28:Int)(h2:Int)(v30:List Part):Option (cD×Int×Int):=Option.bind (cond (decide (h2=0)) (BP n (⟨r1.1,v30⟩:cD)) (some default)) λfp=>cond (cond (decide (h2=0)) (!fp) false) ( GL n s v28 r1 v30 5) ( GL n s v28 r1 v30 h2)
def yk(r3:Int×Int×Int)(s:ano)(r1:Int×Int×Int)(e4:Int→Int→(List Part)→Int→Option (cD×Int×Int))(b0:Int)(cB:Int)(de:List Part)(aQ:Int):Option (cD×Int×Int):=cond (decide (aQ<r3.1)) ( (rO n (⟨s,b0,cB⟩:oI)).bind λeC=>(vE n (⟨s,eC.2.1,eC.2.2⟩:oI)).bind λfb=>(rO n (⟨s,fb.2.1,fb.2.2⟩:oI)).bind λej=>(rO n (⟨s,ej.2.1,ej.2.2⟩:oI)).bind λe8=>(vE n (⟨s,e8.2.1,e8.2.2⟩:oI)).bind λcR=>aq (room (de.length+([(⟨eC.1,fb.1,ej.1,e8.1,cR.1⟩:Part)]:List Part).length) 56)<|e4 cR.2.1 cR.2.2 (de++([(⟨eC.1,fb.1,ej.1,e8.1,cR.1⟩:Part)]:List Part)) (anq (aQ+1))) ( BV n s r1 b0 cB de)
def rP(n:Nat)(r3:Int×Int×Int)(s:ano)(r1:Int×Int×Int):Nat→Int→Int→(List Part)→Int→Option (cD×Int×Int)
 | 0=>λ_ _ _ _=>none
 |m+1=>yk n r3 s r1 (rP n r3 s r1 m)
def GM(s:ano)(at_:Int):Option (cD×Int×Int):=(rO n (⟨s,at_,0⟩:oI)).bind λr1=>cond (!decide (r1.2.2=0)) ( some ((⟨0,[]⟩:cD),0,r1.2.2)) ( (pD n s r1.2.1 16).bind λr3=>rP n r3 s r1 n r3.2.1 r3.2.2 ([]:List Part) 0)
def yl(ad:eX):Option (cD×Int×Int):=cond (!decide (ad.e=0)) ( some ((⟨0,[]⟩:cD),ad.at_,ad.e)) ( (GM n ad.s ad.at_).bind λr2=>cond (!decide (r2.2.2=0)) ( some ((⟨0,[]⟩:cD),ad.at_,r2.2.2)) ( some (r2.1,r2.2.1,r2.2.2)))
def pE(n:Nat)(next:Int)(e:Int)(ad:hy):Option (Int×Int):=some (next,e)
def vF(cN:Int)(ad:hy):Option (Int×Int×Int):=cond (!decide (ad.e=0)) ( some (0,ad.at_,ad.e)) ( (pD n ad.s ad.at_ cN).bind λr2=>(pE n r2.2.1 r2.2.2 ad).bind λr3=>some (r2.1,r3.1,r3.2))
def GN(s:ano)(at_:Int):Option (Bool×Int×Int):=(BS n s at_).bind λr1=>cond r1 ( some (false,0,1)) ( cond (decide (at_=((s.length:Nat):Int))) ( some (false,0,6)) ( aq (aH at_ s.length)<|cond (decide (1<(((s.getD (at_).toNat 0).toNat:Nat):Int))) ( some (false,0,5)) ( aq (aH at_ s.length)<|some ((decide ((((s.getD (at_).toNat 0).toNat:Nat):Int)=1)),(anq (at_+1)),0))))
def ym(ad:hy):Option (Bool×Int×Int):=cond (!decide (ad.e=0)) ( some (false,ad.at_,ad.e)) ( (GN n ad.s ad.at_).bind λr2=>(pE n r2.2.1 r2.2.2 ad).bind λr3=>some (r2.1,r3.1,r3.2))
def vG(cN:Int)(ad:hy):Option (ano×Int×Int):=cond (!decide (ad.e=0)) ( some (([]:ano),ad.at_,ad.e)) ( (tg n ad.s ad.at_ cN).bind λr2=>(pE n r2.2.1 r2.2.2 ad).bind λr3=>some (r2.1,r3.1,r3.2))
def GO(n:Nat)(ad:hy)(ck:Int)(cC:Int)(v20:List ano):Option ((List ano)×Int×Int):=some (v20,ck,cC)
def yn(r1:Int×Int×Int)(ad:hy)(al:Int→Int→(List ano)→Int→Option ((List ano)×Int×Int))(bG:Int)(v9:Int)(v10:List ano)(v11:Int):Option ((List ano)×Int×Int):=cond (decide (v11<r1.1)) ( (vG n 24 (⟨ad.s,bG,v9⟩:hy)).bind λb9=>aq (room (v10.length+([b9.1]:List ano).length) 16)<|al b9.2.1 b9.2.2 (v10++([b9.1]:List ano)) (anq (v11+1))) ( GO n ad bG v9 v10)
def rQ(n:Nat)(r1:Int×Int×Int)(ad:hy):Nat→Int→Int→(List ano)→Int→Option ((List ano)×Int×Int)
 | 0=>λ_ _ _ _=>none
 |m+1=>yn n r1 ad (rQ n r1 ad m)
def th(ad:hy):Option ((List ano)×Int×Int):=(vF n 64 ad).bind λr1=>rQ n r1 ad n r1.2.1 r1.2.2 ([]:List ano) 0
def vH(ad:hy):Option (Int×Int×Int):=cond (!decide (ad.e=0)) ( some (0,ad.at_,ad.e)) ( (rN n ad.s ad.at_).bind λr2=>(pE n r2.2.1 r2.2.2 ad).bind λr3=>some (r2.1,r3.1,r3.2))
def yo(ad:hy):Option (br×Int×Int):=cond (!decide (ad.e=0)) ( some ((⟨0,0,[]⟩:br),ad.at_,ad.e)) ( (yi n ad.s ad.at_).bind λr2=>(pE n r2.2.1 r2.2.2 ad).bind λr3=>some (r2.1,r3.1,r3.2))
def rR(r1:Int×Int×Int)(r2:Int×Int×Int)(s:ano)(r3:ano×Int×Int)(hz:List br)(r24:Bool×Int×Int)(m7:Int)(v28:Int)(h2:List ano)(v30:List ano):Option (Request×Int×Int):=cond (!decide (v28=0)) ( some ((⟨0,0,[],[],false,⟨false,[],[]⟩⟩:Request),0,v28)) ( cond (cond (decide (32<r1.1)) true (decide (1099511627776<r2.1))) ( some ((⟨0,0,[],[],false,⟨false,[],[]⟩⟩:Request),0,5)) ( (qu n (⟨(anq r1.1),(anq r2.1),r3.1,hz,r24.1,⟨false,h2,v30⟩⟩:Request)).bind λnT=>cond (!decide (nT=0)) ( some ((⟨0,0,[],[],false,⟨false,[],[]⟩⟩:Request),0,5)) ( some ((⟨(anq r1.1),(anq r2.1),r3.1,hz,r24.1,⟨false,h2,v30⟩⟩:Request),m7,0))))
def yp(r1:Int×Int×Int)(r2:Int×Int×Int)(s:ano)(r3:ano×Int×Int)(v21:Int)(fO:Int)(hz:List br):Option (Request×Int×Int):=(ym n (⟨s,v21,fO⟩:hy)).bind λr24=>cond r24.1 ( (th n (⟨s,r24.2.1,r24.2.2⟩:hy)).bind λfa=>(th n (⟨s,fa.2.1,fa.2.2⟩:hy)).bind λr26=>rR n r1 r2 s r3 hz r24 r26.2.1 r26.2.2 fa.1 r26.1) ( rR n r1 r2 s r3 hz r24 r24.2.1 r24.2.2 ([]:List ano) ([]:List ano))
def yq(r1:Int×Int×Int)(r2:Int×Int×Int)(bc:Int×Int×Int)(s:ano)(r3:ano×Int×Int)(e4:Int→Int→(List br)→Int→Option (Request×Int×Int))(v11:Int)(v12:Int)(eL:List br)(b0:Int):Option (Request×Int×Int):=cond (decide (b0<bc.1)) ( (yo n (⟨s,v11,v12⟩:hy)).bind λda=>aq (room (eL.length+([da.1]:List br).length) 32)<|e4 da.2.1 da.2.2 (eL++([da.1]:List br)) (anq (b0+1))) ( yp n r1 r2 s r3 v11 v12 eL)
def rS(n:Nat)(r1:Int×Int×Int)(r2:Int×Int×Int)(bc:Int×Int×Int)(s:ano)(r3:ano×Int×Int):Nat→Int→Int→(List br)→Int→Option (Request×Int×Int)
 | 0=>λ_ _ _ _=>none
 |m+1=>yq n r1 r2 bc s r3 (rS n r1 r2 bc s r3 m)
def GP(s:ano)(at_:Int):Option (Request×Int×Int):=(vH n (⟨s,at_,0⟩:hy)).bind λr1=>(vH n (⟨s,r1.2.1,r1.2.2⟩:hy)).bind λr2=>(vG n 16 (⟨s,r2.2.1,r2.2.2⟩:hy)).bind λr3=>(vF n 6 (⟨s,r3.2.1,r3.2.2⟩:hy)).bind λbc=>rS n r1 r2 bc s r3 n bc.2.1 bc.2.2 ([]:List br) 0
def Nl(n:Nat)(de:List Request)(aQ:Int):Option ((List Request)×Int×Int):=some (de,aQ,0)
def GQ(s:ano)(r1:Int×Int×Int)(al:(List Request)→Int→Int→Option ((List Request)×Int×Int))(bG:List Request)(v9:Int)(v10:Int):Option ((List Request)×Int×Int):=cond (decide (v9<r1.1)) ( (GP n s v10).bind λbz=>cond (!decide (bz.2.2=0)) ( some (([]:List Request),0,bz.2.2)) ( aq (room (bG.length+([bz.1]:List Request).length) 120)<|al (bG++([bz.1]:List Request)) (anq (v9+1)) bz.2.1)) ( Nl n bG v10)
def vI(n:Nat)(s:ano)(r1:Int×Int×Int):Nat→(List Request)→Int→Int→Option ((List Request)×Int×Int)
 | 0=>λ_ _ _=>none
 |m+1=>GQ n s r1 (vI n s r1 m)
def GR(s:ano)(at_:Int):Option ((List Request)×Int×Int):=(pD n s at_ 64).bind λr1=>cond (!decide (r1.2.2=0)) ( some (([]:List Request),0,r1.2.2)) ( vI n s r1 n ([]:List Request) 0 r1.2.1)
def yr(ad:eX):Option ((List Request)×Int×Int):=cond (!decide (ad.e=0)) ( some (([]:List Request),ad.at_,ad.e)) ( (GR n ad.s ad.at_).bind λr2=>cond (!decide (r2.2.2=0)) ( some (([]:List Request),ad.at_,r2.2.2)) ( some (r2.1,r2.2.1,r2.2.2)))
def yt(n:Nat)(r2:Int×Int×Int)(ad:kI)(v3:Int):Option (Int×Int×Int):=cond (!decide (v3=0)) ( some (0,ad.at_,v3)) ( some ((anq r2.1),r2.2.1,v3))
def rT(least:Int)(cN:Int)(ad:kI):Option (Int×Int×Int):=cond (!decide (ad.e=0)) ( some (0,ad.at_,ad.e)) ( (rN n ad.s ad.at_).bind λr2=>cond (cond (decide (r2.2.2=0)) (cond (decide (r2.1<least)) true (decide (cN<r2.1))) false) ( yt n r2 ad 5) ( yt n r2 ad r2.2.2))
def BW(n:Nat)(ad:kI)(r1:Int×Int×Int)(r2:Int×Int×Int)(v21:Int)(fO:Int)(hz:List br):Option (Outcome×Int×Int):=some ((⟨r1.1,r2.1,hz⟩:Outcome),v21,fO)
def yu(bc:Int×Int×Int)(ad:kI)(r1:Int×Int×Int)(r2:Int×Int×Int)(al:Int→Int→(List br)→Int→Option (Outcome×Int×Int))(v11:Int)(v12:Int)(eL:List br)(b0:Int):Option (Outcome×Int×Int):=cond (cond (decide (b0<bc.1)) (decide (v12=0)) false) ( (yi n ad.s v11).bind λda=>aq (room (eL.length+([da.1]:List br).length) 32)<|al da.2.1 da.2.2 (eL++([da.1]:List br)) (anq (b0+1))) ( BW n ad r1 r2 v11 v12 eL)
def ti(n:Nat)(bc:Int×Int×Int)(ad:kI)(r1:Int×Int×Int)(r2:Int×Int×Int):Nat→Int→Int→(List br)→Int→Option (Outcome×Int×Int)
 | 0=>λ_ _ _ _=>none
 |m+1=>yu n bc ad r1 r2 (ti n bc ad r1 r2 m)
def BX(ad:kI):Option (Outcome×Int×Int):=(rT n 0 9999 ad).bind λr1=>(rT n 0 9999 (⟨ad.s,r1.2.1,r1.2.2⟩:kI)).bind λr2=>cond (!decide (r2.2.2=0)) ( some ((⟨r1.1,r2.1,[]⟩:Outcome),r2.2.1,r2.2.2)) ( (pD n ad.s r2.2.1 16).bind λbc=>ti n bc ad r1 r2 n bc.2.1 bc.2.2 ([]:List br) 0)
def GS(n:Nat)(ad:kI)(r1:Int×Int×Int)(r2:Int×Int×Int)(v21:Int)(fO:Int)(hz:List eK):Option (bY×Int×Int):=some ((⟨r1.1,r2.1,hz⟩:bY),v21,fO)
def BY(bc:Int)(ad:kI)(r1:Int×Int×Int)(r2:Int×Int×Int)(al:Int→Int→(List eK)→Int→Option (bY×Int×Int))(v11:Int)(v12:Int)(eL:List eK)(b0:Int):Option (bY×Int×Int):=cond (cond (decide (b0<bc)) (decide (v12=0)) false) ( (BX n (⟨ad.s,v11,v12⟩:kI)).bind λda=>aq (room (eL.length+([(⟨r1.1,(anq (r2.1-(anq (bc-b0)))),da.1⟩:eK)]:List eK).length) 56)<|al da.2.1 da.2.2 (eL++([(⟨r1.1,(anq (r2.1-(anq (bc-b0)))),da.1⟩:eK)]:List eK)) (anq (b0+1))) ( GS n ad r1 r2 v11 v12 eL)
def vJ(n:Nat)(bc:Int)(ad:kI)(r1:Int×Int×Int)(r2:Int×Int×Int):Nat→Int→Int→(List eK)→Int→Option (bY×Int×Int)
 | 0=>λ_ _ _ _=>none
 |m+1=>BY n bc ad r1 r2 (vJ n bc ad r1 r2 m)
def BZ(ad:kI):Option (bY×Int×Int):=(rT n 1 32 ad).bind λr1=>(rT n 1 1099511627776 (⟨ad.s,r1.2.1,r1.2.2⟩:kI)).bind λr2=>cond (!decide (r2.2.2=0)) ( some ((⟨r1.1,r2.1,[]⟩:bY),r2.2.1,r2.2.2)) ( (BD n r2.1).bind λbc=>vJ n bc ad r1 r2 n r2.2.1 r2.2.2 ([]:List eK) 0)
def B0(s:ano)(cC:Int)(v20:Int)(v21:List bY):Option ((List bY)×Int×Int):=cond (!decide (v20=0)) ( some (([]:List bY),0,v20)) ( (tb n v21).bind λdU=>cond (!dU) ( some (([]:List bY),0,5)) ( some (v21,cC,0)))
def B1(r1:Int×Int×Int)(s:ano)(al:Int→Int→(List bY)→Int→Option ((List bY)×Int×Int))(v9:Int)(v10:Int)(v11:List bY)(v12:Int):Option ((List bY)×Int×Int):=cond (cond (decide (v12<r1.1)) (decide (v10=0)) false) ( (BZ n (⟨s,v9,v10⟩:kI)).bind λcK=>aq (room (v11.length+([cK.1]:List bY).length) 40)<|al cK.2.1 cK.2.2 (v11++([cK.1]:List bY)) (anq (v12+1))) ( B0 n s v9 v10 v11)
def vK(n:Nat)(r1:Int×Int×Int)(s:ano):Nat→Int→Int→(List bY)→Int→Option ((List bY)×Int×Int)
 | 0=>λ_ _ _ _=>none
 |m+1=>B1 n r1 s (vK n r1 s m)
def GT(s:ano)(at_:Int):Option ((List bY)×Int×Int):=(pD n s at_ 32).bind λr1=>cond (!decide (r1.2.2=0)) ( some (([]:List bY),0,r1.2.2)) ( vK n r1 s n r1.2.1 0 ([]:List bY) 0)
def yv(ad:eX):Option ((List bY)×Int×Int):=cond (!decide (ad.e=0)) ( some (([]:List bY),ad.at_,ad.e)) ( (GT n ad.s ad.at_).bind λr2=>cond (!decide (r2.2.2=0)) ( some (([]:List bY),ad.at_,r2.2.2)) ( some (r2.1,r2.2.1,r2.2.2)))
def Nm(s:ano)(at_:Int)(a2:Int):Option (Int×Int×Int):=(pD n s at_ a2).bind λr1=>some (r1.1,r1.2.1,r1.2.2)
def vL(p:Int)(ad:eX):Option (Int×Int×Int):=cond (!decide (ad.e=0)) ( some (0,ad.at_,ad.e)) ( (Nm n ad.s ad.at_ p).bind λr2=>cond (!decide (r2.2.2=0)) ( some (0,ad.at_,r2.2.2)) ( some (r2.1,r2.2.1,r2.2.2)))
def vM(ad:eX):Option (Int×Int×Int):=cond (!decide (ad.e=0)) ( some (0,ad.at_,ad.e)) ( (yh n ad.s ad.at_).bind λr2=>cond (!decide (r2.2.2=0)) ( some (0,ad.at_,r2.2.2)) ( some (r2.1,r2.2.1,r2.2.2)))
def Nn(s:ano)(at_:Int)(a2:Int):Option (ano×Int×Int):=(tg n s at_ a2).bind λr1=>some (r1.1,r1.2.1,r1.2.2)
def B2(p:Int)(ad:eX):Option (ano×Int×Int):=cond (!decide (ad.e=0)) ( some (([]:ano),ad.at_,ad.e)) ( (Nn n ad.s ad.at_ p).bind λr2=>cond (!decide (r2.2.2=0)) ( some (([]:ano),ad.at_,r2.2.2)) ( some (r2.1,r2.2.1,r2.2.2)))
def yw(ad:eX):Option (Int×Int×Int):=cond (!decide (ad.e=0)) ( some (0,ad.at_,ad.e)) ( (rN n ad.s ad.at_).bind λr2=>cond (!decide (r2.2.2=0)) ( some (0,ad.at_,r2.2.2)) ( some (r2.1,r2.2.1,r2.2.2)))
def B3(n:Nat)(cN:Int):ant:=some cN
def tj(ad:eX)(r1:Int×Int×Int)(r26:(List bY)×Int×Int)(r27:cD×Int×Int)(r2:(List bC)×Int×Int)(v25:List ano)(GU:Int)(v51:Int)(GV:List bn):Option (oH×Int×Int):=(yr n (⟨ad.s,GU,v51⟩:eX)).bind λyx=>(yw n (⟨ad.s,yx.2.1,yx.2.2⟩:eX)).bind λkK=>some ((⟨⟨r1.1,⟨0,0,[]⟩,[],r26.1,r27.1,GV,yx.1,kK.1⟩,r2.1,v25⟩:oH),kK.2.1,kK.2.2)
def B4(ad:eX)(r1:Int×Int×Int)(r26:(List bY)×Int×Int)(r27:cD×Int×Int)(r2:(List bC)×Int×Int)(v25:List ano)(e4:Int→Int→(List bn)→Int→Option (oH×Int×Int))(je:Int)(lC:Int)(v40:List bn)(k8:Int):Option (oH×Int×Int):=cond (cond (decide (0<k8)) (decide (lC=0)) false) ( (B3 n 24).bind λhR=>(B2 n hR (⟨ad.s,je,lC⟩:eX)).bind λnV=>(vM n (⟨ad.s,nV.2.1,nV.2.2⟩:eX)).bind λgm=>aq (room (v40.length+([(⟨nV.1,gm.1⟩:bn)]:List bn).length) 24)<|e4 gm.2.1 gm.2.2 (v40++([(⟨nV.1,gm.1⟩:bn)]:List bn)) (anq (k8-1))) ( tj n ad r1 r26 r27 r2 v25 je lC v40)
def qA(n:Nat)(ad:eX)(r1:Int×Int×Int)(r26:(List bY)×Int×Int)(r27:cD×Int×Int)(r2:(List bC)×Int×Int)(v25:List ano):Nat→Int→Int→(List bn)→Int→Option (oH×Int×Int)
 | 0=>λ_ _ _ _=>none
 |m+1=>B4 n ad r1 r26 r27 r2 v25 (qA n ad r1 r26 r27 r2 v25 m)
def tk(ad:eX)(r1:Int×Int×Int)(r2:(List bC)×Int×Int)(hz:Int)(v24:Int)(v25:List ano):Option (oH×Int×Int):=(yv n (⟨ad.s,hz,v24⟩:eX)).bind λr26=>(yl n (⟨ad.s,r26.2.1,r26.2.2⟩:eX)).bind λr27=>(ye n 32).bind λm6=>(vL n m6 (⟨ad.s,r27.2.1,r27.2.2⟩:eX)).bind λfc=>qA n ad r1 r26 r27 r2 v25 n fc.2.1 fc.2.2 ([]:List bn) fc.1
def B5(ad:eX)(r1:Int×Int×Int)(r2:(List bC)×Int×Int)(gB:Int→Int→(List ano)→Int→Option (oH×Int×Int))(v12:Int)(eL:Int)(b0:List ano)(cB:Int):Option (oH×Int×Int):=cond (cond (decide (0<cB)) (decide (eL=0)) false) ( (B3 n 16384).bind λct=>(B2 n ct (⟨ad.s,v12,eL⟩:eX)).bind λcL=>aq (room (b0.length+([cL.1]:List ano).length) 16)<|gB cL.2.1 cL.2.2 (b0++([cL.1]:List ano)) (anq (cB-1))) ( tk n ad r1 r2 v12 eL b0)
def tl(n:Nat)(ad:eX)(r1:Int×Int×Int)(r2:(List bC)×Int×Int):Nat→Int→Int→(List ano)→Int→Option (oH×Int×Int)
 | 0=>λ_ _ _ _=>none
 |m+1=>B5 n ad r1 r2 (tl n ad r1 r2 m)
def B6(ad:eX):Option (oH×Int×Int):=(vM n ad).bind λr1=>(yj n (⟨ad.s,r1.2.1,r1.2.2⟩:eX)).bind λr2=>(ye n 16).bind λr3=>(vL n r3 (⟨ad.s,r2.2.1,r2.2.2⟩:eX)).bind λbc=>tl n ad r1 r2 n bc.2.1 bc.2.2 ([]:List ano) bc.1
def GW(n:Nat):Option (ano×Int×Int):=some (([]:ano),0,6)
def No(n:Nat)(al:(List Int)→Int→Option (ano×Int×Int))(s:ano)(cC:List Int)(v20:Int):Option (ano×Int×Int):=al cC (anq (v20+1))
def GX(al:(List Int)→Int→Option (ano×Int×Int))(s:ano)(v11:List Int)(de:Int)(aQ:Int):Option (ano×Int×Int):=cond (cond (decide (aQ<32)) true (decide (126<aQ))) ( some (([]:ano),0,5)) ( cond (decide (((v11.length:Nat):Int)=64)) ( some (([]:ano),0,2)) ( aq (room (v11.length+([aQ]:List Int).length) 1)<|No n al s (v11++([aQ]:List Int)) de))
def Np(s:ano)(al:(List Int)→Int→Option (ano×Int×Int))(v11:List Int)(v12:Int):Option (ano×Int×Int):=cond (decide (v12<((s.length:Nat):Int))) ( aq (aH v12 s.length)<|cond (decide ((((s.getD (v12).toNat 0).toNat:Nat):Int)=34)) ( aq (mZ v11)<|some ((jP v11),(anq (v12+1)),0)) ( cond (decide ((((s.getD (v12).toNat 0).toNat:Nat):Int)=92)) ( cond (decide ((anq (v12+1))=((s.length:Nat):Int))) ( GW n) ( aq (aH (anq (v12+1)) s.length)<|cond (cond (!decide ((((s.getD ((anq (v12+1))).toNat 0).toNat:Nat):Int)=34)) (!decide ((((s.getD ((anq (v12+1))).toNat 0).toNat:Nat):Int)=92)) false) ( some (([]:ano),0,5)) ( GX n al s v11 (anq (v12+1)) (((s.getD ((anq (v12+1))).toNat 0).toNat:Nat):Int)))) ( GX n al s v11 v12 (((s.getD (v12).toNat 0).toNat:Nat):Int)))) ( GW n)
def yy(n:Nat)(s:ano):Nat→(List Int)→Int→Option (ano×Int×Int)
 | 0=>λ_ _=>none
 |m+1=>Np n s (yy n s m)
def Nq(s:ano):Option (ano×Int×Int):=yy n s n ([]:List Int) 1
def Nr(s:ano)(c:Int):ant:=(Fw n s c).bind λr1=>some r1
def B7(s:ano):Option ano:=aq (!(!(decide (s=([]:ano))))||aH 0 s.length)<|Option.bind (cond (!(decide (s=([]:ano)))) (Nr n ([40,41,123,125,44,59,58,61,60,62,43,45,42,47,37]:ano) (((s.getD 0 0).toNat:Nat):Int)) (some default)) λbQ=>cond (cond (!(decide (s=([]:ano)))) (decide (0≤bQ)) false) ( aq (gG 1 s.length)<|some (s.take 1)) ( some ([]:ano))
def vN(s:ano)(v2:Bool):Option ano:=cond v2 ( aq (gG 2 s.length)<|some (s.take 2)) ( B7 n s)
def GY(s:ano):Option ano:=cond (decide (2≤((s.length:Nat):Int))) ( aq (gG 2 s.length)<|cond (decide ((s.take 2)=([61,61]:ano))) ( vN n s (decide ((s.take 2)=([61,61]:ano)))) ( cond (decide ((s.take 2)=([33,61]:ano))) ( vN n s (decide ((s.take 2)=([33,61]:ano)))) ( cond (decide ((s.take 2)=([60,61]:ano))) ( vN n s (decide ((s.take 2)=([60,61]:ano)))) ( cond (decide ((s.take 2)=([62,61]:ano))) ( vN n s (decide ((s.take 2)=([62,61]:ano)))) ( vN n s (decide ((s.take 2)=([43,43]:ano)))))))) ( B7 n s)
def B8(s:ano)(v3:ano)(v4:Bool)(v10:Int):Option (Int×Int):=aq ((cond (decide (v10=0)) true (decide (v10<((v3.length:Nat):Int))))||aH 0 v3.length)<|cond (cond (cond (decide (v10=0)) true (decide (v10<((v3.length:Nat):Int)))) true (cond (decide ((((v3.getD 0 0).toNat:Nat):Int)=48)) (cond (decide (1<v10)) true v4) false)) ( some (0,5)) ( (xI n s 10 64).bind λcK=>hZ.on cK (λUz=>cond (!true) ( some (0,3)) ( some (Uz,0))) (λUA=>cond (!false) ( some (0,3)) ( some (UA,0))))
def Ns(s:ano)(v3:ano)(v4:Bool)(e4:Int→Option (Int×Int))(bu:Int):Option (Int×Int):=cond (decide (bu<((v3.length:Nat):Int))) ( aq (aH bu v3.length)<|cond (cond (decide (48≤(((v3.getD (bu).toNat 0).toNat:Nat):Int))) (decide ((((v3.getD (bu).toNat 0).toNat:Nat):Int)≤57)) false) ( e4 (anq (bu+1))) ( B8 n s v3 v4 bu)) ( B8 n s v3 v4 bu)
def yz(n:Nat)(s:ano)(v3:ano)(v4:Bool):Nat→Int→Option (Int×Int)
 | 0=>λ_=>none
 |m+1=>Ns n s v3 v4 (yz n s v3 v4 m)
def GZ(s:ano)(v3:ano)(v4:Bool):Option (Int×Int):=yz n s v3 v4 n 0
def G0(s:ano):Option (Int×Int):=aq (!(decide (0<((s.length:Nat):Int)))||aH 0 s.length)<|cond (cond (decide (0<((s.length:Nat):Int))) (decide ((((s.getD 0 0).toNat:Nat):Int)=45)) false) ( aq (gG 1 s.length)<|GZ n s (s.drop 1) true) ( GZ n s s false)
def G1(w:ano):Option (Token×Int):=aq (aH 0 w.length)<|cond (decide ((((w.getD 0 0).toNat:Nat):Int)=95)) ( some ((⟨0,[],0,0⟩:Token),5)) ( aq (aH 0 w.length)<|(Bd n (IntKind.i32.wrap (((w.getD 0 0).toNat:Nat):Int))).bind λbc=>cond bc ( (Bc n w).bind λbe=>cond be ( some ((⟨2,w,0,0⟩:Token),0)) ( (rH n w).bind λcH=>cond (!cH) ( some ((⟨0,[],0,0⟩:Token),2)) ( some ((⟨1,w,0,0⟩:Token),0)))) ( (G0 n w).bind λc_=>cond (!decide (c_.2=0)) ( some ((⟨0,[],0,0⟩:Token),c_.2)) ( some ((⟨3,[],c_.1,0⟩:Token),0))))
def B9(s:ano):Option (Token×Int×Int):=(xH n s).bind λr1=>cond (decide (0<r1)) ( aq (gG r1 s.length)<|(G1 n (s.take (r1).toNat)).bind λbc=>some (bc.1,r1,bc.2)) ( aq (aH 0 s.length)<|cond (decide ((((s.getD 0 0).toNat:Nat):Int)=34)) ( (Nq n s).bind λbD=>some ((⟨4,bD.1,0,0⟩:Token),bD.2.1,bD.2.2)) ( (GY n s).bind λcH=>cond (decide (cH=([]:ano))) ( some ((⟨0,[],0,0⟩:Token),0,5)) ( some ((⟨5,cH,0,0⟩:Token),((cH.length:Nat):Int),0))))
def G2(s:ano):Option ano:=(Fv n s).bind λr1=>some r1
def Nt(n:Nat)(G3:List Token):Option ((List Token)×Int×Int):=some (G3,0,0)
def Nu(al:(List Token)→Int→Int→Option ((List Token)×Int×Int))(src:ano)(aQ:List Token)(ck:Int)(cC:Int):Option ((List Token)×Int×Int):=aq (gG cC src.length)<|(B9 n (src.drop (cC).toNat)).bind λfc=>cond (!decide (fc.2.2=0)) ( some (([]:List Token),ck,fc.2.2)) ( (G2 n fc.1.Text).bind λhA=>aq (room (aQ.length+([(⟨fc.1.Kind,hA,fc.1.N,ck⟩:Token)]:List Token).length) 40)<|al (aQ++([(⟨fc.1.Kind,hA,fc.1.N,ck⟩:Token)]:List Token)) ck (anq (cC+fc.2.1)))
def Nv(n:Nat)(al:(List Token)→Int→Int→Option ((List Token)×Int×Int))(src:ano)(aQ:List Token)(ck:Int)(m7:Int):Option ((List Token)×Int×Int):=al aQ ck m7
def Nw(al:(List Token)→Int→Int→Option ((List Token)×Int×Int))(src:ano)(aQ:List Token)(ck:Int)(BF:Int→Option ((List Token)×Int×Int))(v24:Int):Option ((List Token)×Int×Int):=aq (!(decide (v24<((src.length:Nat):Int)))||aH v24 src.length)<|cond (cond (decide (v24<((src.length:Nat):Int))) (!decide ((((src.getD (v24).toNat 0).toNat:Nat):Int)=10)) false) ( BF (anq (v24+1))) ( Nv n al src aQ ck v24)
def B'(n:Nat)(al:(List Token)→Int→Int→Option ((List Token)×Int×Int))(src:ano)(aQ:List Token)(ck:Int):Nat→Int→Option ((List Token)×Int×Int)
 | 0=>λ_=>none
 |m+1=>Nw n al src aQ ck (B' n al src aQ ck m)
def G4(al:(List Token)→Int→Int→Option ((List Token)×Int×Int))(src:ano)(aQ:List Token)(ck:Int)(cC:Int)(v21:Bool):Option ((List Token)×Int×Int):=cond v21 ( al aQ ck (anq (cC+1))) ( cond (decide ((((src.getD (cC).toNat 0).toNat:Nat):Int)=35)) ( B' n al src aQ ck n cC) ( Nu n al src aQ ck cC))
def Nx(src:ano)(al:(List Token)→Int→Int→Option ((List Token)×Int×Int))(aQ:List Token)(ck:Int)(cC:Int):Option ((List Token)×Int×Int):=cond (decide (cC<((src.length:Nat):Int))) ( aq (aH cC src.length)<|cond (decide ((((src.getD (cC).toNat 0).toNat:Nat):Int)=10)) ( al aQ (anq (ck+1)) (anq (cC+1))) ( cond (decide ((((src.getD (cC).toNat 0).toNat:Nat):Int)=32)) ( G4 n al src aQ ck cC (decide ((((src.getD (cC).toNat 0).toNat:Nat):Int)=32))) ( G4 n al src aQ ck cC (decide ((((src.getD (cC).toNat 0).toNat:Nat):Int)=9))))) ( Nt n aQ)
def B_(n:Nat)(src:ano):Nat→(List Token)→Int→Int→Option ((List Token)×Int×Int)
 | 0=>λ_ _ _=>none
 |m+1=>Nx n src (B_ n src m)
def G5(src:ano):Option ((List Token)×Int×Int):=cond (decide (16384<((src.length:Nat):Int))) ( some (([]:List Token),0,2)) ( B_ n src n ([]:List Token) 1 0)
def tm(n:Nat)(text:ano)(ad:aJ):ans:=cond (decide (((ad.tokens.length:Nat):Int)≤ad.at_)) ( some false) ( aq (aH ad.at_ ad.tokens.length)<|some (cond (cond (decide ((anr ad.tokens (ad.at_)).Kind=2)) true (decide ((anr ad.tokens (ad.at_)).Kind=5))) (decide (((anr ad.tokens (ad.at_)).Text)=text)) false))
def ki(text:ano)(ad:aJ):Option (Bool×Int):=(tm n text ad).bind λr1=>cond (!r1) ( some (false,ad.at_)) ( some (true,(anq (ad.at_+1))))
def Ny(n:Nat)(ad:aJ):Option (ax Unit Unit):=aq (aH (anq (((ad.tokens.length:Nat):Int)-1)) ad.tokens.length)<|some (.az (.iface 332 (.agg [.int .i64 ((anr ad.tokens (anq (((ad.tokens.length:Nat):Int)-1))).lX),.int .i64 6])) ())
def Nz(ad:aJ):Option (ax Unit Unit):=cond (decide (((ad.tokens.length:Nat):Int)=0)) ( some (.az (.iface 332 (.agg [.int .i64 1,.int .i64 6])) ())) ( Ny n ad)
def rU(code:Int)(ad:aJ):Option (ax Unit Unit):=cond (decide (ad.at_<((ad.tokens.length:Nat):Int))) ( aq (aH ad.at_ ad.tokens.length)<|some (.az (.iface 332 (.agg [.int .i64 ((anr ad.tokens (ad.at_)).lX),.int .i64 code])) ())) ( Nz n ad)
def ii(text:ano)(ad:aJ):Option (ax Unit Int):=(ki n text ad).bind λr1=>cond (!r1.1) ( (rU n 5 (⟨ad.tokens,r1.2⟩:aJ)).bind λr3=>ax.on r3 (λbc bQ=>some (.ret () r1.2)) (λrV bQ=>some (.az rV r1.2))) ( some (.ret () r1.2))
def lD(s:Stmt)(ad:aJ):Option (ax Stmt Int):=(ii n ([59]:ano) ad).bind λr1=>ax.on r1 (λr2 r3=>some (.ret (⟨s.Op,s.Name,s.Max,⟨s.A.Op,s.A.N,s.A.S,s.A.ao⟩,⟨s.B.Op,s.B.N,s.B.S,s.B.ao⟩,s.Body,s.bx⟩:Stmt) r3)) (λfP r3=>some (.az fP r3))
def G6(n:Nat)(ad:aJ):Option (Int×Int):=cond (decide (((ad.tokens.length:Nat):Int)≤ad.at_)) ( some (0,0)) ( aq (aH ad.at_ ad.tokens.length)<|cond (cond (!decide ((anr ad.tokens (ad.at_)).Kind=2)) (!decide ((anr ad.tokens (ad.at_)).Kind=5)) false) ( some (0,0)) ( cond (decide (((anr ad.tokens (ad.at_)).Text)=([111,114]:ano))) ( some (1,17)) ( cond (decide (((anr ad.tokens (ad.at_)).Text)=([97,110,100]:ano))) ( some (2,16)) ( cond (decide (((anr ad.tokens (ad.at_)).Text)=([61,61]:ano))) ( some (4,10)) ( cond (decide (((anr ad.tokens (ad.at_)).Text)=([33,61]:ano))) ( some (4,11)) ( cond (decide (((anr ad.tokens (ad.at_)).Text)=([60]:ano))) ( some (4,12)) ( cond (decide (((anr ad.tokens (ad.at_)).Text)=([60,61]:ano))) ( some (4,13)) ( cond (decide (((anr ad.tokens (ad.at_)).Text)=([62]:ano))) ( some (4,14)) ( cond (decide (((anr ad.tokens (ad.at_)).Text)=([62,61]:ano))) ( some (4,15)) ( cond (decide (((anr ad.tokens (ad.at_)).Text)=([43,43]:ano))) ( some (5,19)) ( cond (decide (((anr ad.tokens (ad.at_)).Text)=([43]:ano))) ( some (6,4)) ( cond (decide (((anr ad.tokens (ad.at_)).Text)=([45]:ano))) ( some (6,5)) ( cond (decide (((anr ad.tokens (ad.at_)).Text)=([42]:ano))) ( some (7,6)) ( cond (decide (((anr ad.tokens (ad.at_)).Text)=([47]:ano))) ( some (7,7)) ( cond (decide (((anr ad.tokens (ad.at_)).Text)=([37]:ano))) ( some (7,8)) ( some (0,0)))))))))))))))))
def G7(n:Nat)(depth:Int)(ad:aJ):Option (ax Int Unit):=some (.ret (anq (depth+1)) ())
def rW(depth:Int)(ad:aJ):Option (ax Int Unit):=cond (decide (24≤depth)) ( (rU n 2 ad).bind λr1=>ax.on r1 (λr2 r3=>G7 n depth ad) (λfP r3=>some (.az fP ()))) ( G7 n depth ad)
def G8(n:Nat)(ad:aJ):ant:=aq ((decide (((ad.tokens.length:Nat):Int)≤ad.at_))||aH ad.at_ ad.tokens.length)<|cond (cond (decide (((ad.tokens.length:Nat):Int)≤ad.at_)) true (!decide ((anr ad.tokens (ad.at_)).Kind=2))) ( some 0) ( aq (aH ad.at_ ad.tokens.length)<|cond (decide (((anr ad.tokens (ad.at_)).Text)=([116,101,120,116]:ano))) ( some 20) ( cond (decide (((anr ad.tokens (ad.at_)).Text)=([108,101,110]:ano))) ( some 21) ( cond (decide (((anr ad.tokens (ad.at_)).Text)=([103,101,116,105,110,116]:ano))) ( some 22) ( cond (decide (((anr ad.tokens (ad.at_)).Text)=([103,101,116,115,116,114]:ano))) ( some 23) ( cond (decide (((anr ad.tokens (ad.at_)).Text)=([104,97,115]:ano))) ( some 24) ( cond (decide (((anr ad.tokens (ad.at_)).Text)=([110,111,119]:ano))) ( some 25) ( cond (decide (((anr ad.tokens (ad.at_)).Text)=([114,97,110,100,111,109]:ano))) ( some 26) ( cond (decide (((anr ad.tokens (ad.at_)).Text)=([110,111,100,101]:ano))) ( some 27) ( some 0)))))))))
def G9(fh:Int→Int→aJ→Option (ax Expr Int))(fE:Int→Int→Int→aJ→Option (ax Expr Int))(fQ:Int→aJ→Option (ax Expr Int))(fF:Int→aJ→Option (ax Expr Int))(level:Int)(depth:Int)(ad:aJ)(db:Int→Int→Int→ano→(List Expr)→Option (ax Expr Int))(v37:Int)(je:Int)(lC:Int)(v40:ano)(k8:List Expr):Option (ax Expr Int):=(G6 n (⟨ad.tokens,v37⟩:aJ)).bind λhR=>cond (!decide (hR.1=level)) ( some (.ret (⟨je,lC,v40,k8⟩:Expr) v37)) ( (fh (anq (level+1)) depth (⟨ad.tokens,(anq (v37+1))⟩:aJ)).bind λnV=>ax.on nV (λgm jf=>cond (decide (level=4)) ( some (.ret (⟨hR.2,0,[],[⟨je,lC,v40,k8⟩,gm]⟩:Expr) jf)) ( db jf hR.2 0 ([]:ano) ([(⟨je,lC,v40,k8⟩:Expr),gm]:List Expr))) (λvO jf=>some (.az vO jf)))
def vP(n:Nat)(fh:Int→Int→aJ→Option (ax Expr Int))(fE:Int→Int→Int→aJ→Option (ax Expr Int))(fQ:Int→aJ→Option (ax Expr Int))(fF:Int→aJ→Option (ax Expr Int))(level:Int)(depth:Int)(ad:aJ):Nat→Int→Int→Int→ano→(List Expr)→Option (ax Expr Int)
 | 0=>λ_ _ _ _ _=>none
 |m+1=>G9 n fh fE fQ fF level depth ad (vP n fh fE fQ fF level depth ad m)
def Ca(fh:Int→Int→aJ→Option (ax Expr Int))(fE:Int→Int→Int→aJ→Option (ax Expr Int))(fQ:Int→aJ→Option (ax Expr Int))(fF:Int→aJ→Option (ax Expr Int))(level:Int)(depth:Int)(ad:aJ):Option (ax Expr Int):=cond (decide (level=3)) ( (tm n ([110,111,116]:ano) ad).bind λr2=>cond r2 ( (fE 18 level depth ad).bind λbc=>ax.on bc (λbQ be=>some (.ret bQ be)) (λNA be=>some (.az NA be))) ( (fh 4 depth ad).bind λcH=>ax.on cH (λb4 c_=>some (.ret b4 c_)) (λNB c_=>some (.az NB c_)))) ( cond (decide (level=8)) ( (tm n ([45]:ano) ad).bind λcK=>cond cK ( (fE 9 level depth ad).bind λda=>ax.on da (λct cL=>some (.ret ct cL)) (λkL cL=>some (.az kL cL))) ( (fQ depth ad).bind λfb=>ax.on fb (λej e8=>some (.ret ej e8)) (λNC e8=>some (.az NC e8)))) ( (fh (anq (level+1)) depth ad).bind λdU=>ax.on dU (λr24 fa=>vP n fh fE fQ fF level depth ad n fa r24.Op r24.N r24.S r24.ao) (λND fa=>some (.az ND fa))))
def yA(fh:Int→Int→aJ→Option (ax Expr Int))(fE:Int→Int→Int→aJ→Option (ax Expr Int))(fQ:Int→aJ→Option (ax Expr Int))(fF:Int→aJ→Option (ax Expr Int))(op:Int)(level:Int)(depth:Int)(ad:aJ):Option (ax Expr Int):=(rW n depth ad).bind λr1=>ax.on r1 (λr2 r3=>(fh level r2 (⟨ad.tokens,(anq (ad.at_+1))⟩:aJ)).bind λbQ=>ax.on bQ (λbe bD=>some (.ret (⟨op,0,[],[be]⟩:Expr) bD)) (λjg bD=>some (.az jg bD))) (λfP r3=>some (.az fP ad.at_))
def Cb(fh:Int→Int→aJ→Option (ax Expr Int))(fE:Int→Int→Int→aJ→Option (ax Expr Int))(fQ:Int→aJ→Option (ax Expr Int))(fF:Int→aJ→Option (ax Expr Int))(depth:Int)(r3:Int)(ad:aJ)(v2:Int):Option (ax Expr Int):=(rW n depth (⟨ad.tokens,v2⟩:aJ)).bind λr26=>ax.on r26 (λr27 m6=>(fF r27 (⟨ad.tokens,(anq (v2+1))⟩:aJ)).bind λhA=>ax.on hA (λfp kM=>some (.ret (⟨r3,0,[],[fp]⟩:Expr) kM)) (λrX kM=>some (.az rX kM))) (λCc m6=>some (.az Cc v2))
def Cd(fh:Int→Int→aJ→Option (ax Expr Int))(fE:Int→Int→Int→aJ→Option (ax Expr Int))(fQ:Int→aJ→Option (ax Expr Int))(fF:Int→aJ→Option (ax Expr Int))(depth:Int)(ad:aJ)(v2:Int):Option (ax Expr Int):=(rW n depth (⟨ad.tokens,v2⟩:aJ)).bind λb4=>ax.on b4 (λc_ bz=>(fF c_ (⟨ad.tokens,v2⟩:aJ)).bind λcK=>ax.on cK (λei da=>some (.ret ei da)) (λrY da=>some (.az rY da))) (λlE bz=>some (.az lE v2))
def lZ(fh:Int→Int→aJ→Option (ax Expr Int))(fE:Int→Int→Int→aJ→Option (ax Expr Int))(fQ:Int→aJ→Option (ax Expr Int))(fF:Int→aJ→Option (ax Expr Int))(depth:Int)(r3:Int)(ad:aJ)(v2:Int)(aQ:Bool):Option (ax Expr Int):=cond aQ ( (ii n ([40]:ano) (⟨ad.tokens,(anq (v2+1))⟩:aJ)).bind λeC=>ax.on eC (λfb ej=>(ii n ([41]:ano) (⟨ad.tokens,ej⟩:aJ)).bind λcR=>ax.on cR (λdU r24=>some (.ret (⟨r3,0,[],[]⟩:Expr) r24)) (λCe r24=>some (.az Ce r24))) (λCf ej=>some (.az Cf ej))) ( Cb n fh fE fQ fF depth r3 ad v2)
def rZ(fh:Int→Int→aJ→Option (ax Expr Int))(fE:Int→Int→Int→aJ→Option (ax Expr Int))(fQ:Int→aJ→Option (ax Expr Int))(fF:Int→aJ→Option (ax Expr Int))(depth:Int)(ad:aJ)(v2:Int):Option (ax Expr Int):=(G8 n (⟨ad.tokens,v2⟩:aJ)).bind λr3=>cond (decide (r3=0)) ( (tm n ([40]:ano) (⟨ad.tokens,v2⟩:aJ)).bind λbc=>cond (!bc) ( (rU n 5 (⟨ad.tokens,v2⟩:aJ)).bind λbQ=>ax.on bQ (λbe bD=>Cd n fh fE fQ fF depth ad v2) (λjg bD=>some (.az jg v2))) ( Cd n fh fE fQ fF depth ad v2)) ( cond (decide (r3=25)) ( lZ n fh fE fQ fF depth r3 ad v2 (decide (r3=25))) ( cond (decide (r3=26)) ( lZ n fh fE fQ fF depth r3 ad v2 (decide (r3=26))) ( lZ n fh fE fQ fF depth r3 ad v2 (decide (r3=27)))))
def vQ(fh:Int→Int→aJ→Option (ax Expr Int))(fE:Int→Int→Int→aJ→Option (ax Expr Int))(fQ:Int→aJ→Option (ax Expr Int))(fF:Int→aJ→Option (ax Expr Int))(depth:Int)(ad:aJ):Option (ax Expr Int):=cond (decide (ad.at_<((ad.tokens.length:Nat):Int))) ( aq (aH ad.at_ ad.tokens.length)<|cond (decide ((anr ad.tokens (ad.at_)).Kind=3)) ( some (.ret (⟨1,(anr ad.tokens (ad.at_)).N,[],[]⟩:Expr) (anq (ad.at_+1)))) ( cond (decide ((anr ad.tokens (ad.at_)).Kind=4)) ( some (.ret (⟨2,0,(anr ad.tokens (ad.at_)).Text,[]⟩:Expr) (anq (ad.at_+1)))) ( cond (decide ((anr ad.tokens (ad.at_)).Kind=1)) ( some (.ret (⟨3,0,(anr ad.tokens (ad.at_)).Text,[]⟩:Expr) (anq (ad.at_+1)))) ( rZ n fh fE fQ fF depth ad (anq ((anq (ad.at_+1))-1)))))) ( rZ n fh fE fQ fF depth ad ad.at_)
def tn(fh:Int→Int→aJ→Option (ax Expr Int))(fE:Int→Int→Int→aJ→Option (ax Expr Int))(fQ:Int→aJ→Option (ax Expr Int))(fF:Int→aJ→Option (ax Expr Int))(depth:Int)(ad:aJ):Option (ax Expr Int):=(ii n ([40]:ano) ad).bind λr1=>ax.on r1 (λr2 r3=>(fh 1 depth (⟨ad.tokens,r3⟩:aJ)).bind λbQ=>ax.on bQ (λbe bD=>(ii n ([41]:ano) (⟨ad.tokens,bD⟩:aJ)).bind λb4=>ax.on b4 (λc_ bz=>some (.ret be bz)) (λlE bz=>some (.az lE bz))) (λjg bD=>some (.az jg bD))) (λfP r3=>some (.az fP r3))
def kj:Nat→(Int→Int→aJ→Option (ax Expr Int))×(Int→Int→Int→aJ→Option (ax Expr Int))×(Int→aJ→Option (ax Expr Int))×(Int→aJ→Option (ax Expr Int))
 | 0=>(λ_ _ _=>none,λ_ _ _ _=>none,λ_ _=>none,λ_ _=>none)
 |m+1=>(Ca m ((kj m).1) ((kj m).2.1) ((kj m).2.2.1) ((kj m).2.2.2),yA m ((kj m).1) ((kj m).2.1) ((kj m).2.2.1) ((kj m).2.2.2),vQ m ((kj m).1) ((kj m).2.1) ((kj m).2.2.1) ((kj m).2.2.2),tn m ((kj m).1) ((kj m).2.1) ((kj m).2.2.1) ((kj m).2.2.2))
def fe:Int→Int→aJ→Option (ax Expr Int):=(kj n).1
def iO:Int→Int→Int→aJ→Option (ax Expr Int):=(kj n).2.1
def ij:Int→aJ→Option (ax Expr Int):=(kj n).2.2.1
def h3:Int→aJ→Option (ax Expr Int):=(kj n).2.2.2
def G'(n:Nat)(ad:aJ):Option (ax Token Int):=aq (aH (anq ((anq (ad.at_+1))-1)) ad.tokens.length)<|some (.ret (anr ad.tokens (anq ((anq (ad.at_+1))-1))) (anq (ad.at_+1)))
def m8(kind:Int)(ad:aJ):Option (ax Token Int):=aq ((decide (((ad.tokens.length:Nat):Int)≤ad.at_))||aH ad.at_ ad.tokens.length)<|cond (cond (decide (((ad.tokens.length:Nat):Int)≤ad.at_)) true (!decide ((anr ad.tokens (ad.at_)).Kind=kind))) ( (rU n 5 ad).bind λr2=>ax.on r2 (λr3 bc=>G' n ad) (λm9 bc=>some (.az m9 ad.at_))) ( G' n ad)
def G_(n:Nat)(gI:Int→aJ→Option (ax (List Stmt) Int))(hh:Int→aJ→Option (ax Stmt Int))(hl:Int→aJ→Option (ax Stmt Int))(ad:aJ)(v28:Int)(h2:List Stmt):Option (ax (List Stmt) Int):=some (.ret h2 v28)
def Ha(gI:Int→aJ→Option (ax (List Stmt) Int))(hh:Int→aJ→Option (ax Stmt Int))(hl:Int→aJ→Option (ax Stmt Int))(depth:Int)(ad:aJ)(e4:Int→(List Stmt)→Option (ax (List Stmt) Int))(ck:Int)(cC:List Stmt):Option (ax (List Stmt) Int):=(ki n ([125]:ano) (⟨ad.tokens,ck⟩:aJ)).bind λej=>cond (!ej.1) ( (hh (anq (depth+1)) (⟨ad.tokens,ej.2⟩:aJ)).bind λe8=>ax.on e8 (λcR dU=>aq (room (cC.length+([cR]:List Stmt).length) 192)<|e4 dU (cC++([cR]:List Stmt))) (λnW dU=>some (.az nW dU))) ( G_ n gI hh hl ad ej.2 cC)
def tp(n:Nat)(gI:Int→aJ→Option (ax (List Stmt) Int))(hh:Int→aJ→Option (ax Stmt Int))(hl:Int→aJ→Option (ax Stmt Int))(depth:Int)(ad:aJ):Nat→Int→(List Stmt)→Option (ax (List Stmt) Int)
 | 0=>λ_ _=>none
 |m+1=>Ha n gI hh hl depth ad (tp n gI hh hl depth ad m)
def Cg(gI:Int→aJ→Option (ax (List Stmt) Int))(hh:Int→aJ→Option (ax Stmt Int))(hl:Int→aJ→Option (ax Stmt Int))(depth:Int)(ad:aJ):Option (ax (List Stmt) Int):=(ii n ([123]:ano) ad).bind λbe=>ax.on be (λbD cH=>tp n gI hh hl depth ad n cH ([]:List Stmt)) (λCh cH=>some (.az Ch cH))
def Ci(gI:Int→aJ→Option (ax (List Stmt) Int))(hh:Int→aJ→Option (ax Stmt Int))(hl:Int→aJ→Option (ax Stmt Int))(depth:Int)(ad:aJ):Option (ax (List Stmt) Int):=(tm n ([123]:ano) ad).bind λr1=>cond (cond r1 (decide (12<depth)) false) ( (rU n 2 ad).bind λr2=>ax.on r2 (λr3 bc=>Cg n gI hh hl depth ad) (λm9 bc=>some (.az m9 ad.at_))) ( Cg n gI hh hl depth ad)
def Cj(n:Nat)(gI:Int→aJ→Option (ax (List Stmt) Int))(hh:Int→aJ→Option (ax Stmt Int))(hl:Int→aJ→Option (ax Stmt Int))(ad:aJ)(nX:Expr)(qB:(List Stmt))(Hb:Int)(Hc:List Stmt):Option (ax Stmt Int):=some (.ret (⟨5,[],0,nX,⟨0,0,[],[]⟩,qB,Hc⟩:Stmt) Hb)
def Ck(gI:Int→aJ→Option (ax (List Stmt) Int))(hh:Int→aJ→Option (ax Stmt Int))(hl:Int→aJ→Option (ax Stmt Int))(depth:Int)(ad:aJ):Option (ax Stmt Int):=(ki n ([108,101,116]:ano) ad).bind λr1=>cond r1.1 ( (m8 n 1 (⟨ad.tokens,r1.2⟩:aJ)).bind λr3=>ax.on r3 (λbc bQ=>(ii n ([61]:ano) (⟨ad.tokens,bQ⟩:aJ)).bind λbD=>ax.on bD (λcH b4=>(fe n 1 0 (⟨ad.tokens,b4⟩:aJ)).bind λbz=>ax.on bz (λb9 cK=>(lD n (⟨1,bc.Text,0,b9,⟨0,0,[],[]⟩,[],[]⟩:Stmt) (⟨ad.tokens,cK⟩:aJ)).bind λda=>ax.on da (λct cL=>some (.ret (⟨ct.Op,ct.Name,ct.Max,⟨ct.A.Op,ct.A.N,ct.A.S,ct.A.ao⟩,⟨ct.B.Op,ct.B.N,ct.B.S,ct.B.ao⟩,ct.Body,ct.bx⟩:Stmt) cL)) (λkL cL=>some (.az kL cL))) (λr0 cK=>some (.az r0 cK))) (λCl b4=>some (.az Cl b4))) (λrV bQ=>some (.az rV bQ))) ( (ki n ([112,117,116]:ano) (⟨ad.tokens,r1.2⟩:aJ)).bind λfb=>cond fb.1 ( (fe n 1 0 (⟨ad.tokens,fb.2⟩:aJ)).bind λe8=>ax.on e8 (λcR dU=>(ii n ([61]:ano) (⟨ad.tokens,dU⟩:aJ)).bind λfa=>ax.on fa (λr26 r27=>(fe n 1 0 (⟨ad.tokens,r27⟩:aJ)).bind λfc=>ax.on fc (λhA fp=>(lD n (⟨3,[],0,cR,hA,[],[]⟩:Stmt) (⟨ad.tokens,fp⟩:aJ)).bind λnT=>ax.on nT (λm' lF=>some (.ret (⟨m'.Op,m'.Name,m'.Max,⟨m'.A.Op,m'.A.N,m'.A.S,m'.A.ao⟩,⟨m'.B.Op,m'.B.N,m'.B.S,m'.B.ao⟩,m'.Body,m'.bx⟩:Stmt) lF)) (λNE lF=>some (.az NE lF))) (λr4 fp=>some (.az r4 fp))) (λr5 r27=>some (.az r5 r27))) (λnW dU=>some (.az nW dU))) ( (ki n ([100,101,108,101,116,101]:ano) (⟨ad.tokens,fb.2⟩:aJ)).bind λoM=>cond oM.1 ( (fe n 1 0 (⟨ad.tokens,oM.2⟩:aJ)).bind λte=>ax.on te (λrL k7=>(lD n (⟨4,[],0,rL,⟨0,0,[],[]⟩,[],[]⟩:Stmt) (⟨ad.tokens,k7⟩:aJ)).bind λnV=>ax.on nV (λgm jf=>some (.ret (⟨gm.Op,gm.Name,gm.Max,⟨gm.A.Op,gm.A.N,gm.A.S,gm.A.ao⟩,⟨gm.B.Op,gm.B.N,gm.B.S,gm.B.ao⟩,gm.Body,gm.bx⟩:Stmt) jf)) (λvO jf=>some (.az vO jf))) (λr6 k7=>some (.az r6 k7))) ( (ki n ([101,109,105,116]:ano) (⟨ad.tokens,oM.2⟩:aJ)).bind λnU=>cond nU.1 ( (fe n 1 0 (⟨ad.tokens,nU.2⟩:aJ)).bind λGt=>ax.on Gt (λBL qC=>(lD n (⟨7,[],0,BL,⟨0,0,[],[]⟩,[],[]⟩:Stmt) (⟨ad.tokens,qC⟩:aJ)).bind λyx=>ax.on yx (λkK Cm=>some (.ret (⟨kK.Op,kK.Name,kK.Max,⟨kK.A.Op,kK.A.N,kK.A.S,kK.A.ao⟩,⟨kK.B.Op,kK.B.N,kK.B.S,kK.B.ao⟩,kK.Body,kK.bx⟩:Stmt) Cm)) (λNF Cm=>some (.az NF Cm))) (λNG qC=>some (.az NG qC))) ( (ki n ([97,98,111,114,116]:ano) (⟨ad.tokens,nU.2⟩:aJ)).bind λHd=>cond Hd.1 ( (m8 n 3 (⟨ad.tokens,Hd.2⟩:aJ)).bind λnY=>ax.on nY (λHe vR=>(lD n (⟨8,[],He.N,⟨0,0,[],[]⟩,⟨0,0,[],[]⟩,[],[]⟩:Stmt) (⟨ad.tokens,vR⟩:aJ)).bind λvA=>ax.on vA (λkN td=>some (.ret (⟨kN.Op,kN.Name,kN.Max,⟨kN.A.Op,kN.A.N,kN.A.S,kN.A.ao⟩,⟨kN.B.Op,kN.B.N,kN.B.S,kN.B.ao⟩,kN.Body,kN.bx⟩:Stmt) td)) (λNH td=>some (.az NH td))) (λNI vR=>some (.az NI vR))) ( (ki n ([105,102]:ano) (⟨ad.tokens,Hd.2⟩:aJ)).bind λHf=>cond Hf.1 ( (fe n 1 0 (⟨ad.tokens,Hf.2⟩:aJ)).bind λNJ=>ax.on NJ (λnX r7=>(gI depth (⟨ad.tokens,r7⟩:aJ)).bind λNK=>ax.on NK (λqB r8=>(ki n ([101,108,115,101]:ano) (⟨ad.tokens,r8⟩:aJ)).bind λtq=>cond tq.1 ( (gI depth (⟨ad.tokens,tq.2⟩:aJ)).bind λNL=>ax.on NL (λHg r9=>Cj n gI hh hl ad nX qB r9 Hg) (λCn r9=>some (.az Cn r9))) ( Cj n gI hh hl ad nX qB tq.2 ([]:List Stmt))) (λCo r8=>some (.az Co r8))) (λCp r7=>some (.az Cp r7))) ( (ki n ([102,111,114]:ano) (⟨ad.tokens,Hf.2⟩:aJ)).bind λHh=>cond Hh.1 ( (hl depth (⟨ad.tokens,Hh.2⟩:aJ)).bind λadP=>ax.on adP (λm_ Cq=>some (.ret (⟨m_.Op,m_.Name,m_.Max,⟨m_.A.Op,m_.A.N,m_.A.S,m_.A.ao⟩,⟨m_.B.Op,m_.B.N,m_.B.S,m_.B.ao⟩,m_.Body,m_.bx⟩:Stmt) Cq)) (λNM Cq=>some (.az NM Cq))) ( (m8 n 1 (⟨ad.tokens,Hh.2⟩:aJ)).bind λx6=>ax.on x6 (λvy Cr=>(ii n ([61]:ano) (⟨ad.tokens,Cr⟩:aJ)).bind λadQ=>ax.on adQ (λGn Cs=>(fe n 1 0 (⟨ad.tokens,Cs⟩:aJ)).bind λadR=>ax.on adR (λUB Ct=>(lD n (⟨2,vy.Text,0,UB,⟨0,0,[],[]⟩,[],[]⟩:Stmt) (⟨ad.tokens,Ct⟩:aJ)).bind λadS=>ax.on adS (λna tc=>some (.ret (⟨na.Op,na.Name,na.Max,⟨na.A.Op,na.A.N,na.A.S,na.A.ao⟩,⟨na.B.Op,na.B.N,na.B.S,na.B.ao⟩,na.Body,na.bx⟩:Stmt) tc)) (λNN tc=>some (.az NN tc))) (λNO Ct=>some (.az NO Ct))) (λNP Cs=>some (.az NP Cs))) (λNQ Cr=>some (.az NQ Cr)))))))))
def Cu(gI:Int→aJ→Option (ax (List Stmt) Int))(hh:Int→aJ→Option (ax Stmt Int))(hl:Int→aJ→Option (ax Stmt Int))(depth:Int)(ad:aJ):Option (ax Stmt Int):=(m8 n 1 ad).bind λr1=>ax.on r1 (λr2 r3=>(ii n ([61]:ano) (⟨ad.tokens,r3⟩:aJ)).bind λbQ=>ax.on bQ (λbe bD=>(fe n 1 0 (⟨ad.tokens,bD⟩:aJ)).bind λb4=>ax.on b4 (λc_ bz=>(ii n ([116,111]:ano) (⟨ad.tokens,bz⟩:aJ)).bind λcK=>ax.on cK (λei da=>(fe n 1 0 (⟨ad.tokens,da⟩:aJ)).bind λcL=>ax.on cL (λeC fb=>(ii n ([109,97,120]:ano) (⟨ad.tokens,fb⟩:aJ)).bind λe8=>ax.on e8 (λcR dU=>(m8 n 3 (⟨ad.tokens,dU⟩:aJ)).bind λfa=>ax.on fa (λr26 r27=>(gI depth (⟨ad.tokens,r27⟩:aJ)).bind λfc=>ax.on fc (λhA fp=>some (.ret (⟨6,r2.Text,r26.N,c_,eC,hA,[]⟩:Stmt) fp)) (λr4 fp=>some (.az r4 fp))) (λr5 r27=>some (.az r5 r27))) (λnW dU=>some (.az nW dU))) (λNR fb=>some (.az NR fb))) (λrY da=>some (.az rY da))) (λlE bz=>some (.az lE bz))) (λjg bD=>some (.az jg bD))) (λfP r3=>some (.az fP r3))
def oN:Nat→(Int→aJ→Option (ax (List Stmt) Int))×(Int→aJ→Option (ax Stmt Int))×(Int→aJ→Option (ax Stmt Int))
 | 0=>(λ_ _=>none,λ_ _=>none,λ_ _=>none)
 |m+1=>(Ci m ((oN m).1) ((oN m).2.1) ((oN m).2.2),Ck m ((oN m).1) ((oN m).2.1) ((oN m).2.2),Cu m ((oN m).1) ((oN m).2.1) ((oN m).2.2))
def nb:Int→aJ→Option (ax (List Stmt) Int):=(oN n).1
def qD:Int→aJ→Option (ax Stmt Int):=(oN n).2.1
def pF:Int→aJ→Option (ax Stmt Int):=(oN n).2.2
def yB(n:Nat)(ad:aJ)(r2:Token)(de:Int)(aQ:Int):Option (ax Param Int):=some (.ret (⟨r2.Text,aQ⟩:Param) de)
def yC(ad:aJ):Option (ax Param Int):=(m8 n 1 ad).bind λr1=>ax.on r1 (λr2 r3=>(ii n ([58]:ano) (⟨ad.tokens,r3⟩:aJ)).bind λbQ=>ax.on bQ (λbe bD=>(ki n ([105,110,116]:ano) (⟨ad.tokens,bD⟩:aJ)).bind λb4=>cond b4.1 ( yB n ad r2 b4.2 1) ( (ki n ([115,116,114]:ano) (⟨ad.tokens,b4.2⟩:aJ)).bind λc_=>cond c_.1 ( yB n ad r2 c_.2 2) ( (ki n ([98,111,111,108]:ano) (⟨ad.tokens,c_.2⟩:aJ)).bind λbz=>cond bz.1 ( yB n ad r2 bz.2 3) ( (rU n 5 (⟨ad.tokens,bz.2⟩:aJ)).bind λb9=>ax.on b9 (λcK ei=>yB n ad r2 bz.2 0) (λNS ei=>some (.az NS bz.2)))))) (λjg bD=>some (.az jg bD))) (λfP r3=>some (.az fP r3))
def tr(ad:aJ)(be:Token)(Hi:Int)(Hj:List Param):Option (ax aZ Int):=(nb n 0 (⟨ad.tokens,Hi⟩:aJ)).bind λjf=>ax.on jf (λBK nU=>some (.ret (⟨be.Text,Hj,BK⟩:aZ) nU)) (λNT nU=>some (.az NT nU))
def Hk(ad:aJ)(be:Token)(v37:Int)(je:List Param):Option (ax aZ Int):=(ii n ([41]:ano) (⟨ad.tokens,v37⟩:aJ)).bind λte=>ax.on te (λrL k7=>tr n ad be k7 je) (λr6 k7=>some (.az r6 k7))
def Hl(ad:aJ)(be:Token)(e4:Int→(List Param)→Option (ax aZ Int))(m7:Int)(v28:List Param):Option (ax aZ Int):=(ki n ([44]:ano) (⟨ad.tokens,m7⟩:aJ)).bind λfc=>cond fc.1 ( (yC n (⟨ad.tokens,fc.2⟩:aJ)).bind λhA=>ax.on hA (λfp kM=>aq (room (v28.length+([fp]:List Param).length) 24)<|e4 kM (v28++([fp]:List Param))) (λrX kM=>some (.az rX kM))) ( Hk n ad be fc.2 v28)
def tu(n:Nat)(ad:aJ)(be:Token):Nat→Int→(List Param)→Option (ax aZ Int)
 | 0=>λ_ _=>none
 |m+1=>Hl n ad be (tu n ad be m)
def qE(ad:aJ):Option (ax aZ Int):=(ii n ([112,114,111,99]:ano) ad).bind λr1=>ax.on r1 (λr2 r3=>(m8 n 1 (⟨ad.tokens,r3⟩:aJ)).bind λbQ=>ax.on bQ (λbe bD=>(ii n ([40]:ano) (⟨ad.tokens,bD⟩:aJ)).bind λb4=>ax.on b4 (λc_ bz=>(ki n ([41]:ano) (⟨ad.tokens,bz⟩:aJ)).bind λcK=>cond (!cK.1) ( (yC n (⟨ad.tokens,cK.2⟩:aJ)).bind λei=>ax.on ei (λda ct=>aq (room (([]:List Param).length+([da]:List Param).length) 24)<|tu n ad be n ct (([]:List Param)++([da]:List Param))) (λNU ct=>some (.az NU ct))) ( tr n ad be cK.2 ([]:List Param))) (λlE bz=>some (.az lE bz))) (λjg bD=>some (.az jg bD))) (λfP r3=>some (.az fP r3))
def Hm(ad:aJ)(gb:aZ):Option (ax Unit (Int×ano×(List Param)×(List Stmt))):=(qE n ad).bind λr1=>ax.on r1 (λr2 r3=>some (.ret () (r3,r2.Name,r2.Params,r2.Body))) (λfP r3=>some (.az fP (r3,gb.Name,gb.Params,gb.Body)))
def UC(n:Nat)(ad:aJ):Option (ax Unit Unit):=aq (aH (anq (((ad.tokens.length:Nat):Int)-1)) ad.tokens.length)<|some (.az (.iface 332 (.agg [.int .i64 ((anr ad.tokens (anq (((ad.tokens.length:Nat):Int)-1))).lX),.int .i64 6])) ())
def UD(ad:aJ):Option (ax Unit Unit):=cond (decide (((ad.tokens.length:Nat):Int)=0)) ( some (.az (.iface 332 (.agg [.int .i64 1,.int .i64 6])) ())) ( UC n ad)
def Hn(code:Int)(ad:aJ):Option (ax Unit Unit):=cond (decide (ad.at_<((ad.tokens.length:Nat):Int))) ( aq (aH ad.at_ ad.tokens.length)<|some (.az (.iface 332 (.agg [.int .i64 ((anr ad.tokens (ad.at_)).lX),.int .i64 code])) ())) ( UD n ad)
def Cv(src:ano)(ad:aZ):Option (Int×Int×ano×(List Param)×(List Stmt)):=(G5 n src).bind λr1=>cond (!decide (r1.2.2=0)) (some (r1.2.1,r1.2.2,ad.Name,ad.Params,ad.Body)) ((Hm n (⟨r1.1,0⟩:aJ) ad).bind λr2=>ax.on r2 (λcl nc=>cond (decide (nc.1<((r1.1.length:Nat):Int))) ((Hn n 5 (⟨r1.1,nc.1⟩:aJ)).bind λr3=>ax.on r3 (λco NV=>none) (λet NV=>(AU 332 et).bind λlc=>some (lc.1,lc.2,nc.2.1,nc.2.2.1,nc.2.2.2))) (some (0,0,nc.2.1,nc.2.2.1,nc.2.2.2))) (λet nc=>(AU 332 et).bind λlc=>some (lc.1,lc.2,nc.2.1,nc.2.2.1,nc.2.2.2)))
def pG(n:Nat)(r1:Int×Int×ano×(List Param)×(List Stmt))(v3:Int):Option (aZ×Int×Int):=cond (!decide (v3=0)) ( some ((⟨[],[],[]⟩:aZ),r1.1,v3)) ( some ((⟨r1.2.2.1,r1.2.2.2.1,r1.2.2.2.2⟩:aZ),0,0))
def yD(src:ano):Option (aZ×Int×Int):=(Cv n src (⟨[],[],[]⟩:aZ)).bind λr1=>cond (decide (r1.2.1=0)) ( (Bt n (⟨r1.2.2.1,r1.2.2.2.1,r1.2.2.2.2⟩:aZ)).bind λr2=>pG n r1 r2) ( pG n r1 r1.2.1)
def NW(n:Nat)(cB:List aZ):Option ((List aZ)×Bool):=some (cB,true)
def Ho(l:List ano)(al:Int→(List aZ)→Option ((List aZ)×Bool))(bu:Int)(bG:List aZ):Option ((List aZ)×Bool):=cond (decide (bu<((l.length:Nat):Int))) ( aq (aH bu l.length)<|(yD n (anr l bu)).bind λc_=>Option.bind (cond (!(!decide (c_.2.2=0))) (ta n c_.1) (some default)) λbz=>cond (cond (!decide (c_.2.2=0)) true (!(decide (bz=(anr l bu))))) ( some (([]:List aZ),false)) ( aq (room (bG.length+([c_.1]:List aZ).length) 64)<|al (anq (bu+1)) (bG++([c_.1]:List aZ)))) ( NW n bG)
def yE(n:Nat)(l:List ano):Nat→Int→(List aZ)→Option ((List aZ)×Bool)
 | 0=>λ_ _=>none
 |m+1=>Ho n l (yE n l m)
def Hp(l:List ano):Option ((List aZ)×Bool):=yE n l n 0 ([]:List aZ)
def NX(n:Nat)(at_:Int)(eL:List Row):Option (aR×Int):=some ((⟨at_,at_,eL⟩:aR),0)
def Hq(at_:Int)(l:List bC)(al:(List Row)→Int→Option (aR×Int))(bu:List Row)(bG:Int):Option (aR×Int):=cond (decide (bG<((l.length:Nat):Int))) ( aq (aH bG l.length)<|aq (room (bu.length+([(⟨(anr l bG).Key,[⟨at_,⟨((anr l bG).b2).Kind,((anr l bG).b2).N,((anr l bG).b2).S⟩⟩]⟩:Row)]:List Row).length) 40)<|al (bu++([(⟨(anr l bG).Key,[⟨at_,⟨((anr l bG).b2).Kind,((anr l bG).b2).N,((anr l bG).b2).S⟩⟩]⟩:Row)]:List Row)) (anq (bG+1))) ( NX n at_ bu)
def yF(n:Nat)(at_:Int)(l:List bC):Nat→(List Row)→Int→Option (aR×Int)
 | 0=>λ_ _=>none
 |m+1=>Hq n at_ l (yF n at_ l m)
def Cw(l:List bC)(at_:Int):Option (aR×Int):=(BR n l).bind λr1=>cond (cond (cond (!r1) true (decide (at_<0))) true (decide (1099511627776<at_))) ( some ((⟨0,0,[]⟩:aR),1)) ( yF n at_ l n ([]:List Row) 0)
def vS(s:ano):Option (cV×Int):=(B6 n (⟨s,0,0⟩:eX)).bind λr1=>cond (!decide (r1.2.2=0)) ( some ((⟨0,⟨0,0,[]⟩,[],[],⟨0,[]⟩,[],[],0⟩:cV),r1.2.2)) ( cond (cond (cond (!decide (r1.2.1=((s.length:Nat):Int))) true (decide (r1.1.fL.Pos<0))) true (decide (1099511627776<r1.1.fL.Pos))) ( some ((⟨0,⟨0,0,[]⟩,[],[],⟨0,[]⟩,[],[],0⟩:cV),5)) ( (Hp n r1.1.sources).bind λbc=>cond (!bc.2) ( some ((⟨0,⟨0,0,[]⟩,[],[],⟨0,[]⟩,[],[],0⟩:cV),5)) ( (Cw n r1.1.LR r1.1.fL.Pos).bind λbe=>cond (!decide (be.2=0)) ( some ((⟨0,⟨0,0,[]⟩,[],[],⟨0,[]⟩,[],[],0⟩:cV),5)) ( (rM n (⟨r1.1.fL.Pos,be.1,bc.1,r1.1.fL.ea,r1.1.fL.Place,r1.1.fL.bn,r1.1.fL.Queue,r1.1.fL.dT⟩:cV)).bind λcH=>cond (!cH) ( some ((⟨0,⟨0,0,[]⟩,[],[],⟨0,[]⟩,[],[],0⟩:cV),5)) ( some ((⟨r1.1.fL.Pos,be.1,bc.1,r1.1.fL.ea,r1.1.fL.Place,r1.1.fL.bn,r1.1.fL.Queue,r1.1.fL.dT⟩:cV),0))))))
def Cx(s:ano):Option (cV×Int):=cond (decide (16384<((s.length:Nat):Int))) ( some ((⟨0,⟨0,0,[]⟩,[],[],⟨0,[]⟩,[],[],0⟩:cV),2)) ( (vS n s).bind λr2=>some (r2.1,r2.2))
def NY(a:cV)(b:cV):ans:=(rM n a).bind λr1=>Option.bind (cond r1 (rM n b) (some default)) λr2=>Option.bind (cond (cond r1 r2 false) (tf n a) (some default)) λr3=>Option.bind (cond (cond r1 r2 false) (tf n b) (some default)) λbc=>some (cond (cond r1 r2 false) (decide (r3=bc)) false)
def NZ(n:Nat)(nd:Expr→Expr→ans):ans:=some true
def N0(nd:Expr→Expr→ans)(a:Expr)(b:Expr)(al:Int→ans)(v6:Int):ans:=cond (decide (v6<((a.ao.length:Nat):Int))) ( aq (aH v6 a.ao.length)<|aq (aH v6 b.ao.length)<|(nd (anr a.ao v6) (anr b.ao v6)).bind λb4=>cond (!b4) ( some false) ( al (anq (v6+1)))) ( NZ n nd)
def Cy(n:Nat)(nd:Expr→Expr→ans)(a:Expr)(b:Expr):Nat→Int→ans
 | 0=>λ_=>none
 |m+1=>N0 n nd a b (Cy n nd a b m)
def N1(nd:Expr→Expr→ans)(a:Expr)(b:Expr):ans:=cond (cond (cond (cond (!decide (a.Op=b.Op)) true (!decide (a.N=b.N))) true (!(decide (a.S=b.S)))) true (!decide (((a.ao.length:Nat):Int)=((b.ao.length:Nat):Int)))) ( some false) ( Cy n nd a b n 0)
def vT:Nat→Expr→Expr→ans
 | 0=>λ_ _=>none
 |m+1=>N1 m (vT m)
def N2(n:Nat)(mA:(List Stmt)→(List Stmt)→ans):ans:=some true
def N3(mA:(List Stmt)→(List Stmt)→ans)(a:List Stmt)(b:List Stmt)(al:Int→ans)(v9:Int):ans:=cond (decide (v9<((a.length:Nat):Int))) ( aq (aH v9 a.length)<|aq (aH v9 b.length)<|Option.bind (cond (!(cond (cond (!decide ((anr a v9).Op=(anr b v9).Op)) true (!(decide (((anr a v9).Name)=((anr b v9).Name))))) true (!decide ((anr a v9).Max=(anr b v9).Max)))) (vT n (⟨((anr a v9).A).Op,((anr a v9).A).N,((anr a v9).A).S,((anr a v9).A).ao⟩:Expr) (⟨((anr b v9).A).Op,((anr b v9).A).N,((anr b v9).A).S,((anr b v9).A).ao⟩:Expr)) (some default)) λb9=>Option.bind (cond (!(cond (cond (cond (!decide ((anr a v9).Op=(anr b v9).Op)) true (!(decide (((anr a v9).Name)=((anr b v9).Name))))) true (!decide ((anr a v9).Max=(anr b v9).Max))) true (!b9))) (vT n (⟨((anr a v9).B).Op,((anr a v9).B).N,((anr a v9).B).S,((anr a v9).B).ao⟩:Expr) (⟨((anr b v9).B).Op,((anr b v9).B).N,((anr b v9).B).S,((anr b v9).B).ao⟩:Expr)) (some default)) λcK=>Option.bind (cond (!(cond (cond (cond (cond (!decide ((anr a v9).Op=(anr b v9).Op)) true (!(decide (((anr a v9).Name)=((anr b v9).Name))))) true (!decide ((anr a v9).Max=(anr b v9).Max))) true (!b9)) true (!cK))) (mA ((anr a v9).Body) ((anr b v9).Body)) (some default)) λei=>Option.bind (cond (!(cond (cond (cond (cond (cond (!decide ((anr a v9).Op=(anr b v9).Op)) true (!(decide (((anr a v9).Name)=((anr b v9).Name))))) true (!decide ((anr a v9).Max=(anr b v9).Max))) true (!b9)) true (!cK)) true (!ei))) (mA ((anr a v9).bx) ((anr b v9).bx)) (some default)) λda=>cond (cond (cond (cond (cond (cond (cond (!decide ((anr a v9).Op=(anr b v9).Op)) true (!(decide (((anr a v9).Name)=((anr b v9).Name))))) true (!decide ((anr a v9).Max=(anr b v9).Max))) true (!b9)) true (!cK)) true (!ei)) true (!da)) ( some false) ( al (anq (v9+1)))) ( N2 n mA)
def Cz(n:Nat)(mA:(List Stmt)→(List Stmt)→ans)(a:List Stmt)(b:List Stmt):Nat→Int→ans
 | 0=>λ_=>none
 |m+1=>N3 n mA a b (Cz n mA a b m)
def N4(mA:(List Stmt)→(List Stmt)→ans)(a:List Stmt)(b:List Stmt):ans:=cond (!decide (((a.length:Nat):Int)=((b.length:Nat):Int))) ( some false) ( Cz n mA a b n 0)
def yG:Nat→(List Stmt)→(List Stmt)→ans
 | 0=>λ_ _=>none
 |m+1=>N4 m (yG m)
def N5(a:aZ)(b:aZ):ans:=(yG n a.Body b.Body).bind λb4=>some b4
def N6(a:aZ)(b:aZ)(al:Int→ans)(v5:Int):ans:=cond (decide (v5<((a.Params.length:Nat):Int))) ( aq (aH v5 a.Params.length)<|aq (aH v5 b.Params.length)<|cond (!((decide ((anr a.Params v5).Name=(anr b.Params v5).Name))&&((decide ((anr a.Params v5).fm=(anr b.Params v5).fm))&&true))) ( some false) ( al (anq (v5+1)))) ( N5 n a b)
def CA(n:Nat)(a:aZ)(b:aZ):Nat→Int→ans
 | 0=>λ_=>none
 |m+1=>N6 n a b (CA n a b m)
def Hr(a:aZ)(b:aZ):ans:=cond (cond (!(decide (a.Name=b.Name))) true (!decide (((a.Params.length:Nat):Int)=((b.Params.length:Nat):Int)))) ( some false) ( CA n a b n 0)
def N7(n:Nat):ans:=some true
def Hs(a:List aZ)(b:List aZ)(al:Int→ans)(v6:Int):ans:=cond (decide (v6<((a.length:Nat):Int))) ( aq (aH v6 a.length)<|aq (aH v6 b.length)<|(Hr n (anr a v6) (anr b v6)).bind λb4=>cond (!b4) ( some false) ( al (anq (v6+1)))) ( N7 n)
def yH(n:Nat)(a:List aZ)(b:List aZ):Nat→Int→ans
 | 0=>λ_=>none
 |m+1=>Hs n a b (yH n a b m)
def Ht(a:List aZ)(b:List aZ):ans:=cond (!decide (((a.length:Nat):Int)=((b.length:Nat):Int))) ( some false) ( yH n a b n 0)
def N8(n:Nat):ans:=some true
def N9(n:Nat)(al:Int→ans)(v12:Int)(a:aR)(b:aR):ans:=al (anq (v12+1))
def Hu(al:Int→ans)(v12:Int)(a:aR)(b:aR)(gB:Int→ans)(ck:Int):ans:=cond (decide (ck<((((anr a.Rows v12).cU).length:Nat):Int))) ( aq (aH ck ((anr a.Rows v12).cU).length)<|aq (aH ck ((anr b.Rows v12).cU).length)<|cond (!((decide ((((anr a.Rows v12).cU).getD (ck).toNat default).gu=(((anr b.Rows v12).cU).getD (ck).toNat default).gu))&&((decide (((((anr a.Rows v12).cU).getD (ck).toNat default).b2).Kind=((((anr b.Rows v12).cU).getD (ck).toNat default).b2).Kind))&&((decide (((((anr a.Rows v12).cU).getD (ck).toNat default).b2).N=((((anr b.Rows v12).cU).getD (ck).toNat default).b2).N))&&((decide (((((anr a.Rows v12).cU).getD (ck).toNat default).b2).S=((((anr b.Rows v12).cU).getD (ck).toNat default).b2).S))&&true))))) ( some false) ( gB (anq (ck+1)))) ( N9 n al v12 a b)
def yI(n:Nat)(al:Int→ans)(v12:Int)(a:aR)(b:aR):Nat→Int→ans
 | 0=>λ_=>none
 |m+1=>Hu n al v12 a b (yI n al v12 a b m)
def Hv(a:aR)(b:aR)(al:Int→ans)(v12:Int):ans:=cond (decide (v12<((a.Rows.length:Nat):Int))) ( aq (aH v12 a.Rows.length)<|aq (aH v12 b.Rows.length)<|cond (cond (!(decide (((anr a.Rows v12).Key)=((anr b.Rows v12).Key)))) true (!decide (((((anr a.Rows v12).cU).length:Nat):Int)=((((anr b.Rows v12).cU).length:Nat):Int)))) ( some false) ( yI n al v12 a b n 0)) ( N8 n)
def tv(n:Nat)(a:aR)(b:aR):Nat→Int→ans
 | 0=>λ_=>none
 |m+1=>Hv n a b (tv n a b m)
def Hw(a:aR)(b:aR):ans:=cond (cond (cond (!decide (a.dn=b.dn)) true (!decide (a.dd=b.dd))) true (!decide (((a.Rows.length:Nat):Int)=((b.Rows.length:Nat):Int)))) ( some false) ( tv n a b n 0)
def N'(n:Nat):ans:=some true
def Hx(a:cD)(b:cD)(al:Int→ans)(v5:Int):ans:=cond (decide (v5<((a.bb.length:Nat):Int))) ( aq (aH v5 a.bb.length)<|aq (aH v5 b.bb.length)<|cond (!((decide ((anr a.bb v5).Id=(anr b.bb v5).Id))&&((decide ((anr a.bb v5).gR=(anr b.bb v5).gR))&&((decide ((anr a.bb v5).Node=(anr b.bb v5).Node))&&((decide ((anr a.bb v5).iN=(anr b.bb v5).iN))&&((decide ((anr a.bb v5).k4=(anr b.bb v5).k4))&&true)))))) ( some false) ( al (anq (v5+1)))) ( N' n)
def yJ(n:Nat)(a:cD)(b:cD):Nat→Int→ans
 | 0=>λ_=>none
 |m+1=>Hx n a b (yJ n a b m)
def Hy(a:cD)(b:cD):ans:=cond (cond (!decide (a.Version=b.Version)) true (!decide (((a.bb.length:Nat):Int)=((b.bb.length:Nat):Int)))) ( some false) ( yJ n a b n 0)
def N_(n:Nat):ans:=some true
def Hz(a:List bn)(b:List bn)(al:Int→ans)(v5:Int):ans:=cond (decide (v5<((a.length:Nat):Int))) ( aq (aH v5 a.length)<|aq (aH v5 b.length)<|cond (!((decide ((anr a v5).Key=(anr b v5).Key))&&((decide ((anr a v5).Count=(anr b v5).Count))&&true))) ( some false) ( al (anq (v5+1)))) ( N_ n)
def yK(n:Nat)(a:List bn)(b:List bn):Nat→Int→ans
 | 0=>λ_=>none
 |m+1=>Hz n a b (yK n a b m)
def HA(a:List bn)(b:List bn):ans:=cond (!decide (((a.length:Nat):Int)=((b.length:Nat):Int))) ( some false) ( yK n a b n 0)
def Oa(n:Nat):ans:=some true
def HB(a:List ano)(b:List ano)(al:Int→ans)(v5:Int):ans:=cond (decide (v5<((a.length:Nat):Int))) ( aq (aH v5 a.length)<|aq (aH v5 b.length)<|cond (!(decide ((anr a v5)=(anr b v5)))) ( some false) ( al (anq (v5+1)))) ( Oa n)
def yL(n:Nat)(a:List ano)(b:List ano):Nat→Int→ans
 | 0=>λ_=>none
 |m+1=>HB n a b (yL n a b m)
def CB(a:List ano)(b:List ano):ans:=cond (!decide (((a.length:Nat):Int)=((b.length:Nat):Int))) ( some false) ( yL n a b n 0)
def Ob(a:gS)(b:gS):ans:=Option.bind (cond (a.fo == b.fo) (CB n a.Reads b.Reads) (some default)) λr1=>Option.bind (cond (cond (a.fo == b.fo) r1 false) (CB n a.es b.es) (some default)) λr2=>some (cond (cond (a.fo == b.fo) r1 false) r2 false)
def Oc(n:Nat):ans:=some true
def HC(a:Request)(b:Request)(al:Int→ans)(v6:Int):ans:=cond (decide (v6<((a.ao.length:Nat):Int))) ( aq (aH v6 a.ao.length)<|aq (aH v6 b.ao.length)<|cond (!((decide ((anr a.ao v6).Kind=(anr b.ao v6).Kind))&&((decide ((anr a.ao v6).N=(anr b.ao v6).N))&&((decide ((anr a.ao v6).S=(anr b.ao v6).S))&&true)))) ( some false) ( al (anq (v6+1)))) ( Oc n)
def yM(n:Nat)(a:Request)(b:Request):Nat→Int→ans
 | 0=>λ_=>none
 |m+1=>HC n a b (yM n a b m)
def HD(a:Request)(b:Request):ans:=Option.bind (cond (!(cond (cond (cond (cond (!decide (a.Client=b.Client)) true (!decide (a.Seq=b.Seq))) true (!(decide (a.aZ=b.aZ)))) true (!(a.fv == b.fv))) true (!decide (((a.ao.length:Nat):Int)=((b.ao.length:Nat):Int))))) (Ob n a.bW b.bW) (some default)) λr1=>cond (cond (cond (cond (cond (cond (!decide (a.Client=b.Client)) true (!decide (a.Seq=b.Seq))) true (!(decide (a.aZ=b.aZ)))) true (!(a.fv == b.fv))) true (!decide (((a.ao.length:Nat):Int)=((b.ao.length:Nat):Int)))) true (!r1)) ( some false) ( yM n a b n 0)
def Od(n:Nat):ans:=some true
def HE(a:Outcome)(b:Outcome)(al:Int→ans)(v5:Int):ans:=cond (decide (v5<((a.Out.length:Nat):Int))) ( aq (aH v5 a.Out.length)<|aq (aH v5 b.Out.length)<|cond (!((decide ((anr a.Out v5).Kind=(anr b.Out v5).Kind))&&((decide ((anr a.Out v5).N=(anr b.Out v5).N))&&((decide ((anr a.Out v5).S=(anr b.Out v5).S))&&true)))) ( some false) ( al (anq (v5+1)))) ( Od n)
def yN(n:Nat)(a:Outcome)(b:Outcome):Nat→Int→ans
 | 0=>λ_=>none
 |m+1=>HE n a b (yN n a b m)
def CC(a:Outcome)(b:Outcome):ans:=cond (cond (cond (!decide (a.Status=b.Status)) true (!decide (a.Code=b.Code))) true (!decide (((a.Out.length:Nat):Int)=((b.Out.length:Nat):Int)))) ( some false) ( yN n a b n 0)
def Oe(a:eK)(b:eK):ans:=Option.bind (cond (cond (decide (a.Client=b.Client)) (decide (a.Seq=b.Seq)) false) (CC n a.Outcome b.Outcome) (some default)) λr1=>some (cond (cond (decide (a.Client=b.Client)) (decide (a.Seq=b.Seq)) false) r1 false)
def Of(n:Nat):ans:=some true
def HF(a:List eK)(b:List eK)(al:Int→ans)(v6:Int):ans:=cond (decide (v6<((a.length:Nat):Int))) ( aq (aH v6 a.length)<|aq (aH v6 b.length)<|(Oe n (anr a v6) (anr b v6)).bind λb4=>cond (!b4) ( some false) ( al (anq (v6+1)))) ( Of n)
def yO(n:Nat)(a:List eK)(b:List eK):Nat→Int→ans
 | 0=>λ_=>none
 |m+1=>HF n a b (yO n a b m)
def HG(a:List eK)(b:List eK):ans:=cond (!decide (((a.length:Nat):Int)=((b.length:Nat):Int))) ( some false) ( yO n a b n 0)
def Og(n:Nat):ans:=some true
def HH(a:List bY)(b:List bY)(al:Int→ans)(v10:Int):ans:=cond (decide (v10<((a.length:Nat):Int))) ( aq (aH v10 a.length)<|aq (aH v10 b.length)<|aq ((!decide ((anr a v10).Client=(anr b v10).Client))||aH v10 a.length)<|aq ((!decide ((anr a v10).Client=(anr b v10).Client))||aH v10 b.length)<|aq ((cond (!decide ((anr a v10).Client=(anr b v10).Client)) true (!decide ((anr a v10).Next=(anr b v10).Next)))||aH v10 a.length)<|aq ((cond (!decide ((anr a v10).Client=(anr b v10).Client)) true (!decide ((anr a v10).Next=(anr b v10).Next)))||aH v10 b.length)<|Option.bind (cond (!(cond (!decide ((anr a v10).Client=(anr b v10).Client)) true (!decide ((anr a v10).Next=(anr b v10).Next)))) (HG n ((anr a v10).cM) ((anr b v10).cM)) (some default)) λcL=>cond (cond (cond (!decide ((anr a v10).Client=(anr b v10).Client)) true (!decide ((anr a v10).Next=(anr b v10).Next))) true (!cL)) ( some false) ( al (anq (v10+1)))) ( Og n)
def yP(n:Nat)(a:List bY)(b:List bY):Nat→Int→ans
 | 0=>λ_=>none
 |m+1=>HH n a b (yP n a b m)
def HI(a:List bY)(b:List bY):ans:=cond (!decide (((a.length:Nat):Int)=((b.length:Nat):Int))) ( some false) ( yP n a b n 0)
def Oh(n:Nat):ans:=some true
def HJ(a:cV)(b:cV)(al:Int→ans)(v11:Int):ans:=cond (decide (v11<((a.Queue.length:Nat):Int))) ( aq (aH v11 a.Queue.length)<|aq (aH v11 b.Queue.length)<|(HD n (anr a.Queue v11) (anr b.Queue v11)).bind λei=>cond (!ei) ( some false) ( al (anq (v11+1)))) ( Oh n)
def yQ(n:Nat)(a:cV)(b:cV):Nat→Int→ans
 | 0=>λ_=>none
 |m+1=>HJ n a b (yQ n a b m)
def vU(a:cV)(b:cV):ans:=Option.bind (cond (!(cond (!decide (a.Pos=b.Pos)) true (!decide (a.dT=b.dT)))) (Hw n a.aR b.aR) (some default)) λr1=>Option.bind (cond (!(cond (cond (!decide (a.Pos=b.Pos)) true (!decide (a.dT=b.dT))) true (!r1))) (Ht n a.eh b.eh) (some default)) λr2=>Option.bind (cond (!(cond (cond (cond (!decide (a.Pos=b.Pos)) true (!decide (a.dT=b.dT))) true (!r1)) true (!r2))) (HI n a.ea b.ea) (some default)) λr3=>Option.bind (cond (!(cond (cond (cond (cond (!decide (a.Pos=b.Pos)) true (!decide (a.dT=b.dT))) true (!r1)) true (!r2)) true (!r3))) (Hy n a.Place b.Place) (some default)) λbc=>Option.bind (cond (!(cond (cond (cond (cond (cond (!decide (a.Pos=b.Pos)) true (!decide (a.dT=b.dT))) true (!r1)) true (!r2)) true (!r3)) true (!bc))) (HA n a.bn b.bn) (some default)) λbQ=>cond (cond (cond (cond (cond (cond (cond (cond (!decide (a.Pos=b.Pos)) true (!decide (a.dT=b.dT))) true (!r1)) true (!r2)) true (!r3)) true (!bc)) true (!bQ)) true (!decide (((a.Queue.length:Nat):Int)=((b.Queue.length:Nat):Int)))) ( some false) ( yQ n a b n 0)
def CD:ans:=(BQ n (⟨0,⟨0,0,[]⟩,[],[],⟨0,[⟨1,[],1,0,[]⟩]⟩,[],[],0⟩:cV)).bind λr1=>(Cx n r1.1).bind λr2=>Option.bind (cond (cond (decide (r1.1=([0,0,0,0,0,1,2,0,2,0,0,0,0,0]:ano))) (decide (r1.2=0)) false) (vU n r2.1 (⟨0,⟨0,0,[]⟩,[],[],⟨0,[⟨1,[],1,0,[]⟩]⟩,[],[],0⟩:cV)) (some default)) λr3=>Option.bind (cond (cond (cond (cond (decide (r1.1=([0,0,0,0,0,1,2,0,2,0,0,0,0,0]:ano))) (decide (r1.2=0)) false) r3 false) (decide (r2.2=0)) false) (NY n (⟨2,⟨2,2,[⟨[120],[⟨2,⟨1,1,[]⟩⟩]⟩]⟩,[],[],⟨0,[⟨1,[],1,0,[]⟩]⟩,[],[],0⟩:cV) (⟨2,⟨1,2,[⟨[119],[⟨1,⟨1,1,[]⟩⟩,⟨2,⟨0,0,[]⟩⟩]⟩,⟨[120],[⟨1,⟨1,1,[]⟩⟩]⟩]⟩,[],[],⟨0,[⟨1,[],1,0,[]⟩]⟩,[],[],0⟩:cV)) (some default)) λbc=>Option.bind (cond (cond (cond (cond (cond (decide (r1.1=([0,0,0,0,0,1,2,0,2,0,0,0,0,0]:ano))) (decide (r1.2=0)) false) r3 false) (decide (r2.2=0)) false) bc false) (NY n (⟨2,⟨2,2,[⟨[120],[⟨2,⟨1,1,[]⟩⟩]⟩]⟩,[],[],⟨0,[⟨1,[],1,0,[]⟩]⟩,[],[],0⟩:cV) (⟨0,⟨0,0,[]⟩,[],[],⟨0,[⟨1,[],1,0,[]⟩]⟩,[],[],0⟩:cV)) (some default)) λbQ=>some (cond (cond (cond (cond (cond (decide (r1.1=([0,0,0,0,0,1,2,0,2,0,0,0,0,0]:ano))) (decide (r1.2=0)) false) r3 false) (decide (r2.2=0)) false) bc false) (!bQ) false)
def UE(n:Nat)(k:ano):ans:=some (cond (decide (1≤((k.length:Nat):Int))) (decide (((k.length:Nat):Int)≤24)) false)
def Oi(k:ano)(al:Int→ans)(v3:Int):ans:=cond (decide (v3<((k.length:Nat):Int))) ( aq (aH v3 k.length)<|cond (cond (cond (cond (cond (cond (cond (decide ((((k.getD (v3).toNat 0).toNat:Nat):Int)<97)) true (decide (122<(((k.getD (v3).toNat 0).toNat:Nat):Int)))) (cond (decide ((((k.getD (v3).toNat 0).toNat:Nat):Int)<48)) true (decide (57<(((k.getD (v3).toNat 0).toNat:Nat):Int)))) false) (!decide ((((k.getD (v3).toNat 0).toNat:Nat):Int)=47)) false) (!decide ((((k.getD (v3).toNat 0).toNat:Nat):Int)=46)) false) (!decide ((((k.getD (v3).toNat 0).toNat:Nat):Int)=95)) false) (!decide ((((k.getD (v3).toNat 0).toNat:Nat):Int)=45)) false) ( some false) ( al (anq (v3+1)))) ( UE n k)
def CE(n:Nat)(k:ano):Nat→Int→ans
 | 0=>λ_=>none
 |m+1=>Oi n k (CE n k m)
def Oj(k:ano):ans:=CE n k n 0
def adT(n:Nat):ans:=some true
def UF(s:ano)(al:Int→ans)(v5:Int):ans:=cond (decide (v5<((s.length:Nat):Int))) ( aq (aH v5 s.length)<|aq ((decide ((((s.getD (v5).toNat 0).toNat:Nat):Int)<32))||aH v5 s.length)<|cond (cond (decide ((((s.getD (v5).toNat 0).toNat:Nat):Int)<32)) true (decide (126<(((s.getD (v5).toNat 0).toNat:Nat):Int)))) ( some false) ( al (anq (v5+1)))) ( adT n)
def HK(n:Nat)(s:ano):Nat→Int→ans
 | 0=>λ_=>none
 |m+1=>UF n s (HK n s m)
def Ok(s:ano):ans:=cond (decide (64<((s.length:Nat):Int))) ( some false) ( HK n s n 0)
def Ol(v:br):ans:=cond (decide (v.Kind=0)) ( some (cond (decide (v.N=0)) (decide (v.S=([]:ano))) false)) ( cond (decide (v.Kind=1)) ( some (decide (v.S=([]:ano)))) ( Option.bind (cond (cond (decide (v.Kind=2)) (decide (v.N=0)) false) (Ok n v.S) (some default)) λr3=>some (cond (cond (decide (v.Kind=2)) (decide (v.N=0)) false) r3 false)))
def UG(n:Nat):Option (List ano):=some ([([112,114,111,99]:ano),([108,101,116]:ano),([112,117,116]:ano),([100,101,108,101,116,101]:ano),([105,102]:ano),([101,108,115,101]:ano),([102,111,114]:ano),([116,111]:ano),([109,97,120]:ano),([101,109,105,116]:ano),([97,98,111,114,116]:ano),([110,111,116]:ano),([97,110,100]:ano),([111,114]:ano),([105,110,116]:ano),([115,116,114]:ano),([98,111,111,108]:ano),([116,101,120,116]:ano),([108,101,110]:ano),([103,101,116,105,110,116]:ano),([103,101,116,115,116,114]:ano),([104,97,115]:ano),([110,111,119]:ano),([114,97,110,100,111,109]:ano),([110,111,100,101]:ano)]:List ano)
def UH(n:Nat):ans:=some false
def UI(l:List ano)(s:ano)(al:Int→ans)(v3:Int):ans:=cond (decide (v3<((l.length:Nat):Int))) ( aq (aH v3 l.length)<|cond (decide ((anr l v3)=s)) ( some true) ( al (anq (v3+1)))) ( UH n)
def HL(n:Nat)(l:List ano)(s:ano):Nat→Int→ans
 | 0=>λ_=>none
 |m+1=>UI n l s (HL n l s m)
def UJ(l:List ano)(s:ano):ans:=HL n l s n 0
def HM(s:ano):ans:=(UG n).bind λr1=>(UJ n r1 s).bind λr2=>some r2
def CF(n:Nat)(c:Int):ans:=some (cond (decide (97≤c)) (decide (c≤122)) false)
def UK(n:Nat)(c:Int):ans:=some (cond (decide (48≤c)) (decide (c≤57)) false)
def HN(c:Int):ans:=(CF n c).bind λr1=>Option.bind (cond (!r1) (UK n c) (some default)) λr2=>some (cond (cond r1 true r2) true (decide (c=95)))
def UL(n:Nat)(bG:Int):ant:=some bG
def UM(s:ano)(al:Int→ant)(v4:Int):ant:=aq (!(decide (v4<((s.length:Nat):Int)))||aH v4 s.length)<|Option.bind (cond (decide (v4<((s.length:Nat):Int))) (HN n (((s.getD (v4).toNat 0).toNat:Nat):Int)) (some default)) λbe=>cond (cond (decide (v4<((s.length:Nat):Int))) be false) ( al (anq (v4+1))) ( UL n v4)
def HO(n:Nat)(s:ano):Nat→Int→ant
 | 0=>λ_=>none
 |m+1=>UM n s (HO n s m)
def Om(s:ano)(at_:Int):ant:=HO n s n at_
def vV(s:ano):ans:=aq (!(cond (decide (1≤((s.length:Nat):Int))) (decide (((s.length:Nat):Int)≤16)) false)||aH 0 s.length)<|Option.bind (cond (cond (decide (1≤((s.length:Nat):Int))) (decide (((s.length:Nat):Int)≤16)) false) (CF n (((s.getD 0 0).toNat:Nat):Int)) (some default)) λr2=>Option.bind (cond (cond (cond (decide (1≤((s.length:Nat):Int))) (decide (((s.length:Nat):Int)≤16)) false) r2 false) (Om n s 0) (some default)) λr3=>Option.bind (cond (cond (cond (cond (decide (1≤((s.length:Nat):Int))) (decide (((s.length:Nat):Int)≤16)) false) r2 false) (decide (r3=((s.length:Nat):Int))) false) (HM n s) (some default)) λbc=>some (cond (cond (cond (cond (decide (1≤((s.length:Nat):Int))) (decide (((s.length:Nat):Int)≤16)) false) r2 false) (decide (r3=((s.length:Nat):Int))) false) (!bc) false)
def tw(n:Nat)(e:Expr):ans:=some (cond (cond (cond (decide (e.Op=0)) (decide (e.N=0)) false) (decide (e.S=([]:ano))) false) (decide (((e.ao.length:Nat):Int)=0)) false)
def UN(n:Nat)(tx:(List c')→Expr→Bool→Option (List c'))(eL:List c'):Option (List c'):=some eL
def UO(tx:(List c')→Expr→Bool→Option (List c'))(e:Expr)(al:(List c')→Int→Option (List c'))(bu:List c')(bG:Int):Option (List c'):=cond (cond (decide (bG<((e.ao.length:Nat):Int))) (decide (((bu.length:Nat):Int)≤400)) false) ( aq (aH bG e.ao.length)<|(tx bu (anr e.ao bG) false).bind λc_=>al c_ (anq (bG+1))) ( UN n tx bu)
def HP(n:Nat)(tx:(List c')→Expr→Bool→Option (List c'))(e:Expr):Nat→(List c')→Int→Option (List c')
 | 0=>λ_ _=>none
 |m+1=>UO n tx e (HP n tx e m)
def UP(tx:(List c')→Expr→Bool→Option (List c'))(out:List c')(e:Expr)(root:Bool):Option (List c'):=cond (decide (400<((out.length:Nat):Int))) ( some out) ( aq (room (out.length+([(⟨false,⟨0,[],0,⟨0,0,[],[]⟩,⟨0,0,[],[]⟩,[],[]⟩,0,e,root⟩:c')]:List c').length) 272)<|HP n tx e n (out++([(⟨false,⟨0,[],0,⟨0,0,[],[]⟩,⟨0,0,[],[]⟩,[],[]⟩,0,e,root⟩:c')]:List c')) 0)
def tz:Nat→(List c')→Expr→Bool→Option (List c')
 | 0=>λ_ _ _=>none
 |m+1=>UP m (tz m)
def UQ(n:Nat)(lG:(List c')→(List Stmt)→Int→Option (List c'))(k8:List c'):Option (List c'):=some k8
def UR(n:Nat)(lG:(List c')→(List Stmt)→Int→Option (List c'))(al:(List c')→Int→Option (List c'))(l:List Stmt)(depth:Int)(v21:Int)(je:List c'):Option (List c'):=al je (anq (v21+1))
def On(lG:(List c')→(List Stmt)→Int→Option (List c'))(al:(List c')→Int→Option (List c'))(l:List Stmt)(depth:Int)(v21:Int)(x3:List c'):Option (List c'):=aq (aH v21 l.length)<|(lG x3 ((anr l v21).Body) (anq (depth+1))).bind λlF=>aq (aH v21 l.length)<|(lG lF ((anr l v21).bx) (anq (depth+1))).bind λoM=>UR n lG al l depth v21 oM
def Oo(lG:(List c')→(List Stmt)→Int→Option (List c'))(al:(List c')→Int→Option (List c'))(l:List Stmt)(depth:Int)(v21:Int)(v28:List c'):Option (List c'):=aq (aH v21 l.length)<|(tw n ((anr l v21).B)).bind λhA=>cond (!hA) ( aq (aH v21 l.length)<|(tz n v28 ((anr l v21).B) true).bind λkM=>On n lG al l depth v21 kM) ( On n lG al l depth v21 v28)
def US(lG:(List c')→(List Stmt)→Int→Option (List c'))(l:List Stmt)(depth:Int)(al:(List c')→Int→Option (List c'))(v20:List c')(v21:Int):Option (List c'):=cond (cond (decide (v21<((l.length:Nat):Int))) (decide (((v20.length:Nat):Int)≤400)) false) ( aq (aH v21 l.length)<|aq (room (v20.length+([(⟨true,⟨(anr l v21).Op,(anr l v21).Name,(anr l v21).Max,⟨((anr l v21).A).Op,((anr l v21).A).N,((anr l v21).A).S,((anr l v21).A).ao⟩,⟨((anr l v21).B).Op,((anr l v21).B).N,((anr l v21).B).S,((anr l v21).B).ao⟩,(anr l v21).Body,(anr l v21).bx⟩,depth,⟨0,0,[],[]⟩,false⟩:c')]:List c').length) 272)<|aq (aH v21 l.length)<|(tw n ((anr l v21).A)).bind λfa=>cond (!fa) ( aq (aH v21 l.length)<|(tz n (v20++([(⟨true,⟨(anr l v21).Op,(anr l v21).Name,(anr l v21).Max,⟨((anr l v21).A).Op,((anr l v21).A).N,((anr l v21).A).S,((anr l v21).A).ao⟩,⟨((anr l v21).B).Op,((anr l v21).B).N,((anr l v21).B).S,((anr l v21).B).ao⟩,(anr l v21).Body,(anr l v21).bx⟩,depth,⟨0,0,[],[]⟩,false⟩:c')]:List c')) ((anr l v21).A) true).bind λr27=>Oo n lG al l depth v21 r27) ( Oo n lG al l depth v21 (v20++([(⟨true,⟨(anr l v21).Op,(anr l v21).Name,(anr l v21).Max,⟨((anr l v21).A).Op,((anr l v21).A).N,((anr l v21).A).S,((anr l v21).A).ao⟩,⟨((anr l v21).B).Op,((anr l v21).B).N,((anr l v21).B).S,((anr l v21).B).ao⟩,(anr l v21).Body,(anr l v21).bx⟩,depth,⟨0,0,[],[]⟩,false⟩:c')]:List c')))) ( UQ n lG v20)
def vW(n:Nat)(lG:(List c')→(List Stmt)→Int→Option (List c'))(l:List Stmt)(depth:Int):Nat→(List c')→Int→Option (List c')
 | 0=>λ_ _=>none
 |m+1=>US n lG l depth (vW n lG l depth m)
def UT(lG:(List c')→(List Stmt)→Int→Option (List c'))(out:List c')(l:List Stmt)(depth:Int):Option (List c'):=vW n lG l depth n out 0
def ne:Nat→(List c')→(List Stmt)→Int→Option (List c')
 | 0=>λ_ _ _=>none
 |m+1=>UT m (ne m)
def UU(p:aZ):Option (List c'):=(ne n ([]:List c') p.Body 1).bind λr1=>some r1
def UV(n:Nat):ant:=some 0
def UW(n:Nat)(al:Int→ant)(l:List Param)(b0:Int):ant:=al (anq (b0+1))
def UX(al:Int→ant)(l:List Param)(b0:Int)(gB:Int→ant)(fO:Int):ant:=cond (decide (fO<b0)) ( aq (aH fO l.length)<|aq (aH b0 l.length)<|cond (decide (((anr l fO).Name)=((anr l b0).Name))) ( some 8) ( gB (anq (fO+1)))) ( UW n al l b0)
def CG(n:Nat)(al:Int→ant)(l:List Param)(b0:Int):Nat→Int→ant
 | 0=>λ_=>none
 |m+1=>UX n al l b0 (CG n al l b0 m)
def UY(l:List Param)(al:Int→ant)(b0:Int):ant:=cond (decide (b0<((l.length:Nat):Int))) ( aq (aH b0 l.length)<|(vV n ((anr l b0).Name)).bind λct=>cond (!ct) ( some 7) ( aq (aH b0 l.length)<|aq ((decide ((anr l b0).fm<1))||aH b0 l.length)<|cond (cond (decide ((anr l b0).fm<1)) true (decide (3<(anr l b0).fm))) ( some 10) ( CG n al l b0 n 0))) ( UV n)
def vX(n:Nat)(l:List Param):Nat→Int→ant
 | 0=>λ_=>none
 |m+1=>UY n l (vX n l m)
def Oq(l:List Param):ant:=cond (decide (6<((l.length:Nat):Int))) ( some 2) ( vX n l n 0)
def UZ(n:Nat)(op:Int):ant:=cond (cond (decide (4≤op)) (decide (op≤19)) false) ( some 2) ( some (-1))
def tA(op:Int)(v2:Bool):ant:=cond v2 ( some 1) ( UZ n op)
def vY(op:Int)(v1:Bool):ant:=cond v1 ( some 0) ( cond (decide (op=9)) ( tA n op (decide (op=9))) ( cond (decide (op=18)) ( tA n op (decide (op=18))) ( cond (decide (op=20)) ( tA n op (decide (op=20))) ( cond (decide (op=21)) ( tA n op (decide (op=21))) ( cond (decide (op=22)) ( tA n op (decide (op=22))) ( cond (decide (op=23)) ( tA n op (decide (op=23))) ( tA n op (decide (op=24)))))))))
def HQ(op:Int):ant:=cond (decide (op=1)) ( vY n op (decide (op=1))) ( cond (decide (op=2)) ( vY n op (decide (op=2))) ( cond (decide (op=3)) ( vY n op (decide (op=3))) ( cond (decide (op=25)) ( vY n op (decide (op=25))) ( cond (decide (op=26)) ( vY n op (decide (op=26))) ( vY n op (decide (op=27)))))))
def U0(n:Nat):ans:=some true
def U1(s:ano)(al:Int→ans)(v5:Int):ans:=cond (decide (v5<((s.length:Nat):Int))) ( aq (aH v5 s.length)<|aq ((decide ((((s.getD (v5).toNat 0).toNat:Nat):Int)<32))||aH v5 s.length)<|cond (cond (decide ((((s.getD (v5).toNat 0).toNat:Nat):Int)<32)) true (decide (126<(((s.getD (v5).toNat 0).toNat:Nat):Int)))) ( some false) ( al (anq (v5+1)))) ( U0 n)
def HR(n:Nat)(s:ano):Nat→Int→ans
 | 0=>λ_=>none
 |m+1=>U1 n s (HR n s m)
def Ot(s:ano):ans:=cond (decide (64<((s.length:Nat):Int))) ( some false) ( HR n s n 0)
def Ou(e:Expr)(depth:Int):ant:=(HQ n e.Op).bind λr1=>cond (cond (cond (decide (r1<0)) true (cond (!decide (e.Op=1)) (!decide (e.N=0)) false)) true (cond (cond (!decide (e.Op=2)) (!decide (e.Op=3)) false) (!(decide (e.S=([]:ano)))) false)) ( some 1) ( Option.bind (cond (decide (e.Op=3)) (vV n e.S) (some default)) λr3=>cond (cond (decide (e.Op=3)) (!r3) false) ( some 7) ( Option.bind (cond ((!(decide (e.N<0)))&&(decide (e.Op=2))) (Ot n e.S) (some default)) λbQ=>Option.bind (cond (!(cond (decide (e.N<0)) true (cond (decide (e.Op=2)) (!bQ) false))) (HQ n e.Op) (some default)) λbe=>cond (cond (cond (decide (e.N<0)) true (cond (decide (e.Op=2)) (!bQ) false)) true (!decide (((e.ao.length:Nat):Int)=be))) ( some 1) ( cond (decide (12<depth)) ( some 2) ( some 0))))
def U2(n:Nat)(tB:Expr→Int→ant):ant:=some 0
def U3(tB:Expr→Int→ant)(depth:Int)(e:Expr)(al:Int→ant)(v6:Int):ant:=cond (decide (v6<((e.ao.length:Nat):Int))) ( aq (aH v6 e.ao.length)<|(tB (anr e.ao v6) (anq (depth+1))).bind λcH=>cond (!decide (cH=0)) ( some cH) ( al (anq (v6+1)))) ( U2 n tB)
def HS(n:Nat)(tB:Expr→Int→ant)(depth:Int)(e:Expr):Nat→Int→ant
 | 0=>λ_=>none
 |m+1=>U3 n tB depth e (HS n tB depth e m)
def U4(tB:Expr→Int→ant)(e:Expr)(depth:Int):ant:=(Ou n e depth).bind λr1=>cond (!decide (r1=0)) ( some r1) ( HS n tB depth e n 0)
def CH:Nat→Expr→Int→ant
 | 0=>λ_ _=>none
 |m+1=>U4 m (CH m)
def HT(e:Expr):ant:=(CH n e 1).bind λr1=>some r1
def U5(n:Nat):Option (Bool×Bool×Bool×Bool×Bool×Bool):=some (false,true,false,false,false,false)
def Ov(op:Int)(v2:Bool):Option (Bool×Bool×Bool×Bool×Bool×Bool):=cond v2 ( some (false,false,true,false,false,false)) ( cond (decide (op=5)) ( some (false,false,true,false,true,true)) ( cond (decide (op=6)) ( some (true,true,true,true,true,false)) ( U5 n)))
def Ow(op:Int)(v1:Bool):Option (Bool×Bool×Bool×Bool×Bool×Bool):=cond v1 ( some (true,false,true,false,false,false)) ( cond (decide (op=3)) ( some (false,false,true,true,false,false)) ( cond (decide (op=4)) ( Ov n op (decide (op=4))) ( Ov n op (decide (op=7)))))
def HU(op:Int):Option (Bool×Bool×Bool×Bool×Bool×Bool):=cond (decide (op=1)) ( Ow n op (decide (op=1))) ( Ow n op (decide (op=2)))
def Ox(n:Nat)(depth:Int):ant:=cond (decide (12<depth)) ( some 2) ( some 0)
def Oy(depth:Int)(r1:Bool×Bool×Bool×Bool×Bool×Bool)(s:Stmt):ant:=cond r1.2.2.2.1 ( (HT n (⟨s.B.Op,s.B.N,s.B.S,s.B.ao⟩:Expr)).bind λb4=>cond (!decide (b4=0)) ( some b4) ( Ox n depth)) ( Ox n depth)
def Oz(s:Stmt)(depth:Int):ant:=(HU n s.Op).bind λr1=>Option.bind (cond ((!(cond (cond (cond (decide (s.Op<1)) true (decide (8<s.Op))) true (cond (!r1.1) (!(decide (s.Name=([]:ano)))) false)) true (cond (!r1.2.1) (!decide (s.Max=0)) false)))&&(!r1.2.2.1)) (tw n (⟨s.A.Op,s.A.N,s.A.S,s.A.ao⟩:Expr)) (some default)) λr2=>Option.bind (cond ((!(cond (cond (cond (cond (decide (s.Op<1)) true (decide (8<s.Op))) true (cond (!r1.1) (!(decide (s.Name=([]:ano)))) false)) true (cond (!r1.2.1) (!decide (s.Max=0)) false)) true (cond (!r1.2.2.1) (!r2) false)))&&(!r1.2.2.2.1)) (tw n (⟨s.B.Op,s.B.N,s.B.S,s.B.ao⟩:Expr)) (some default)) λr3=>cond (cond (cond (cond (cond (cond (cond (cond (decide (s.Op<1)) true (decide (8<s.Op))) true (cond (!r1.1) (!(decide (s.Name=([]:ano)))) false)) true (cond (!r1.2.1) (!decide (s.Max=0)) false)) true (cond (!r1.2.2.1) (!r2) false)) true (cond (!r1.2.2.2.1) (!r3) false)) true (cond (!r1.2.2.2.2.1) (decide (0<((s.Body.length:Nat):Int))) false)) true (cond (!r1.2.2.2.2.2) (decide (0<((s.bx.length:Nat):Int))) false)) ( some 1) ( cond (cond (cond (decide (s.Op=6)) (cond (decide (s.Max<1)) true (decide (16<s.Max))) false) true (cond (decide (s.Op=8)) (cond (decide (s.Max<0)) true (decide (999<s.Max))) false)) ( some 1) ( Option.bind (cond r1.1 (vV n s.Name) (some default)) λbe=>cond (cond r1.1 (!be) false) ( some 7) ( cond r1.2.2.1 ( (HT n (⟨s.A.Op,s.A.N,s.A.S,s.A.ao⟩:Expr)).bind λcH=>cond (!decide (cH=0)) ( some cH) ( Oy n depth r1 s)) ( Oy n depth r1 s))))
def U6(n:Nat)(bQ:(List c')):ant:=cond (decide (400<((bQ.length:Nat):Int))) ( some 2) ( some 0)
def OA(n:Nat)(al:Int→ant)(bQ:(List c'))(v11:Int):ant:=al (anq (v11+1))
def U7(bQ:(List c'))(al:Int→ant)(v11:Int):ant:=cond (decide (v11<((bQ.length:Nat):Int))) ( aq (aH v11 bQ.length)<|cond ((anr bQ v11).pz) ( aq (aH v11 bQ.length)<|aq (aH v11 bQ.length)<|(Oz n ((anr bQ v11).Stmt) ((anr bQ v11).A8)).bind λda=>cond (!decide (da=0)) ( some da) ( OA n al bQ v11)) ( OA n al bQ v11)) ( U6 n bQ)
def CI(n:Nat)(bQ:(List c')):Nat→Int→ant
 | 0=>λ_=>none
 |m+1=>U7 n bQ (CI n bQ m)
def HV(p:aZ):ant:=(vV n p.Name).bind λr1=>cond (!r1) ( some 7) ( (Oq n p.Params).bind λr3=>cond (!decide (r3=0)) ( some r3) ( (UU n p).bind λbQ=>CI n bQ n 0))
def U8(n:Nat)(a:Int):ant:=cond (decide (a<0)) ( some (IntKind.u64.wrap (0-(IntKind.u64.wrap a)))) ( some (IntKind.u64.wrap a))
def HW(n:Nat)(dZ:Int)(v12:ano):Option ano:=cond (decide (dZ<0)) ( aq (bM (([45]:ano).length+v12.length))<|some (([45]:ano)++v12)) ( some v12)
def tC(dZ:Int)(al:Int→ano→Option ano)(v6:Int)(bu:ano):Option ano:=cond (cond (decide (0<v6)) true (decide (bu=([]:ano)))) ( aq (mZ ([(IntKind.u8.wrap (IntKind.u64.wrap (48+(Int.tmod v6 10))))]:List Int))<|aq (bM ((jP ([(IntKind.u8.wrap (IntKind.u64.wrap (48+(Int.tmod v6 10))))]:List Int)).length+bu.length))<|al (IntKind.u64.wrap (Int.tdiv v6 10)) ((jP ([(IntKind.u8.wrap (IntKind.u64.wrap (48+(Int.tmod v6 10))))]:List Int))++bu)) ( HW n dZ bu)
def qF(n:Nat)(dZ:Int):Nat→Int→ano→Option ano
 | 0=>λ_ _=>none
 |m+1=>tC n dZ (qF n dZ m)
def yR(dZ:Int):Option ano:=(U8 n dZ).bind λr1=>qF n dZ n r1 ([]:ano)
def U9(n:Nat)(v9:ano):Option ano:=some v9
def U'(depth:Int)(al:ano→Int→Option ano)(v4:ano)(v5:Int):Option ano:=cond (decide (v5<depth)) ( aq (bM (v4.length+([32,32,32,32]:ano).length))<|al (v4++([32,32,32,32]:ano)) (anq (v5+1))) ( U9 n v4)
def HX(n:Nat)(depth:Int):Nat→ano→Int→Option ano
 | 0=>λ_ _=>none
 |m+1=>U' n depth (HX n depth m)
def U_(depth:Int):Option ano:=HX n depth n ([]:ano) 0
def Va(n:Nat):ans:=some true
def Vb(s:ano)(al:Int→ans)(v4:Int):ans:=cond (decide (v4<((s.length:Nat):Int))) ( aq (aH v4 s.length)<|aq ((decide ((((s.getD (v4).toNat 0).toNat:Nat):Int)<32))||aH v4 s.length)<|cond (cond (decide ((((s.getD (v4).toNat 0).toNat:Nat):Int)<32)) true (decide (126<(((s.getD (v4).toNat 0).toNat:Nat):Int)))) ( some false) ( al (anq (v4+1)))) ( Va n)
def CJ(n:Nat)(s:ano):Nat→Int→ans
 | 0=>λ_=>none
 |m+1=>Vb n s (CJ n s m)
def Vc(s:ano):ans:=CJ n s n 0
def Vd(n:Nat)(v24:ano):Option (ano×Int):=aq (bM (v24.length+([34]:ano).length))<|some ((v24++([34]:ano)),0)
def Ve(n:Nat)(al:ano→Int→Option (ano×Int))(s:ano)(b0:Int)(v21:ano):Option (ano×Int):=al v21 (anq (b0+1))
def OB(al:ano→Int→Option (ano×Int))(s:ano)(b0:Int)(ck:ano):Option (ano×Int):=aq (lm b0 (anq (b0+1)) s.length)<|aq (bM (ck.length+((s.take ((anq (b0+1))).toNat).drop (b0).toNat).length))<|Ve n al s b0 (ck++((s.take ((anq (b0+1))).toNat).drop (b0).toNat))
def Vf(s:ano)(al:ano→Int→Option (ano×Int))(eL:ano)(b0:Int):Option (ano×Int):=cond (decide (b0<((s.length:Nat):Int))) ( aq (aH b0 s.length)<|aq ((decide ((((s.getD (b0).toNat 0).toNat:Nat):Int)=34))||aH b0 s.length)<|cond (cond (decide ((((s.getD (b0).toNat 0).toNat:Nat):Int)=34)) true (decide ((((s.getD (b0).toNat 0).toNat:Nat):Int)=92))) ( aq (bM (eL.length+([92]:ano).length))<|OB n al s b0 (eL++([92]:ano))) ( OB n al s b0 eL)) ( Vd n eL)
def HY(n:Nat)(s:ano):Nat→ano→Int→Option (ano×Int)
 | 0=>λ_ _=>none
 |m+1=>Vf n s (HY n s m)
def OC(s:ano):Option (ano×Int):=cond (decide (64<((s.length:Nat):Int))) ( some (([]:ano),2)) ( (Vc n s).bind λr2=>cond (!r2) ( some (([]:ano),1)) ( HY n s n ([34]:ano) 0))
def adU(n:Nat):ant:=some 9
def OD(op:Int)(v3:Bool):ant:=cond v3 ( some 7) ( cond (decide (op=9)) ( some 8) ( adU n))
def Vg(op:Int)(v2:Bool):ant:=cond v2 ( some 6) ( cond (decide (op=6)) ( OD n op (decide (op=6))) ( cond (decide (op=7)) ( OD n op (decide (op=7))) ( OD n op (decide (op=8)))))
def yS(op:Int)(v1:Bool):ant:=cond v1 ( some 4) ( cond (decide (op=19)) ( some 5) ( cond (decide (op=4)) ( Vg n op (decide (op=4))) ( Vg n op (decide (op=5)))))
def OE(op:Int):ant:=cond (decide (op=17)) ( some 1) ( cond (decide (op=16)) ( some 2) ( cond (decide (op=18)) ( some 3) ( cond (decide (op=10)) ( yS n op (decide (op=10))) ( cond (decide (op=11)) ( yS n op (decide (op=11))) ( cond (decide (op=12)) ( yS n op (decide (op=12))) ( cond (decide (op=13)) ( yS n op (decide (op=13))) ( cond (decide (op=14)) ( yS n op (decide (op=14))) ( yS n op (decide (op=15))))))))))
def OF(n:Nat)(op:Int):Option ano:=cond (decide (op=17)) ( some ([111,114]:ano)) ( cond (decide (op=16)) ( some ([97,110,100]:ano)) ( cond (decide (op=10)) ( some ([61,61]:ano)) ( cond (decide (op=11)) ( some ([33,61]:ano)) ( cond (decide (op=12)) ( some ([60]:ano)) ( cond (decide (op=13)) ( some ([60,61]:ano)) ( cond (decide (op=14)) ( some ([62]:ano)) ( cond (decide (op=15)) ( some ([62,61]:ano)) ( cond (decide (op=19)) ( some ([43,43]:ano)) ( cond (decide (op=4)) ( some ([43]:ano)) ( cond (decide (op=5)) ( some ([45]:ano)) ( cond (decide (op=6)) ( some ([42]:ano)) ( cond (decide (op=7)) ( some ([47]:ano)) ( some ([37]:ano))))))))))))))
def OG(n:Nat)(op:Int):Option ano:=cond (decide (op=20)) ( some ([116,101,120,116]:ano)) ( cond (decide (op=21)) ( some ([108,101,110]:ano)) ( cond (decide (op=22)) ( some ([103,101,116,105,110,116]:ano)) ( cond (decide (op=23)) ( some ([103,101,116,115,116,114]:ano)) ( cond (decide (op=24)) ( some ([104,97,115]:ano)) ( cond (decide (op=25)) ( some ([110,111,119]:ano)) ( cond (decide (op=26)) ( some ([114,97,110,100,111,109]:ano)) ( some ([110,111,100,101]:ano))))))))
def OH(HZ:Expr→Option ano)(vZ:Expr→Int→Option ano)(e:Expr):Option ano:=(OE n e.Op).bind λr1=>cond (decide (e.Op=1)) ( (yR n e.N).bind λr3=>some r3) ( cond (decide (e.Op=2)) ( (OC n e.S).bind λbQ=>some bQ.1) ( cond (decide (e.Op=3)) ( some e.S) ( cond (decide (e.Op=18)) ( aq (aH 0 e.ao.length)<|(vZ (e.ao.getD 0 default) r1).bind λb4=>aq (bM (([110,111,116,32]:ano).length+b4.length))<|some (([110,111,116,32]:ano)++b4)) ( cond (decide (e.Op=9)) ( aq (aH 0 e.ao.length)<|(vZ (e.ao.getD 0 default) r1).bind λcK=>aq (bM (([45]:ano).length+cK.length))<|some (([45]:ano)++cK)) ( cond (cond (decide (r1=9)) (decide (((e.ao.length:Nat):Int)=0)) false) ( (OG n e.Op).bind λct=>aq (bM (ct.length+([40,41]:ano).length))<|some (ct++([40,41]:ano))) ( cond (decide (r1=9)) ( (OG n e.Op).bind λfb=>aq (bM (fb.length+([40]:ano).length))<|aq (aH 0 e.ao.length)<|(HZ (e.ao.getD 0 default)).bind λcR=>aq (bM ((fb++([40]:ano)).length+cR.length))<|aq (bM (((fb++([40]:ano))++cR).length+([41]:ano).length))<|some (((fb++([40]:ano))++cR)++([41]:ano))) ( cond (decide (r1=4)) ( aq (aH 0 e.ao.length)<|(vZ (e.ao.getD 0 default) 5).bind λr27=>aq (bM (r27.length+([32]:ano).length))<|(OF n e.Op).bind λfc=>aq (bM ((r27++([32]:ano)).length+fc.length))<|aq (bM (((r27++([32]:ano))++fc).length+([32]:ano).length))<|aq (aH 1 e.ao.length)<|(vZ (e.ao.getD 1 default) 5).bind λnT=>aq (bM ((((r27++([32]:ano))++fc)++([32]:ano)).length+nT.length))<|some ((((r27++([32]:ano))++fc)++([32]:ano))++nT)) ( aq (aH 0 e.ao.length)<|(vZ (e.ao.getD 0 default) r1).bind λoK=>aq (bM (oK.length+([32]:ano).length))<|(OF n e.Op).bind λqy=>aq (bM ((oK++([32]:ano)).length+qy.length))<|aq (bM (((oK++([32]:ano))++qy).length+([32]:ano).length))<|aq (aH 1 e.ao.length)<|(vZ (e.ao.getD 1 default) (anq (r1+1))).bind λhR=>aq (bM ((((oK++([32]:ano))++qy)++([32]:ano)).length+hR.length))<|some ((((oK++([32]:ano))++qy)++([32]:ano))++hR)))))))))
def OI(HZ:Expr→Option ano)(vZ:Expr→Int→Option ano)(e:Expr)(least:Int):Option ano:=(OE n e.Op).bind λr1=>cond (decide (r1<least)) ( (HZ e).bind λr3=>aq (bM (([40]:ano).length+r3.length))<|aq (bM ((([40]:ano)++r3).length+([41]:ano).length))<|some ((([40]:ano)++r3)++([41]:ano))) ( (HZ e).bind λbe=>some be)
def yT:Nat→(Expr→Option ano)×(Expr→Int→Option ano)
 | 0=>(λ_=>none,λ_ _=>none)
 |m+1=>(OH m ((yT m).1) ((yT m).2),OI m ((yT m).1) ((yT m).2))
def lH:Expr→Option ano:=(yT n).1
def yU:Expr→Int→Option ano:=(yT n).2
def Vh(n:Nat)(nf:(List Stmt)→Int→Option ano)(oO:Stmt→Int→Option ano)(eL:ano):Option ano:=some eL
def Vi(nf:(List Stmt)→Int→Option ano)(oO:Stmt→Int→Option ano)(l:List Stmt)(depth:Int)(al:ano→Int→Option ano)(v6:ano)(bu:Int):Option ano:=cond (decide (bu<((l.length:Nat):Int))) ( aq (aH bu l.length)<|(oO (anr l bu) depth).bind λb4=>aq (bM (v6.length+b4.length))<|al (v6++b4) (anq (bu+1))) ( Vh n nf oO v6)
def H0(n:Nat)(nf:(List Stmt)→Int→Option ano)(oO:Stmt→Int→Option ano)(l:List Stmt)(depth:Int):Nat→ano→Int→Option ano
 | 0=>λ_ _=>none
 |m+1=>Vi n nf oO l depth (H0 n nf oO l depth m)
def OJ(nf:(List Stmt)→Int→Option ano)(oO:Stmt→Int→Option ano)(l:List Stmt)(depth:Int):Option ano:=H0 n nf oO l depth n ([]:ano) 0
def H2(n:Nat)(nf:(List Stmt)→Int→Option ano)(oO:Stmt→Int→Option ano)(Vj:ano):Option ano:=aq (bM (Vj.length+([10]:ano).length))<|some (Vj++([10]:ano))
def OK(nf:(List Stmt)→Int→Option ano)(oO:Stmt→Int→Option ano)(x:Stmt)(depth:Int):Option ano:=(U_ n depth).bind λr1=>cond (decide (x.Op=1)) ( aq (bM (r1.length+([108,101,116,32]:ano).length))<|aq (bM ((r1++([108,101,116,32]:ano)).length+x.Name.length))<|aq (bM (((r1++([108,101,116,32]:ano))++x.Name).length+([32,61,32]:ano).length))<|(lH n (⟨x.A.Op,x.A.N,x.A.S,x.A.ao⟩:Expr)).bind λbe=>aq (bM ((((r1++([108,101,116,32]:ano))++x.Name)++([32,61,32]:ano)).length+be.length))<|aq (bM (((((r1++([108,101,116,32]:ano))++x.Name)++([32,61,32]:ano))++be).length+([59,10]:ano).length))<|some (((((r1++([108,101,116,32]:ano))++x.Name)++([32,61,32]:ano))++be)++([59,10]:ano))) ( cond (decide (x.Op=2)) ( aq (bM (r1.length+x.Name.length))<|aq (bM ((r1++x.Name).length+([32,61,32]:ano).length))<|(lH n (⟨x.A.Op,x.A.N,x.A.S,x.A.ao⟩:Expr)).bind λb9=>aq (bM (((r1++x.Name)++([32,61,32]:ano)).length+b9.length))<|aq (bM ((((r1++x.Name)++([32,61,32]:ano))++b9).length+([59,10]:ano).length))<|some ((((r1++x.Name)++([32,61,32]:ano))++b9)++([59,10]:ano))) ( cond (decide (x.Op=3)) ( aq (bM (r1.length+([112,117,116,32]:ano).length))<|(lH n (⟨x.A.Op,x.A.N,x.A.S,x.A.ao⟩:Expr)).bind λcL=>aq (bM ((r1++([112,117,116,32]:ano)).length+cL.length))<|aq (bM (((r1++([112,117,116,32]:ano))++cL).length+([32,61,32]:ano).length))<|(lH n (⟨x.B.Op,x.B.N,x.B.S,x.B.ao⟩:Expr)).bind λej=>aq (bM ((((r1++([112,117,116,32]:ano))++cL)++([32,61,32]:ano)).length+ej.length))<|aq (bM (((((r1++([112,117,116,32]:ano))++cL)++([32,61,32]:ano))++ej).length+([59,10]:ano).length))<|some (((((r1++([112,117,116,32]:ano))++cL)++([32,61,32]:ano))++ej)++([59,10]:ano))) ( cond (decide (x.Op=4)) ( aq (bM (r1.length+([100,101,108,101,116,101,32]:ano).length))<|(lH n (⟨x.A.Op,x.A.N,x.A.S,x.A.ao⟩:Expr)).bind λfa=>aq (bM ((r1++([100,101,108,101,116,101,32]:ano)).length+fa.length))<|aq (bM (((r1++([100,101,108,101,116,101,32]:ano))++fa).length+([59,10]:ano).length))<|some (((r1++([100,101,108,101,116,101,32]:ano))++fa)++([59,10]:ano))) ( cond (decide (x.Op=7)) ( aq (bM (r1.length+([101,109,105,116,32]:ano).length))<|(lH n (⟨x.A.Op,x.A.N,x.A.S,x.A.ao⟩:Expr)).bind λhA=>aq (bM ((r1++([101,109,105,116,32]:ano)).length+hA.length))<|aq (bM (((r1++([101,109,105,116,32]:ano))++hA).length+([59,10]:ano).length))<|some (((r1++([101,109,105,116,32]:ano))++hA)++([59,10]:ano))) ( cond (decide (x.Op=8)) ( aq (bM (r1.length+([97,98,111,114,116,32]:ano).length))<|(yR n x.Max).bind λlF=>aq (bM ((r1++([97,98,111,114,116,32]:ano)).length+lF.length))<|aq (bM (((r1++([97,98,111,114,116,32]:ano))++lF).length+([59,10]:ano).length))<|some (((r1++([97,98,111,114,116,32]:ano))++lF)++([59,10]:ano))) ( cond (decide (x.Op=6)) ( aq (bM (r1.length+([102,111,114,32]:ano).length))<|aq (bM ((r1++([102,111,114,32]:ano)).length+x.Name.length))<|aq (bM (((r1++([102,111,114,32]:ano))++x.Name).length+([32,61,32]:ano).length))<|(lH n (⟨x.A.Op,x.A.N,x.A.S,x.A.ao⟩:Expr)).bind λhR=>aq (bM ((((r1++([102,111,114,32]:ano))++x.Name)++([32,61,32]:ano)).length+hR.length))<|aq (bM (((((r1++([102,111,114,32]:ano))++x.Name)++([32,61,32]:ano))++hR).length+([32,116,111,32]:ano).length))<|(lH n (⟨x.B.Op,x.B.N,x.B.S,x.B.ao⟩:Expr)).bind λjf=>aq (bM ((((((r1++([102,111,114,32]:ano))++x.Name)++([32,61,32]:ano))++hR)++([32,116,111,32]:ano)).length+jf.length))<|aq (bM (((((((r1++([102,111,114,32]:ano))++x.Name)++([32,61,32]:ano))++hR)++([32,116,111,32]:ano))++jf).length+([32,109,97,120,32]:ano).length))<|(yR n x.Max).bind λrK=>aq (bM ((((((((r1++([102,111,114,32]:ano))++x.Name)++([32,61,32]:ano))++hR)++([32,116,111,32]:ano))++jf)++([32,109,97,120,32]:ano)).length+rK.length))<|aq (bM (((((((((r1++([102,111,114,32]:ano))++x.Name)++([32,61,32]:ano))++hR)++([32,116,111,32]:ano))++jf)++([32,109,97,120,32]:ano))++rK).length+([32,123,10]:ano).length))<|(nf x.Body (anq (depth+1))).bind λqC=>aq (bM ((((((((((r1++([102,111,114,32]:ano))++x.Name)++([32,61,32]:ano))++hR)++([32,116,111,32]:ano))++jf)++([32,109,97,120,32]:ano))++rK)++([32,123,10]:ano)).length+qC.length))<|aq (bM (((((((((((r1++([102,111,114,32]:ano))++x.Name)++([32,61,32]:ano))++hR)++([32,116,111,32]:ano))++jf)++([32,109,97,120,32]:ano))++rK)++([32,123,10]:ano))++qC).length+r1.length))<|aq (bM ((((((((((((r1++([102,111,114,32]:ano))++x.Name)++([32,61,32]:ano))++hR)++([32,116,111,32]:ano))++jf)++([32,109,97,120,32]:ano))++rK)++([32,123,10]:ano))++qC)++r1).length+([125,10]:ano).length))<|some ((((((((((((r1++([102,111,114,32]:ano))++x.Name)++([32,61,32]:ano))++hR)++([32,116,111,32]:ano))++jf)++([32,109,97,120,32]:ano))++rK)++([32,123,10]:ano))++qC)++r1)++([125,10]:ano))) ( aq (bM (r1.length+([105,102,32]:ano).length))<|(lH n (⟨x.A.Op,x.A.N,x.A.S,x.A.ao⟩:Expr)).bind λpH=>aq (bM ((r1++([105,102,32]:ano)).length+pH.length))<|aq (bM (((r1++([105,102,32]:ano))++pH).length+([32,123,10]:ano).length))<|(nf x.Body (anq (depth+1))).bind λnY=>aq (bM ((((r1++([105,102,32]:ano))++pH)++([32,123,10]:ano)).length+nY.length))<|aq (bM (((((r1++([105,102,32]:ano))++pH)++([32,123,10]:ano))++nY).length+r1.length))<|aq (bM ((((((r1++([105,102,32]:ano))++pH)++([32,123,10]:ano))++nY)++r1).length+([125]:ano).length))<|cond (decide (0<((x.bx.length:Nat):Int))) ( aq (bM (((((((r1++([105,102,32]:ano))++pH)++([32,123,10]:ano))++nY)++r1)++([125]:ano)).length+([32,101,108,115,101,32,123,10]:ano).length))<|(nf x.bx (anq (depth+1))).bind λkN=>aq (bM ((((((((r1++([105,102,32]:ano))++pH)++([32,123,10]:ano))++nY)++r1)++([125]:ano))++([32,101,108,115,101,32,123,10]:ano)).length+kN.length))<|aq (bM (((((((((r1++([105,102,32]:ano))++pH)++([32,123,10]:ano))++nY)++r1)++([125]:ano))++([32,101,108,115,101,32,123,10]:ano))++kN).length+r1.length))<|aq (bM ((((((((((r1++([105,102,32]:ano))++pH)++([32,123,10]:ano))++nY)++r1)++([125]:ano))++([32,101,108,115,101,32,123,10]:ano))++kN)++r1).length+([125]:ano).length))<|H2 n nf oO ((((((((((r1++([105,102,32]:ano))++pH)++([32,123,10]:ano))++nY)++r1)++([125]:ano))++([32,101,108,115,101,32,123,10]:ano))++kN)++r1)++([125]:ano))) ( H2 n nf oO ((((((r1++([105,102,32]:ano))++pH)++([32,123,10]:ano))++nY)++r1)++([125]:ano))))))))))
def yV:Nat→((List Stmt)→Int→Option ano)×(Stmt→Int→Option ano)
 | 0=>(λ_ _=>none,λ_ _=>none)
 |m+1=>(OJ m ((yV m).1) ((yV m).2),OK m ((yV m).1) ((yV m).2))
def tD:(List Stmt)→Int→Option ano:=(yV n).1
def CK:Stmt→Int→Option ano:=(yV n).2
def Vk(n:Nat)(ty:Int):Option ano:=cond (decide (ty=1)) ( some ([105,110,116]:ano)) ( cond (decide (ty=2)) ( some ([115,116,114]:ano)) ( some ([98,111,111,108]:ano)))
def Vl(p:aZ)(h2:ano):Option ano:=aq (bM (h2.length+([41,32,123,10]:ano).length))<|(tD n p.Body 1).bind λfp=>aq (bM ((h2++([41,32,123,10]:ano)).length+fp.length))<|aq (bM (((h2++([41,32,123,10]:ano))++fp).length+([125,10]:ano).length))<|some (((h2++([41,32,123,10]:ano))++fp)++([125,10]:ano))
def Vm(n:Nat)(al:ano→Int→Option ano)(aQ:Int)(p:aZ)(adV:ano):Option ano:=al adV (anq (aQ+1))
def OL(al:ano→Int→Option ano)(aQ:Int)(p:aZ)(cC:ano):Option ano:=aq (aH aQ p.Params.length)<|aq (bM (cC.length+((anr p.Params aQ).Name).length))<|aq (bM ((cC++((anr p.Params aQ).Name)).length+([58,32]:ano).length))<|aq (aH aQ p.Params.length)<|(Vk n ((anr p.Params aQ).fm)).bind λr24=>aq (bM (((cC++((anr p.Params aQ).Name))++([58,32]:ano)).length+r24.length))<|Vm n al aQ p (((cC++((anr p.Params aQ).Name))++([58,32]:ano))++r24)
def Vn(p:aZ)(al:ano→Int→Option ano)(de:ano)(aQ:Int):Option ano:=cond (decide (aQ<((p.Params.length:Nat):Int))) ( cond (decide (0<aQ)) ( aq (bM (de.length+([44,32]:ano).length))<|OL n al aQ p (de++([44,32]:ano))) ( OL n al aQ p de)) ( Vl n p de)
def H3(n:Nat)(p:aZ):Nat→ano→Int→Option ano
 | 0=>λ_ _=>none
 |m+1=>Vn n p (H3 n p m)
def CL(p:aZ):Option ano:=(HV n p).bind λr1=>cond (!decide (r1=0)) ( some ([]:ano)) ( aq (bM (([112,114,111,99,32]:ano).length+p.Name.length))<|aq (bM ((([112,114,111,99,32]:ano)++p.Name).length+([40]:ano).length))<|H3 n p n ((([112,114,111,99,32]:ano)++p.Name)++([40]:ano)) 0)
def Vo(n:Nat):ans:=some true
def OM(l:List bC)(al:Int→ans)(v6:Int):ans:=cond (decide (v6<((l.length:Nat):Int))) ( aq (aH v6 l.length)<|(Oj n ((anr l v6).Key)).bind λcH=>aq ((!cH)||(!(decide (0<v6))||aH v6 l.length))<|aq ((!cH)||(!(decide (0<v6))||aH (anq (v6-1)) l.length))<|cond (cond (!cH) true (cond (decide (0<v6)) ((Op.bytesLess ((anr l v6).Key) ((anr l (anq (v6-1))).Key))||(decide (((anr l v6).Key)=((anr l (anq (v6-1))).Key)))) false)) ( some false) ( al (anq (v6+1)))) ( Vo n)
def CM(n:Nat)(l:List bC):Nat→Int→ans
 | 0=>λ_=>none
 |m+1=>OM n l (CM n l m)
def ON(l:List bC):ans:=CM n l n 0
def Vp(l:List bC):ans:=(ON n l).bind λcH=>some cH
def OO(l:List bC)(al:Int→ans)(v4:Int):ans:=cond (decide (v4<((l.length:Nat):Int))) ( aq (aH v4 l.length)<|(Ol n ((anr l v4).b2)).bind λbe=>cond (!be) ( some false) ( al (anq (v4+1)))) ( Vp n l)
def CN(n:Nat)(l:List bC):Nat→Int→ans
 | 0=>λ_=>none
 |m+1=>OO n l (CN n l m)
def OP(l:List bC):ans:=CN n l n 0
def Vq(l:List bC):ans:=(OP n l).bind λbe=>some be
def OQ(l:List bC)(al:Int→ans)(v3:Int):ans:=cond (decide (v3<((l.length:Nat):Int))) ( aq (aH v3 l.length)<|cond (decide (((anr l v3).b2).Kind=0)) ( some false) ( al (anq (v3+1)))) ( Vq n l)
def CO(n:Nat)(l:List bC):Nat→Int→ans
 | 0=>λ_=>none
 |m+1=>OQ n l (CO n l m)
def OR(l:List bC):ans:=CO n l n 0
def Vr(n:Nat)(at_:Int)(cB:List Row):Option (aR×Int):=some ((⟨at_,at_,cB⟩:aR),0)
def OS(l:List bC)(at_:Int)(al:(List Row)→Int→Option (aR×Int))(bG:List Row)(v9:Int):Option (aR×Int):=cond (decide (v9<((l.length:Nat):Int))) ( aq (aH v9 l.length)<|aq (aH v9 l.length)<|aq (room (bG.length+([(⟨(anr l v9).Key,[⟨at_,⟨((anr l v9).b2).Kind,((anr l v9).b2).N,((anr l v9).b2).S⟩⟩]⟩:Row)]:List Row).length) 40)<|al (bG++([(⟨(anr l v9).Key,[⟨at_,⟨((anr l v9).b2).Kind,((anr l v9).b2).N,((anr l v9).b2).S⟩⟩]⟩:Row)]:List Row)) (anq (v9+1))) ( Vr n at_ bG)
def CP(n:Nat)(l:List bC)(at_:Int):Nat→(List Row)→Int→Option (aR×Int)
 | 0=>λ_ _=>none
 |m+1=>OS n l at_ (CP n l at_ m)
def OT(l:List bC)(at_:Int):Option (aR×Int):=(OR n l).bind λr1=>cond (cond (cond (!r1) true (decide (at_<0))) true (decide (1099511627776<at_))) ( some ((⟨0,0,[]⟩:aR),1)) ( CP n l at_ n ([]:List Row) 0)
def Vs(n:Nat)(v11:Int):ant:=some v11
def OU(n:Nat)(al:Int→Int→ant)(s:ano)(at_:Int)(v6:Int)(bG:Int):ant:=al bG (anq (v6+1))
def Vt(s:ano)(at_:Int)(al:Int→Int→ant)(v5:Int)(v6:Int):ant:=cond (decide (v6<at_)) ( aq (aH v6 s.length)<|cond (decide ((((s.getD (v6).toNat 0).toNat:Nat):Int)=10)) ( OU n al s at_ v6 (anq (v5+1))) ( OU n al s at_ v6 v5)) ( Vs n v5)
def H4(n:Nat)(s:ano)(at_:Int):Nat→Int→Int→ant
 | 0=>λ_ _=>none
 |m+1=>Vt n s at_ (H4 n s at_ m)
def OV(s:ano)(at_:Int):ant:=H4 n s at_ n 0 0
def Vu(n:Nat)(fO:Int):ant:=some fO
def Vv(n:Nat)(al:Int→ant)(s:ano)(e4:Int→ant)(cB:Int):ant:=aq (!(decide (cB<((s.length:Nat):Int)))||aH cB s.length)<|cond (cond (decide (cB<((s.length:Nat):Int))) (!decide ((((s.getD (cB).toNat 0).toNat:Nat):Int)=10)) false) ( e4 (anq (cB+1))) ( al cB)
def H5(n:Nat)(al:Int→ant)(s:ano):Nat→Int→ant
 | 0=>λ_=>none
 |m+1=>Vv n al s (H5 n al s m)
def Vw(s:ano)(al:Int→ant)(v11:Int):ant:=cond (decide (v11<((s.length:Nat):Int))) ( aq (aH v11 s.length)<|cond (decide ((((s.getD (v11).toNat 0).toNat:Nat):Int)=35)) ( H5 n al s n v11) ( aq (aH v11 s.length)<|aq ((decide ((((s.getD (v11).toNat 0).toNat:Nat):Int)=32))||aH v11 s.length)<|aq ((cond (decide ((((s.getD (v11).toNat 0).toNat:Nat):Int)=32)) true (decide ((((s.getD (v11).toNat 0).toNat:Nat):Int)=9)))||aH v11 s.length)<|cond (cond (cond (decide ((((s.getD (v11).toNat 0).toNat:Nat):Int)=32)) true (decide ((((s.getD (v11).toNat 0).toNat:Nat):Int)=9))) true (decide ((((s.getD (v11).toNat 0).toNat:Nat):Int)=10))) ( al (anq (v11+1))) ( some v11))) ( Vu n v11)
def H6(n:Nat)(s:ano):Nat→Int→ant
 | 0=>λ_=>none
 |m+1=>Vw n s (H6 n s m)
def H7(s:ano)(at_:Int):ant:=H6 n s n at_
def Vx(n:Nat):Option (List ano):=some ([([61,61]:ano),([33,61]:ano),([60,61]:ano),([62,61]:ano),([43,43]:ano),([40]:ano),([41]:ano),([123]:ano),([125]:ano),([44]:ano),([59]:ano),([58]:ano),([61]:ano),([60]:ano),([62]:ano),([43]:ano),([45]:ano),([42]:ano),([47]:ano),([37]:ano)]:List ano)
def Vy(n:Nat)(s:ano):ans:=aq (!(decide (0<((s.length:Nat):Int)))||aH 0 s.length)<|some (cond (decide (0<((s.length:Nat):Int))) (cond (!decide ((((s.getD 0 0).toNat:Nat):Int)=48)) true (decide (((s.length:Nat):Int)=1))) false)
def Vz(s:ano)(al:Int→ans)(v4:Int):ans:=cond (decide (v4<((s.length:Nat):Int))) ( aq (aH v4 s.length)<|aq ((decide ((((s.getD (v4).toNat 0).toNat:Nat):Int)<48))||aH v4 s.length)<|cond (cond (decide ((((s.getD (v4).toNat 0).toNat:Nat):Int)<48)) true (decide (57<(((s.getD (v4).toNat 0).toNat:Nat):Int)))) ( some false) ( al (anq (v4+1)))) ( Vy n s)
def CQ(n:Nat)(s:ano):Nat→Int→ans
 | 0=>λ_=>none
 |m+1=>Vz n s (CQ n s m)
def VA(s:ano):ans:=CQ n s n 0
def VB(n:Nat)(s:ano)(cB:Int):Option (Int×Int):=cond (cond (decide (0<((s.length:Nat):Int))) (decide ((((s.getD 0 0).toNat:Nat):Int)=45)) false) ( some ((anq (IntKind.u64.wrap (0-cB))),0)) ( some ((anq cB),0))
def VC(s:ano)(v3:ano)(v4:Int)(e4:Int→Int→Option (Int×Int))(v10:Int)(v11:Int):Option (Int×Int):=cond (decide (v11<((v3.length:Nat):Int))) ( aq (aH v11 v3.length)<|cond (decide ((IntKind.u64.wrap (Int.tdiv (IntKind.u64.wrap (v4-(IntKind.u64.wrap (IntKind.u8.wrap ((((v3.getD (v11).toNat 0).toNat:Nat):Int)-48))))) 10))<v10)) ( some (0,3)) ( e4 (IntKind.u64.wrap ((IntKind.u64.wrap (v10*10))+(IntKind.u64.wrap (IntKind.u8.wrap ((((v3.getD (v11).toNat 0).toNat:Nat):Int)-48))))) (anq (v11+1)))) ( VB n s v10)
def H8(n:Nat)(s:ano)(v3:ano)(v4:Int):Nat→Int→Int→Option (Int×Int)
 | 0=>λ_ _=>none
 |m+1=>VC n s v3 v4 (H8 n s v3 v4 m)
def OW(s:ano)(v3:ano)(v4:Int):Option (Int×Int):=(VA n v3).bind λbQ=>cond (cond (!bQ) true (cond (cond (decide (0<((s.length:Nat):Int))) (decide ((((s.getD 0 0).toNat:Nat):Int)=45)) false) (decide (v3=([48]:ano))) false)) ( some (0,5)) ( H8 n s v3 v4 n 0 0)
def OX(s:ano):Option (Int×Int):=aq (!(decide (0<((s.length:Nat):Int)))||aH 0 s.length)<|cond (cond (decide (0<((s.length:Nat):Int))) (decide ((((s.getD 0 0).toNat:Nat):Int)=45)) false) ( aq (gG 1 s.length)<|OW n s (s.drop 1) 9223372036854775808) ( OW n s s 9223372036854775807)
def OY(w:ano):Option (Token×Int):=aq (aH 0 w.length)<|(CF n (((w.getD 0 0).toNat:Nat):Int)).bind λr2=>cond r2 ( (HM n w).bind λbc=>cond bc ( some ((⟨2,w,0,0⟩:Token),0)) ( (vV n w).bind λbe=>cond be ( some ((⟨1,w,0,0⟩:Token),0)) ( some ((⟨0,[],0,0⟩:Token),2)))) ( (OX n w).bind λcH=>cond (!decide (cH.2=0)) ( some ((⟨0,[],0,0⟩:Token),cH.2)) ( some ((⟨3,[],cH.1,0⟩:Token),0)))
def VD(n:Nat)(cC:Int):Option (ano×Int×Int):=some (([]:ano),cC,6)
def OZ(n:Nat)(al:Int→ano→Option (ano×Int×Int))(s:ano)(v10:ano)(b0:Int):Option (ano×Int×Int):=cond (decide (((v10.length:Nat):Int)=64)) ( some (([]:ano),b0,2)) ( aq (lm b0 (anq (b0+1)) s.length)<|aq (bM (v10.length+((s.take ((anq (b0+1))).toNat).drop (b0).toNat).length))<|al (anq (b0+1)) (v10++((s.take ((anq (b0+1))).toNat).drop (b0).toNat)))
def VE(s:ano)(al:Int→ano→Option (ano×Int×Int))(v9:Int)(v10:ano):Option (ano×Int×Int):=cond (decide (v9<((s.length:Nat):Int))) ( aq (aH v9 s.length)<|cond (decide ((((s.getD (v9).toNat 0).toNat:Nat):Int)=34)) ( some (v10,(anq (v9+1)),0)) ( cond (decide ((((s.getD (v9).toNat 0).toNat:Nat):Int)=92)) ( cond (decide ((anq (v9+1))=((s.length:Nat):Int))) ( some (([]:ano),(anq (v9+1)),6)) ( aq (aH (anq (v9+1)) s.length)<|aq (!(!decide ((((s.getD ((anq (v9+1))).toNat 0).toNat:Nat):Int)=34))||aH (anq (v9+1)) s.length)<|cond (cond (!decide ((((s.getD ((anq (v9+1))).toNat 0).toNat:Nat):Int)=34)) (!decide ((((s.getD ((anq (v9+1))).toNat 0).toNat:Nat):Int)=92)) false) ( some (([]:ano),(anq (v9+1)),5)) ( OZ n al s v10 (anq (v9+1))))) ( cond (cond (decide ((((s.getD (v9).toNat 0).toNat:Nat):Int)<32)) true (decide (126<(((s.getD (v9).toNat 0).toNat:Nat):Int)))) ( some (([]:ano),v9,5)) ( OZ n al s v10 v9)))) ( VD n v9)
def H9(n:Nat)(s:ano):Nat→Int→ano→Option (ano×Int×Int)
 | 0=>λ_ _=>none
 |m+1=>VE n s (H9 n s m)
def VF(s:ano)(at_:Int):Option (ano×Int×Int):=H9 n s n (anq (at_+1)) ([]:ano)
def VG(n:Nat)(at_:Int):Option (Token×Int×Int):=some ((⟨0,[],0,0⟩:Token),at_,5)
def VH(s:ano)(at_:Int)(c_:(List ano))(al:Int→Option (Token×Int×Int))(ck:Int):Option (Token×Int×Int):=cond (decide (ck<((c_.length:Nat):Int))) ( aq (aH ck c_.length)<|aq (!(decide ((anq (at_+(((anr c_ ck).length:Nat):Int)))≤((s.length:Nat):Int)))||aH ck c_.length)<|aq (!(decide ((anq (at_+(((anr c_ ck).length:Nat):Int)))≤((s.length:Nat):Int)))||lm at_ (anq (at_+(((anr c_ ck).length:Nat):Int))) s.length)<|aq (!(decide ((anq (at_+(((anr c_ ck).length:Nat):Int)))≤((s.length:Nat):Int)))||aH ck c_.length)<|cond (cond (decide ((anq (at_+(((anr c_ ck).length:Nat):Int)))≤((s.length:Nat):Int))) (decide (((s.take ((anq (at_+(((anr c_ ck).length:Nat):Int)))).toNat).drop (at_).toNat)=(anr c_ ck))) false) ( aq (aH ck c_.length)<|aq (aH ck c_.length)<|some ((⟨5,(anr c_ ck),0,0⟩:Token),(anq (at_+(((anr c_ ck).length:Nat):Int))),0)) ( al (anq (ck+1)))) ( VG n at_)
def CR(n:Nat)(s:ano)(at_:Int)(c_:(List ano)):Nat→Int→Option (Token×Int×Int)
 | 0=>λ_=>none
 |m+1=>VH n s at_ c_ (CR n s at_ c_ m)
def O0(s:ano)(at_:Int):Option (Token×Int×Int):=aq (aH at_ s.length)<|cond (decide ((((s.getD (at_).toNat 0).toNat:Nat):Int)=34)) ( (VF n s at_).bind λr3=>some ((⟨4,r3.1,0,0⟩:Token),r3.2.1,r3.2.2)) ( aq (aH at_ s.length)<|(HN n (((s.getD (at_).toNat 0).toNat:Nat):Int)).bind λbQ=>cond bQ ( (Om n s at_).bind λbD=>aq (lm at_ bD s.length)<|(OY n ((s.take (bD).toNat).drop (at_).toNat)).bind λb4=>some (b4.1,bD,b4.2)) ( (Vx n).bind λc_=>CR n s at_ c_ n 0))
def VI(n:Nat)(aQ:List Token):Option ((List Token)×Int×Int):=some (aQ,0,0)
def O1(src:ano)(al:(List Token)→Int→Option ((List Token)×Int×Int))(v9:List Token)(v10:Int):Option ((List Token)×Int×Int):=cond (decide (v10<((src.length:Nat):Int))) ( (OV n src v10).bind λbz=>(O0 n src v10).bind λb9=>cond (!decide (b9.2.2=0)) ( some (([]:List Token),(anq (bz+1)),b9.2.2)) ( aq (room (v9.length+([(⟨b9.1.Kind,b9.1.Text,b9.1.N,(anq (bz+1))⟩:Token)]:List Token).length) 40)<|(H7 n src b9.2.1).bind λei=>al (v9++([(⟨b9.1.Kind,b9.1.Text,b9.1.N,(anq (bz+1))⟩:Token)]:List Token)) ei)) ( VI n v9)
def CS(n:Nat)(src:ano):Nat→(List Token)→Int→Option ((List Token)×Int×Int)
 | 0=>λ_ _=>none
 |m+1=>O1 n src (CS n src m)
def O2(src:ano):Option ((List Token)×Int×Int):=cond (decide (16384<((src.length:Nat):Int))) ( some (([]:List Token),0,2)) ( (H7 n src 0).bind λr2=>CS n src n ([]:List Token) r2)
def O3(n:Nat)(l:List Token)(at_:Int)(f:Int):ant:=cond (cond (decide (f=0)) (decide (at_<((l.length:Nat):Int))) false) ( some 5) ( some f)
def O4(n:Nat)(l:List Token)(at_:Int):ant:=cond (decide (((l.length:Nat):Int)=0)) ( some 1) ( aq (aH (cond (decide ((anq (((l.length:Nat):Int)-1))<at_)) (anq (((l.length:Nat):Int)-1)) at_) l.length)<|some ((anr l (cond (decide ((anq (((l.length:Nat):Int)-1))<at_)) (anq (((l.length:Nat):Int)-1)) at_)).lX))
def kl(n:Nat)(l:List Token)(at_:Int)(text:ano):ans:=aq (!(decide (at_<((l.length:Nat):Int)))||aH at_ l.length)<|aq (!(decide (at_<((l.length:Nat):Int)))||((decide ((anr l at_).Kind=2))||aH at_ l.length))<|aq (!(cond (decide (at_<((l.length:Nat):Int))) (cond (decide ((anr l at_).Kind=2)) true (decide ((anr l at_).Kind=5))) false)||aH at_ l.length)<|some (cond (cond (decide (at_<((l.length:Nat):Int))) (cond (decide ((anr l at_).Kind=2)) true (decide ((anr l at_).Kind=5))) false) (decide (((anr l at_).Text)=text)) false)
def v7(n:Nat)(l:List Token)(at_:Int):ant:=cond (decide (((l.length:Nat):Int)≤at_)) ( some 6) ( some 5)
def O5(n:Nat)(eL:Int):Option (Int×Int):=some (eL,0)
def O6(l:List Token)(words:List ano)(al:Int→Int→Option (Int×Int))(v6:Int)(bu:Int):Option (Int×Int):=cond (decide (bu<((words.length:Nat):Int))) ( aq (aH bu words.length)<|(kl n l v6 (words.getD (bu).toNat default)).bind λb4=>cond (!b4) ( (v7 n l v6).bind λc_=>some (v6,c_)) ( al (anq (v6+1)) (anq (bu+1)))) ( O5 n v6)
def H'(n:Nat)(l:List Token)(words:List ano):Nat→Int→Int→Option (Int×Int)
 | 0=>λ_ _=>none
 |m+1=>O6 n l words (H' n l words m)
def jR(l:List Token)(at_:Int)(words:List ano):Option (Int×Int):=H' n l words n at_ 0
def VJ(n:Nat):ant:=some 0
def VK(l:List Token)(at_:Int)(level:Int)(al:Int→ant)(v6:Int):ant:=cond (decide (v6<((([([111,114]:ano),([97,110,100]:ano),([61,61]:ano),([33,61]:ano),([60]:ano),([60,61]:ano),([62]:ano),([62,61]:ano),([43,43]:ano),([43]:ano),([45]:ano),([42]:ano),([47]:ano),([37]:ano)]:List ano).length:Nat):Int))) ( aq (aH v6 ([1,2,4,4,4,4,4,4,5,6,6,7,7,7]:List Int).length)<|aq (!(decide ((([1,2,4,4,4,4,4,4,5,6,6,7,7,7]:List Int).getD (v6).toNat default)=level))||aH v6 ([([111,114]:ano),([97,110,100]:ano),([61,61]:ano),([33,61]:ano),([60]:ano),([60,61]:ano),([62]:ano),([62,61]:ano),([43,43]:ano),([43]:ano),([45]:ano),([42]:ano),([47]:ano),([37]:ano)]:List ano).length)<|Option.bind (cond (decide ((([1,2,4,4,4,4,4,4,5,6,6,7,7,7]:List Int).getD (v6).toNat default)=level)) (kl n l at_ (([([111,114]:ano),([97,110,100]:ano),([61,61]:ano),([33,61]:ano),([60]:ano),([60,61]:ano),([62]:ano),([62,61]:ano),([43,43]:ano),([43]:ano),([45]:ano),([42]:ano),([47]:ano),([37]:ano)]:List ano).getD (v6).toNat default)) (some default)) λb4=>cond (cond (decide ((([1,2,4,4,4,4,4,4,5,6,6,7,7,7]:List Int).getD (v6).toNat default)=level)) b4 false) ( aq (aH v6 ([17,16,10,11,12,13,14,15,19,4,5,6,7,8]:List Int).length)<|some (([17,16,10,11,12,13,14,15,19,4,5,6,7,8]:List Int).getD (v6).toNat default)) ( al (anq (v6+1)))) ( VJ n)
def H_(n:Nat)(l:List Token)(at_:Int)(level:Int):Nat→Int→ant
 | 0=>λ_=>none
 |m+1=>VK n l at_ level (H_ n l at_ level m)
def VL(l:List Token)(at_:Int)(level:Int):ant:=H_ n l at_ level n 0
def O7(l:List Token)(at_:Int)(level:Int):ant:=Option.bind (cond (decide (level=3)) (kl n l at_ ([110,111,116]:ano)) (some default)) λr1=>cond (cond (decide (level=3)) r1 false) ( some 18) ( Option.bind (cond (decide (level=8)) (kl n l at_ ([45]:ano)) (some default)) λr3=>cond (cond (decide (level=8)) r3 false) ( some 9) ( some 0))
def VM(n:Nat):ant:=some 0
def VN(l:List Token)(at_:Int)(al:Int→ant)(v5:Int):ant:=cond (decide (v5<((([([116,101,120,116]:ano),([108,101,110]:ano),([103,101,116,105,110,116]:ano),([103,101,116,115,116,114]:ano),([104,97,115]:ano),([110,111,119]:ano),([114,97,110,100,111,109]:ano),([110,111,100,101]:ano)]:List ano).length:Nat):Int))) ( aq (aH v5 ([([116,101,120,116]:ano),([108,101,110]:ano),([103,101,116,105,110,116]:ano),([103,101,116,115,116,114]:ano),([104,97,115]:ano),([110,111,119]:ano),([114,97,110,100,111,109]:ano),([110,111,100,101]:ano)]:List ano).length)<|(kl n l at_ (([([116,101,120,116]:ano),([108,101,110]:ano),([103,101,116,105,110,116]:ano),([103,101,116,115,116,114]:ano),([104,97,115]:ano),([110,111,119]:ano),([114,97,110,100,111,109]:ano),([110,111,100,101]:ano)]:List ano).getD (v5).toNat default)).bind λbD=>cond bD ( aq (aH v5 ([20,21,22,23,24,25,26,27]:List Int).length)<|some (([20,21,22,23,24,25,26,27]:List Int).getD (v5).toNat default)) ( al (anq (v5+1)))) ( VM n)
def Ia(n:Nat)(l:List Token)(at_:Int):Nat→Int→ant
 | 0=>λ_=>none
 |m+1=>VN n l at_ (Ia n l at_ m)
def VO(l:List Token)(at_:Int):ant:=Ia n l at_ n 0
def yW(n:Nat)(l1:(List Token)→Int→Int→Int→Option (Expr×Int×Int))(nZ:(List Token)→Int→Int→Option (Expr×Int×Int))(ng:(List Token)→Int→Int→Option (Expr×Int×Int))(v30:Int)(v31:Int):Option (Expr×Int×Int):=some ((⟨0,0,[],[]⟩:Expr),v30,v31)
def tE(l1:(List Token)→Int→Int→Int→Option (Expr×Int×Int))(nZ:(List Token)→Int→Int→Option (Expr×Int×Int))(ng:(List Token)→Int→Int→Option (Expr×Int×Int))(l:List Token)(level:Int)(dZ:Int)(al:Int→Int→ano→(List Expr)→Int→Int→Option (Expr×Int×Int))(de:Int)(aQ:Int)(ck:ano)(cC:List Expr)(v20:Int)(v21:Int):Option (Expr×Int×Int):=cond (decide (v21=0)) ( (VL n l v20 level).bind λcR=>cond (decide (cR=0)) ( some ((⟨de,aQ,ck,cC⟩:Expr),v20,0)) ( (l1 l (anq (v20+1)) (anq (level+1)) dZ).bind λdU=>cond (cond (decide (dU.2.2=0)) (decide (level=4)) false) ( some ((⟨cR,0,[],[⟨de,aQ,ck,cC⟩,dU.1]⟩:Expr),dU.2.1,0)) ( al cR 0 ([]:ano) ([(⟨de,aQ,ck,cC⟩:Expr),dU.1]:List Expr) dU.2.1 dU.2.2))) ( yW n l1 nZ ng v20 v21)
def qG(n:Nat)(l1:(List Token)→Int→Int→Int→Option (Expr×Int×Int))(nZ:(List Token)→Int→Int→Option (Expr×Int×Int))(ng:(List Token)→Int→Int→Option (Expr×Int×Int))(l:List Token)(level:Int)(dZ:Int):Nat→Int→Int→ano→(List Expr)→Int→Int→Option (Expr×Int×Int)
 | 0=>λ_ _ _ _ _ _=>none
 |m+1=>tE n l1 nZ ng l level dZ (qG n l1 nZ ng l level dZ m)
def Ib(l1:(List Token)→Int→Int→Int→Option (Expr×Int×Int))(nZ:(List Token)→Int→Int→Option (Expr×Int×Int))(ng:(List Token)→Int→Int→Option (Expr×Int×Int))(l:List Token)(at_:Int)(level:Int)(dZ:Int):Option (Expr×Int×Int):=cond (decide (level=9)) ( (nZ l at_ dZ).bind λr2=>some (r2.1,r2.2.1,r2.2.2)) ( (O7 n l at_ level).bind λr3=>cond (!decide (r3=0)) ( cond (decide (dZ=24)) ( some ((⟨0,0,[],[]⟩:Expr),at_,2)) ( (l1 l (anq (at_+1)) level (anq (dZ+1))).bind λbe=>some ((⟨r3,0,[],[be.1]⟩:Expr),be.2.1,be.2.2))) ( (l1 l at_ (anq (level+1)) dZ).bind λbD=>qG n l1 nZ ng l level dZ n bD.1.Op bD.1.N bD.1.S bD.1.ao bD.2.1 bD.2.2))
def Ic(l1:(List Token)→Int→Int→Int→Option (Expr×Int×Int))(nZ:(List Token)→Int→Int→Option (Expr×Int×Int))(ng:(List Token)→Int→Int→Option (Expr×Int×Int))(l:List Token)(at_:Int)(dZ:Int):Option (Expr×Int×Int):=(VO n l at_).bind λbQ=>cond (decide (25≤bQ)) ( (jR n l (anq (at_+1)) ([([40]:ano),([41]:ano)]:List ano)).bind λbD=>some ((⟨bQ,0,[],[]⟩:Expr),bD.1,bD.2)) ( Option.bind (cond (decide (bQ=0)) (kl n l at_ ([40]:ano)) (some default)) λcH=>cond (cond (decide (bQ=0)) (!cH) false) ( (v7 n l at_).bind λc_=>some ((⟨0,0,[],[]⟩:Expr),at_,c_)) ( cond (decide (dZ=24)) ( some ((⟨0,0,[],[]⟩:Expr),at_,2)) ( cond (decide (bQ=0)) ( (ng l at_ (anq (dZ+1))).bind λcK=>some (cK.1,cK.2.1,cK.2.2)) ( (ng l (anq (at_+1)) (anq (dZ+1))).bind λei=>some ((⟨bQ,0,[],[ei.1]⟩:Expr),ei.2.1,ei.2.2)))))
def O8(l1:(List Token)→Int→Int→Int→Option (Expr×Int×Int))(nZ:(List Token)→Int→Int→Option (Expr×Int×Int))(ng:(List Token)→Int→Int→Option (Expr×Int×Int))(l:List Token)(at_:Int)(dZ:Int):Option (Expr×Int×Int):=cond (decide (at_<((l.length:Nat):Int))) ( aq (aH at_ l.length)<|cond (decide ((anr l at_).Kind=3)) ( aq (aH at_ l.length)<|some ((⟨1,(anr l at_).N,[],[]⟩:Expr),(anq (at_+1)),0)) ( cond (decide ((anr l at_).Kind=4)) ( aq (aH at_ l.length)<|some ((⟨2,0,(anr l at_).Text,[]⟩:Expr),(anq (at_+1)),0)) ( cond (decide ((anr l at_).Kind=1)) ( aq (aH at_ l.length)<|some ((⟨3,0,(anr l at_).Text,[]⟩:Expr),(anq (at_+1)),0)) ( Ic n l1 nZ ng l at_ dZ)))) ( Ic n l1 nZ ng l at_ dZ)
def Ie(l1:(List Token)→Int→Int→Int→Option (Expr×Int×Int))(nZ:(List Token)→Int→Int→Option (Expr×Int×Int))(ng:(List Token)→Int→Int→Option (Expr×Int×Int))(l:List Token)(at_:Int)(dZ:Int):Option (Expr×Int×Int):=(jR n l at_ ([([40]:ano)]:List ano)).bind λr1=>cond (!decide (r1.2=0)) ( some ((⟨0,0,[],[]⟩:Expr),r1.1,r1.2)) ( (l1 l r1.1 1 dZ).bind λr3=>cond (!decide (r3.2.2=0)) ( some ((⟨0,0,[],[]⟩:Expr),r3.2.1,r3.2.2)) ( (jR n l r3.2.1 ([([41]:ano)]:List ano)).bind λbQ=>some (r3.1,bQ.1,bQ.2)))
def oP:Nat→((List Token)→Int→Int→Int→Option (Expr×Int×Int))×((List Token)→Int→Int→Option (Expr×Int×Int))×((List Token)→Int→Int→Option (Expr×Int×Int))
 | 0=>(λ_ _ _ _=>none,λ_ _ _=>none,λ_ _ _=>none)
 |m+1=>(Ib m ((oP m).1) ((oP m).2.1) ((oP m).2.2),O8 m ((oP m).1) ((oP m).2.1) ((oP m).2.2),Ie m ((oP m).1) ((oP m).2.1) ((oP m).2.2))
def oQ:(List Token)→Int→Int→Int→Option (Expr×Int×Int):=(oP n).1
def tF:(List Token)→Int→Int→Option (Expr×Int×Int):=(oP n).2.1
def v8:(List Token)→Int→Int→Option (Expr×Int×Int):=(oP n).2.2
def VP(n:Nat):ant:=some 0
def VQ(l:List Token)(at_:Int)(al:Int→ant)(v5:Int):ant:=cond (decide (v5<((([([108,101,116]:ano),([112,117,116]:ano),([100,101,108,101,116,101]:ano),([105,102]:ano),([102,111,114]:ano),([101,109,105,116]:ano),([97,98,111,114,116]:ano)]:List ano).length:Nat):Int))) ( aq (aH v5 ([([108,101,116]:ano),([112,117,116]:ano),([100,101,108,101,116,101]:ano),([105,102]:ano),([102,111,114]:ano),([101,109,105,116]:ano),([97,98,111,114,116]:ano)]:List ano).length)<|(kl n l at_ (([([108,101,116]:ano),([112,117,116]:ano),([100,101,108,101,116,101]:ano),([105,102]:ano),([102,111,114]:ano),([101,109,105,116]:ano),([97,98,111,114,116]:ano)]:List ano).getD (v5).toNat default)).bind λbD=>cond bD ( aq (aH v5 ([1,3,4,5,6,7,8]:List Int).length)<|some (([1,3,4,5,6,7,8]:List Int).getD (v5).toNat default)) ( al (anq (v5+1)))) ( VP n)
def If(n:Nat)(l:List Token)(at_:Int):Nat→Int→ant
 | 0=>λ_=>none
 |m+1=>VQ n l at_ (If n l at_ m)
def VR(l:List Token)(at_:Int):ant:=If n l at_ n 0
def r'(l:List Token)(at_:Int)(kind:Int):Option (Token×Int×Int):=aq ((decide (((l.length:Nat):Int)≤at_))||aH at_ l.length)<|cond (cond (decide (((l.length:Nat):Int)≤at_)) true (!decide ((anr l at_).Kind=kind))) ( (v7 n l at_).bind λr3=>some ((⟨0,[],0,0⟩:Token),at_,r3)) ( aq (aH at_ l.length)<|some ((anr l at_),(anq (at_+1)),0))
def VS(n:Nat)(hT:(List Token)→Int→Int→Option ((List Stmt)×Int×Int))(ik:(List Token)→Int→Int→Option (Stmt×Int×Int))(h4:(List Token)→Int→Stmt→Int→Option (Stmt×Int×Int))(il:(List Token)→Int→Stmt→Int→Option (Stmt×Int×Int))(de:Int)(aQ:List Stmt):Option ((List Stmt)×Int×Int):=some (aQ,(anq (de+1)),0)
def VT(hT:(List Token)→Int→Int→Option ((List Stmt)×Int×Int))(ik:(List Token)→Int→Int→Option (Stmt×Int×Int))(h4:(List Token)→Int→Stmt→Int→Option (Stmt×Int×Int))(il:(List Token)→Int→Stmt→Int→Option (Stmt×Int×Int))(l:List Token)(depth:Int)(al:Int→(List Stmt)→Option ((List Stmt)×Int×Int))(v9:Int)(v10:List Stmt):Option ((List Stmt)×Int×Int):=(kl n l v9 ([125]:ano)).bind λbz=>cond (!bz) ( (ik l v9 depth).bind λb9=>cond (!decide (b9.2.2=0)) ( some (([]:List Stmt),b9.2.1,b9.2.2)) ( aq (room (v10.length+([(⟨b9.1.Op,b9.1.Name,b9.1.Max,⟨b9.1.A.Op,b9.1.A.N,b9.1.A.S,b9.1.A.ao⟩,⟨b9.1.B.Op,b9.1.B.N,b9.1.B.S,b9.1.B.ao⟩,b9.1.Body,b9.1.bx⟩:Stmt)]:List Stmt).length) 192)<|al b9.2.1 (v10++([(⟨b9.1.Op,b9.1.Name,b9.1.Max,⟨b9.1.A.Op,b9.1.A.N,b9.1.A.S,b9.1.A.ao⟩,⟨b9.1.B.Op,b9.1.B.N,b9.1.B.S,b9.1.B.ao⟩,b9.1.Body,b9.1.bx⟩:Stmt)]:List Stmt)))) ( VS n hT ik h4 il v9 v10)
def Ig(n:Nat)(hT:(List Token)→Int→Int→Option ((List Stmt)×Int×Int))(ik:(List Token)→Int→Int→Option (Stmt×Int×Int))(h4:(List Token)→Int→Stmt→Int→Option (Stmt×Int×Int))(il:(List Token)→Int→Stmt→Int→Option (Stmt×Int×Int))(l:List Token)(depth:Int):Nat→Int→(List Stmt)→Option ((List Stmt)×Int×Int)
 | 0=>λ_ _=>none
 |m+1=>VT n hT ik h4 il l depth (Ig n hT ik h4 il l depth m)
def O9(hT:(List Token)→Int→Int→Option ((List Stmt)×Int×Int))(ik:(List Token)→Int→Int→Option (Stmt×Int×Int))(h4:(List Token)→Int→Stmt→Int→Option (Stmt×Int×Int))(il:(List Token)→Int→Stmt→Int→Option (Stmt×Int×Int))(l:List Token)(at_:Int)(depth:Int):Option ((List Stmt)×Int×Int):=(jR n l at_ ([([123]:ano)]:List ano)).bind λr1=>cond (!decide (r1.2=0)) ( some (([]:List Stmt),r1.1,r1.2)) ( cond (decide (12<depth)) ( some (([]:List Stmt),(anq (r1.1-1)),2)) ( Ig n hT ik h4 il l depth n r1.1 ([]:List Stmt)))
def v'(n:Nat)(hT:(List Token)→Int→Int→Option ((List Stmt)×Int×Int))(ik:(List Token)→Int→Int→Option (Stmt×Int×Int))(h4:(List Token)→Int→Stmt→Int→Option (Stmt×Int×Int))(il:(List Token)→Int→Stmt→Int→Option (Stmt×Int×Int))(l:List Token)(depth:Int)(v4:Int)(bG:ano)(b9:Expr×Int×Int)(aQ:List Expr)(ck:Int)(cC:Int)(v20:ano)(v21:Int):Option (Stmt×Int×Int):=(il l v21 (⟨v4,bG,0,b9.1,⟨ck,cC,v20,aQ⟩,[],[]⟩:Stmt) depth).bind λcR=>some ((⟨cR.1.Op,cR.1.Name,cR.1.Max,⟨cR.1.A.Op,cR.1.A.N,cR.1.A.S,cR.1.A.ao⟩,⟨cR.1.B.Op,cR.1.B.N,cR.1.B.S,cR.1.B.ao⟩,cR.1.Body,cR.1.bx⟩:Stmt),cR.2.1,cR.2.2)
def Ih(hT:(List Token)→Int→Int→Option ((List Stmt)×Int×Int))(ik:(List Token)→Int→Int→Option (Stmt×Int×Int))(h4:(List Token)→Int→Stmt→Int→Option (Stmt×Int×Int))(il:(List Token)→Int→Stmt→Int→Option (Stmt×Int×Int))(l:List Token)(b9:Expr×Int×Int)(depth:Int)(v4:Int)(bG:ano)(b0:ano):Option (Stmt×Int×Int):=(jR n l b9.2.1 ([b0]:List ano)).bind λda=>cond (!decide (da.2=0)) ( some ((⟨v4,bG,0,b9.1,⟨0,0,[],[]⟩,[],[]⟩:Stmt),da.1,da.2)) ( (oQ n l da.1 1 0).bind λct=>cond (!decide (ct.2.2=0)) ( some ((⟨v4,bG,0,b9.1,ct.1,[],[]⟩:Stmt),ct.2.1,ct.2.2)) ( v' n hT ik h4 il l depth v4 bG b9 ct.1.ao ct.1.Op ct.1.N ct.1.S ct.2.1))
def nh(hT:(List Token)→Int→Int→Option ((List Stmt)×Int×Int))(ik:(List Token)→Int→Int→Option (Stmt×Int×Int))(h4:(List Token)→Int→Stmt→Int→Option (Stmt×Int×Int))(il:(List Token)→Int→Stmt→Int→Option (Stmt×Int×Int))(l:List Token)(depth:Int)(v4:Int)(bG:ano)(v9:Int):Option (Stmt×Int×Int):=cond (decide (v4=8)) ( (h4 l v9 (⟨v4,bG,0,⟨0,0,[],[]⟩,⟨0,0,[],[]⟩,[],[]⟩:Stmt) depth).bind λbz=>some ((⟨bz.1.Op,bz.1.Name,bz.1.Max,⟨bz.1.A.Op,bz.1.A.N,bz.1.A.S,bz.1.A.ao⟩,⟨bz.1.B.Op,bz.1.B.N,bz.1.B.S,bz.1.B.ao⟩,bz.1.Body,bz.1.bx⟩:Stmt),bz.2.1,bz.2.2)) ( (oQ n l v9 1 0).bind λb9=>cond (!decide (b9.2.2=0)) ( some ((⟨v4,bG,0,b9.1,⟨0,0,[],[]⟩,[],[]⟩:Stmt),b9.2.1,b9.2.2)) ( cond (cond (decide (v4=3)) true (decide (v4=6))) ( cond (decide (v4=6)) ( Ih n hT ik h4 il l b9 depth v4 bG ([116,111]:ano)) ( Ih n hT ik h4 il l b9 depth v4 bG ([61]:ano))) ( v' n hT ik h4 il l depth v4 bG b9 ([]:List Expr) 0 0 ([]:ano) b9.2.1)))
def qH(hT:(List Token)→Int→Int→Option ((List Stmt)×Int×Int))(ik:(List Token)→Int→Int→Option (Stmt×Int×Int))(h4:(List Token)→Int→Stmt→Int→Option (Stmt×Int×Int))(il:(List Token)→Int→Stmt→Int→Option (Stmt×Int×Int))(l:List Token)(depth:Int)(v4:Int)(v5:Int):Option (Stmt×Int×Int):=cond (cond (cond (decide (v4=1)) true (decide (v4=2))) true (decide (v4=6))) ( (r' n l (anq (v5+1)) 1).bind λbe=>cond (!decide (be.2.2=0)) ( some ((⟨v4,[],0,⟨0,0,[],[]⟩,⟨0,0,[],[]⟩,[],[]⟩:Stmt),be.2.1,be.2.2)) ( (jR n l be.2.1 ([([61]:ano)]:List ano)).bind λbD=>cond (!decide (bD.2=0)) ( some ((⟨v4,be.1.Text,0,⟨0,0,[],[]⟩,⟨0,0,[],[]⟩,[],[]⟩:Stmt),bD.1,bD.2)) ( nh n hT ik h4 il l depth v4 be.1.Text bD.1))) ( nh n hT ik h4 il l depth v4 ([]:ano) (anq (v5+1)))
def O'(hT:(List Token)→Int→Int→Option ((List Stmt)×Int×Int))(ik:(List Token)→Int→Int→Option (Stmt×Int×Int))(h4:(List Token)→Int→Stmt→Int→Option (Stmt×Int×Int))(il:(List Token)→Int→Stmt→Int→Option (Stmt×Int×Int))(l:List Token)(at_:Int)(depth:Int):Option (Stmt×Int×Int):=(VR n l at_).bind λr1=>cond (decide (r1=0)) ( aq ((decide (((l.length:Nat):Int)≤at_))||aH at_ l.length)<|cond (cond (decide (((l.length:Nat):Int)≤at_)) true (!decide ((anr l at_).Kind=1))) ( (v7 n l at_).bind λr3=>some ((⟨r1,[],0,⟨0,0,[],[]⟩,⟨0,0,[],[]⟩,[],[]⟩:Stmt),at_,r3)) ( qH n hT ik h4 il l depth 2 (anq (at_-1)))) ( qH n hT ik h4 il l depth r1 at_)
def Ii(hT:(List Token)→Int→Int→Option ((List Stmt)×Int×Int))(ik:(List Token)→Int→Int→Option (Stmt×Int×Int))(h4:(List Token)→Int→Stmt→Int→Option (Stmt×Int×Int))(il:(List Token)→Int→Stmt→Int→Option (Stmt×Int×Int))(l:List Token)(at_:Int)(s:Stmt)(depth:Int):Option (Stmt×Int×Int):=(r' n l at_ 3).bind λr1=>cond (!decide (r1.2.2=0)) ( some ((⟨s.Op,s.Name,s.Max,⟨s.A.Op,s.A.N,s.A.S,s.A.ao⟩,⟨s.B.Op,s.B.N,s.B.S,s.B.ao⟩,s.Body,s.bx⟩:Stmt),r1.2.1,r1.2.2)) ( cond (decide (s.Op=8)) ( (jR n l r1.2.1 ([([59]:ano)]:List ano)).bind λbc=>some ((⟨s.Op,s.Name,r1.1.N,⟨s.A.Op,s.A.N,s.A.S,s.A.ao⟩,⟨s.B.Op,s.B.N,s.B.S,s.B.ao⟩,s.Body,s.bx⟩:Stmt),bc.1,bc.2)) ( (hT l r1.2.1 (anq (depth+1))).bind λbQ=>some ((⟨s.Op,s.Name,r1.1.N,⟨s.A.Op,s.A.N,s.A.S,s.A.ao⟩,⟨s.B.Op,s.B.N,s.B.S,s.B.ao⟩,bQ.1,s.bx⟩:Stmt),bQ.2.1,bQ.2.2)))
def O_(n:Nat)(hT:(List Token)→Int→Int→Option ((List Stmt)×Int×Int))(ik:(List Token)→Int→Int→Option (Stmt×Int×Int))(h4:(List Token)→Int→Stmt→Int→Option (Stmt×Int×Int))(il:(List Token)→Int→Stmt→Int→Option (Stmt×Int×Int))(s:Stmt)(be:(List Stmt)×Int×Int)(v9:List Stmt)(v10:Int)(v11:Int):Option (Stmt×Int×Int):=some ((⟨s.Op,s.Name,s.Max,⟨s.A.Op,s.A.N,s.A.S,s.A.ao⟩,⟨s.B.Op,s.B.N,s.B.S,s.B.ao⟩,be.1,v9⟩:Stmt),v10,v11)
def CT(hT:(List Token)→Int→Int→Option ((List Stmt)×Int×Int))(ik:(List Token)→Int→Int→Option (Stmt×Int×Int))(h4:(List Token)→Int→Stmt→Int→Option (Stmt×Int×Int))(il:(List Token)→Int→Stmt→Int→Option (Stmt×Int×Int))(l:List Token)(at_:Int)(s:Stmt)(depth:Int):Option (Stmt×Int×Int):=cond (decide (s.Op=6)) ( (jR n l at_ ([([109,97,120]:ano)]:List ano)).bind λr2=>cond (!decide (r2.2=0)) ( some ((⟨s.Op,s.Name,s.Max,⟨s.A.Op,s.A.N,s.A.S,s.A.ao⟩,⟨s.B.Op,s.B.N,s.B.S,s.B.ao⟩,s.Body,s.bx⟩:Stmt),r2.1,r2.2)) ( (h4 l r2.1 (⟨s.Op,s.Name,s.Max,⟨s.A.Op,s.A.N,s.A.S,s.A.ao⟩,⟨s.B.Op,s.B.N,s.B.S,s.B.ao⟩,s.Body,s.bx⟩:Stmt) depth).bind λbc=>some ((⟨bc.1.Op,bc.1.Name,bc.1.Max,⟨bc.1.A.Op,bc.1.A.N,bc.1.A.S,bc.1.A.ao⟩,⟨bc.1.B.Op,bc.1.B.N,bc.1.B.S,bc.1.B.ao⟩,bc.1.Body,bc.1.bx⟩:Stmt),bc.2.1,bc.2.2))) ( cond (decide (s.Op=5)) ( (hT l at_ (anq (depth+1))).bind λbe=>Option.bind (cond (decide (be.2.2=0)) (kl n l be.2.1 ([101,108,115,101]:ano)) (some default)) λbD=>cond (cond (decide (be.2.2=0)) bD false) ( (hT l (anq (be.2.1+1)) (anq (depth+1))).bind λcH=>O_ n hT ik h4 il s be cH.1 cH.2.1 cH.2.2) ( O_ n hT ik h4 il s be s.bx be.2.1 be.2.2)) ( (jR n l at_ ([([59]:ano)]:List ano)).bind λcK=>some ((⟨s.Op,s.Name,s.Max,⟨s.A.Op,s.A.N,s.A.S,s.A.ao⟩,⟨s.B.Op,s.B.N,s.B.S,s.B.ao⟩,s.Body,s.bx⟩:Stmt),cK.1,cK.2)))
def km:Nat→((List Token)→Int→Int→Option ((List Stmt)×Int×Int))×((List Token)→Int→Int→Option (Stmt×Int×Int))×((List Token)→Int→Stmt→Int→Option (Stmt×Int×Int))×((List Token)→Int→Stmt→Int→Option (Stmt×Int×Int))
 | 0=>(λ_ _ _=>none,λ_ _ _=>none,λ_ _ _ _=>none,λ_ _ _ _=>none)
 |m+1=>(O9 m ((km m).1) ((km m).2.1) ((km m).2.2.1) ((km m).2.2.2),O' m ((km m).1) ((km m).2.1) ((km m).2.2.1) ((km m).2.2.2),Ii m ((km m).1) ((km m).2.1) ((km m).2.2.1) ((km m).2.2.2),CT m ((km m).1) ((km m).2.1) ((km m).2.2.1) ((km m).2.2.2))
def mB:(List Token)→Int→Int→Option ((List Stmt)×Int×Int):=(km n).1
def n0:(List Token)→Int→Int→Option (Stmt×Int×Int):=(km n).2.1
def oR:(List Token)→Int→Stmt→Int→Option (Stmt×Int×Int):=(km n).2.2.1
def ni:(List Token)→Int→Stmt→Int→Option (Stmt×Int×Int):=(km n).2.2.2
def Ij(db:Int→(List Param)→Option ((List Param)×Int×Int))(l:List Token)(eC:Int×Int)(de:List Param)(cL:Token×Int×Int)(hz:Int):Option ((List Param)×Int×Int):=aq (room (de.length+([(⟨cL.1.Text,hz⟩:Param)]:List Param).length) 24)<|(kl n l (anq (eC.1+1)) ([41]:ano)).bind λfa=>cond fa ( some ((de++([(⟨cL.1.Text,hz⟩:Param)]:List Param)),(anq ((anq (eC.1+1))+1)),0)) ( (jR n l (anq (eC.1+1)) ([([44]:ano)]:List ano)).bind λr26=>cond (!decide (r26.2=0)) ( some (([]:List Param),r26.1,r26.2)) ( db r26.1 (de++([(⟨cL.1.Text,hz⟩:Param)]:List Param))))
def Ik(l:List Token)(db:Int→(List Param)→Option ((List Param)×Int×Int))(cB:Int)(de:List Param):Option ((List Param)×Int×Int):=(r' n l cB 1).bind λcL=>cond (!decide (cL.2.2=0)) ( some (([]:List Param),cL.2.1,cL.2.2)) ( (jR n l cL.2.1 ([([58]:ano)]:List ano)).bind λeC=>cond (!decide (eC.2=0)) ( some (([]:List Param),eC.1,eC.2)) ( (kl n l eC.1 ([105,110,116]:ano)).bind λfb=>cond fb ( Ij n db l eC de cL 1) ( (kl n l eC.1 ([115,116,114]:ano)).bind λej=>cond ej ( Ij n db l eC de cL 2) ( (kl n l eC.1 ([98,111,111,108]:ano)).bind λe8=>cond e8 ( Ij n db l eC de cL 3) ( (v7 n l eC.1).bind λcR=>some (([]:List Param),eC.1,cR))))))
def v_(n:Nat)(l:List Token):Nat→Int→(List Param)→Option ((List Param)×Int×Int)
 | 0=>λ_ _=>none
 |m+1=>Ik n l (v_ n l m)
def VU(l:List Token)(at_:Int):Option ((List Param)×Int×Int):=(kl n l at_ ([41]:ano)).bind λr1=>cond r1 ( some (([]:List Param),(anq (at_+1)),0)) ( v_ n l n at_ ([]:List Param))
def CU(l:List Token)(at_:Int):Option (aZ×Int×Int):=(jR n l at_ ([([112,114,111,99]:ano)]:List ano)).bind λr1=>cond (!decide (r1.2=0)) ( some ((⟨[],[],[]⟩:aZ),r1.1,r1.2)) ( (r' n l r1.1 1).bind λr3=>cond (!decide (r3.2.2=0)) ( some ((⟨[],[],[]⟩:aZ),r3.2.1,r3.2.2)) ( (jR n l r3.2.1 ([([40]:ano)]:List ano)).bind λbQ=>cond (!decide (bQ.2=0)) ( some ((⟨[],[],[]⟩:aZ),bQ.1,bQ.2)) ( (VU n l bQ.1).bind λbD=>cond (!decide (bD.2.2=0)) ( some ((⟨[],[],[]⟩:aZ),bD.2.1,bD.2.2)) ( (mB n l bD.2.1 0).bind λb4=>some ((⟨r3.1.Text,bD.1,b4.1⟩:aZ),b4.2.1,b4.2.2)))))
def Il(src:ano):Option (aZ×Int×Int):=(O2 n src).bind λr1=>cond (!decide (r1.2.2=0)) ( some ((⟨[],[],[]⟩:aZ),r1.2.1,r1.2.2)) ( (CU n r1.1 0).bind λr3=>(O3 n r1.1 r3.2.1 r3.2.2).bind λbc=>cond (!decide (bc=0)) ( (O4 n r1.1 r3.2.1).bind λbe=>some ((⟨[],[],[]⟩:aZ),be,bc)) ( (HV n r3.1).bind λbD=>cond (!decide (bD=0)) ( some ((⟨[],[],[]⟩:aZ),0,bD)) ( some (r3.1,0,0))))
def VV(n:Nat)(aQ:List aZ):Option ((List aZ)×Bool):=some (aQ,true)
def Pa(l:List ano)(al:(List aZ)→Int→Option ((List aZ)×Bool))(bG:List aZ)(v9:Int):Option ((List aZ)×Bool):=cond (decide (v9<((l.length:Nat):Int))) ( aq (aH v9 l.length)<|(Il n (anr l v9)).bind λbz=>Option.bind (cond (!(!decide (bz.2.2=0))) (CL n bz.1) (some default)) λb9=>aq ((!decide (bz.2.2=0))||aH v9 l.length)<|cond (cond (!decide (bz.2.2=0)) true (!(decide (b9=(anr l v9))))) ( some (([]:List aZ),false)) ( aq (room (bG.length+([bz.1]:List aZ).length) 64)<|al (bG++([bz.1]:List aZ)) (anq (v9+1)))) ( VV n bG)
def CV(n:Nat)(l:List ano):Nat→(List aZ)→Int→Option ((List aZ)×Bool)
 | 0=>λ_ _=>none
 |m+1=>Pa n l (CV n l m)
def adW(l:List ano):Option ((List aZ)×Bool):=CV n l n ([]:List aZ) 0
def Im(ar:cV):Option (cV×Int):=(rM n ar).bind λr1=>cond (!r1) ( some ((⟨0,⟨0,0,[]⟩,[],[],⟨0,[]⟩,[],[],0⟩:cV),1)) ( (tf n ar).bind λr3=>(vS n r3).bind λbc=>some (bc.1,bc.2))
def Pb(s:ano):ans:=cond (decide (2000<((s.length:Nat):Int))) ( (CD n).bind λr2=>some r2) ( (Cx n s).bind λr3=>cond (!decide (r3.2=0)) ( (vU n r3.1 (⟨0,⟨0,0,[]⟩,[],[],⟨0,[]⟩,[],[],0⟩:cV)).bind λbQ=>Option.bind (cond bQ (CD n) (some default)) λbe=>some (cond bQ be false)) ( (BQ n r3.1).bind λbD=>(Im n r3.1).bind λcH=>Option.bind (cond (cond (decide (bD.1=s)) (decide (bD.2=0)) false) (vU n cH.1 r3.1) (some default)) λb4=>Option.bind (cond (cond (cond (cond (decide (bD.1=s)) (decide (bD.2=0)) false) b4 false) (decide (cH.2=0)) false) (CD n) (some default)) λc_=>some (cond (cond (cond (cond (decide (bD.1=s)) (decide (bD.2=0)) false) b4 false) (decide (cH.2=0)) false) c_ false)))
end Go.Ab.Y

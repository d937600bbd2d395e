/- What each function computes, over plain data, with fuel. Printed by a program. -/
import Derived.Test.YtbncfepdlmnmiaaGreatDoorHand
set_option linter.all false
namespace Go.Ab.Y
open Go Go.Ab Go.Proofs
variable (n:Nat)
def Pl(n:Nat)(c:Int):av7:=some (cond (cond (cond (cond (cond (cond (decide (97≤c)) (decide (c≤122)) false) true (cond (decide (48≤c)) (decide (c≤57)) false)) true (decide (c=47))) true (decide (c=46))) true (decide (c=95))) true (decide (c=45)))
def Pm(n:Nat):av7:=some true
def HN(s:av3)(ak:Int→av7)(v5:Int):av7:=cond (decide (v5<((s.length:Nat):Int))) (ay (aM v5 s.length)<|(Pl n (((s.getD (v5).toNat 0).toNat:Nat):Int)).bind λcC=>cond (!cC) (some false) (ak (av5 (v5+1)))) (Pm n)
def yV(n:Nat)(s:av3):Nat→Int→av7
 | 0=>λ_=>none
 |m+1=>HN n s (yV n s m)
def HO(s:av3):av7:=cond (decide (24<((s.length:Nat):Int))) (some false) (yV n s n 0)
def wv(k:av3):av7:=Option.bind (cond (!(decide (k=([]:av3)))) (HO n k) (some default)) λr1=>some (cond (!(decide (k=([]:av3)))) r1 false)
def Pn(n:Nat)(l:List av3):av7:=some (decide (((l.length:Nat):Int)≤64))
def HP(l:List av3)(ak:Int→av7)(v5:Int):av7:=cond (decide (v5<((l.length:Nat):Int))) (ay (aM v5 l.length)<|(wv n (av6 l v5)).bind λcC=>ay ((!cC)||(!(decide (0<v5))||aM (av5 (v5-1)) l.length))<|cond (cond (!cC) true (cond (decide (0<v5)) ((Op.bytesLess (av6 l v5) (av6 l (av5 (v5-1))))||(decide ((av6 l v5)=(av6 l (av5 (v5-1)))))) false)) (some false) (ak (av5 (v5+1)))) (Pn n l)
def yW(n:Nat)(l:List av3):Nat→Int→av7
 | 0=>λ_=>none
 |m+1=>HP n l (yW n l m)
def C0(l:List av3):av7:=yW n l n 0
def C1(f:fz):av7:=cond f.ek (some (cond (decide (((f.Reads.length:Nat):Int)=0)) (decide (((f.cA.length:Nat):Int)=0)) false)) ((C0 n f.Reads).bind λr2=>Option.bind (cond r2 (C0 n f.cA) (some default)) λr3=>some (cond r2 r3 false))
def Po(n:Nat):av7:=some false
def ix(v1:Bool):av7:=cond v1 (some true) (Po n)
def C2(s:av3):av7:=cond (decide (s=([112,114,111,99]:av3))) (ix n (decide (s=([112,114,111,99]:av3)))) (cond (decide (s=([108,101,116]:av3))) (ix n (decide (s=([108,101,116]:av3)))) (cond (decide (s=([112,117,116]:av3))) (ix n (decide (s=([112,117,116]:av3)))) (cond (decide (s=([100,101,108,101,116,101]:av3))) (ix n (decide (s=([100,101,108,101,116,101]:av3)))) (cond (decide (s=([105,102]:av3))) (ix n (decide (s=([105,102]:av3)))) (cond (decide (s=([101,108,115,101]:av3))) (ix n (decide (s=([101,108,115,101]:av3)))) (cond (decide (s=([102,111,114]:av3))) (ix n (decide (s=([102,111,114]:av3)))) (cond (decide (s=([116,111]:av3))) (ix n (decide (s=([116,111]:av3)))) (cond (decide (s=([109,97,120]:av3))) (ix n (decide (s=([109,97,120]:av3)))) (cond (decide (s=([101,109,105,116]:av3))) (ix n (decide (s=([101,109,105,116]:av3)))) (cond (decide (s=([97,98,111,114,116]:av3))) (ix n (decide (s=([97,98,111,114,116]:av3)))) (cond (decide (s=([110,111,116]:av3))) (ix n (decide (s=([110,111,116]:av3)))) (cond (decide (s=([97,110,100]:av3))) (ix n (decide (s=([97,110,100]:av3)))) (cond (decide (s=([111,114]:av3))) (ix n (decide (s=([111,114]:av3)))) (cond (decide (s=([105,110,116]:av3))) (ix n (decide (s=([105,110,116]:av3)))) (cond (decide (s=([115,116,114]:av3))) (ix n (decide (s=([115,116,114]:av3)))) (cond (decide (s=([98,111,111,108]:av3))) (ix n (decide (s=([98,111,111,108]:av3)))) (cond (decide (s=([116,101,120,116]:av3))) (ix n (decide (s=([116,101,120,116]:av3)))) (cond (decide (s=([108,101,110]:av3))) (ix n (decide (s=([108,101,110]:av3)))) (cond (decide (s=([103,101,116,105,110,116]:av3))) (ix n (decide (s=([103,101,116,105,110,116]:av3)))) (cond (decide (s=([103,101,116,115,116,114]:av3))) (ix n (decide (s=([103,101,116,115,116,114]:av3)))) (cond (decide (s=([104,97,115]:av3))) (ix n (decide (s=([104,97,115]:av3)))) (cond (decide (s=([110,111,119]:av3))) (ix n (decide (s=([110,111,119]:av3)))) (cond (decide (s=([114,97,110,100,111,109]:av3))) (ix n (decide (s=([114,97,110,100,111,109]:av3)))) (ix n (decide (s=([110,111,100,101]:av3)))))))))))))))))))))))))))
def C3(n:Nat)(c:Int):av7:=some (cond (decide (97≤c)) (decide (c≤122)) false)
def sI(s:av3):av7:=ay (!(cond (!(decide (s=([]:av3)))) (decide (((s.length:Nat):Int)≤16)) false)||aM 0 s.length)<|Option.bind (cond (cond (!(decide (s=([]:av3)))) (decide (((s.length:Nat):Int)≤16)) false) (C3 n (IntKind.i32.wrap (((s.getD 0 0).toNat:Nat):Int))) (some default)) λr2=>Option.bind (cond (cond (cond (!(decide (s=([]:av3)))) (decide (((s.length:Nat):Int)≤16)) false) r2 false) (yS n s) (some default)) λr3=>Option.bind (cond (cond (cond (cond (!(decide (s=([]:av3)))) (decide (((s.length:Nat):Int)≤16)) false) r2 false) (decide (r3=((s.length:Nat):Int))) false) (C2 n s) (some default)) λaR=>some (cond (cond (cond (cond (!(decide (s=([]:av3)))) (decide (((s.length:Nat):Int)≤16)) false) r2 false) (decide (r3=((s.length:Nat):Int))) false) (!aR) false)
def Zx(n:Nat)(s:av3):av7:=some (decide (((s.length:Nat):Int)≤64))
def Pp(s:av3)(ak:Int→av7)(v4:Int):av7:=cond (decide (v4<((s.length:Nat):Int))) (ay (aM v4 s.length)<|ay ((decide ((((s.getD (v4).toNat 0).toNat:Nat):Int)<32))||aM v4 s.length)<|cond (cond (decide ((((s.getD (v4).toNat 0).toNat:Nat):Int)<32)) true (decide (126<(((s.getD (v4).toNat 0).toNat:Nat):Int)))) (some false) (ak (av5 (v4+1)))) (Zx n s)
def C4(n:Nat)(s:av3):Nat→Int→av7
 | 0=>λ_=>none
 |m+1=>Pp n s (C4 n s m)
def C5(s:av3):av7:=C4 n s n 0
def sJ(v:bH):av7:=cond (decide (v.Kind=0)) (some ((decide (v.Kind=0))&&((decide (v.N=0))&&((decide (v.S=([]:av3)))&&true)))) (cond (decide (v.Kind=1)) (some (decide (v.S=([]:av3)))) (cond (decide (v.Kind=2)) (Option.bind (cond (decide (v.N=0)) (C5 n v.S) (some default)) λaR=>some (cond (decide (v.N=0)) aR false)) (some false)))
def Pq(v:bH):av7:=Option.bind (cond (!(decide (v.Kind=0))) (sJ n v) (some default)) λr1=>some (cond (decide (v.Kind=0)) true (!r1))
def Pr(n:Nat):av8:=some (-1)
def HQ(s:List bH)(ak:Int→av8)(v4:Int):av8:=cond (decide (v4<((s.length:Nat):Int))) (ay (aM v4 s.length)<|(Pq n (av6 s v4)).bind λbj=>cond bj (some v4) (ak (av5 (v4+1)))) (Pr n)
def yX(n:Nat)(s:List bH):Nat→Int→av8
 | 0=>λ_=>none
 |m+1=>HQ n s (yX n s m)
def Ps(s:List bH):av8:=yX n s n 0
def Pt(s:List bH):av7:=(Ps n s).bind λr1=>some (decide (0≤r1))
def pg(ah:Request):av8:=cond (cond (cond (cond (decide (ah.Client<1)) true (decide (32<ah.Client))) true (decide (ah.Seq<1))) true (decide (1099511627776<ah.Seq))) (some 1) ((sI n ah.bg).bind λr2=>cond (!r2) (some 7) (cond (decide (6<((ah.ax.length:Nat):Int))) (some 2) ((Pt n ah.ax).bind λbZ=>cond bZ (some 1) ((C1 n ah.bv).bind λcC=>cond (cond (cond (!cC) true ah.bv.ek) true (cond (!ah.eS) (decide (0<(av5 (((ah.bv.Reads.length:Nat):Int)+((ah.bv.cA.length:Nat):Int))))) false)) (some 1) (some 0)))))
def HR(n:Nat)(b:List Int)(c:Int):Option (List Int):=ay (room (b.length+([c]:List Int).length) 1)<|some (b++([c]:List Int))
def Pu(v9:Int)(v10:List Int):Option av3:=(HR n v10 (IntKind.u8.wrap v9)).bind λb4=>ay (nB b4)<|some (jX b4)
def Pv(ak:Int→(List Int)→Option av3)(v4:Int)(v5:List Int):Option av3:=cond (decide (128≤v4)) ((HR n v5 (qP .u8 (IntKind.u8.wrap v4) 128)).bind λbj=>ak (nr .u64 v4 7) bj) (Pu n v4 v5)
def C6(n:Nat):Nat→Int→(List Int)→Option av3
 | 0=>λ_ _=>none
 |m+1=>Pv n (C6 n m)
def hQ(u:Int):Option av3:=C6 n n u ([]:List Int)
def oz(s:av3):Option av3:=(hQ n (IntKind.u64.wrap ((s.length:Nat):Int))).bind λr1=>ay (b3 (r1.length+s.length))<|some (r1++s)
def Pw(n:Nat)(bR:av3):Option av3:=some bR
def HS(l:List av3)(ak:Int→av3→Option av3)(bD:Int)(bE:av3):Option av3:=cond (decide (bD<((l.length:Nat):Int))) (ay (aM bD l.length)<|(oz n (av6 l bD)).bind λdx=>ay (b3 (bE.length+dx.length))<|ak (av5 (bD+1)) (bE++dx)) (Pw n bE)
def yY(n:Nat)(l:List av3):Nat→Int→av3→Option av3
 | 0=>λ_ _=>none
 |m+1=>HS n l (yY n l m)
def C7(l:List av3):Option av3:=(hQ n (IntKind.u64.wrap ((l.length:Nat):Int))).bind λr1=>yY n l n 0 r1
def rk(eW:Int):Option av3:=(hQ n (mW .u64 (oU .u64 (IntKind.u64.wrap eW) 1) (IntKind.u64.wrap (nr .i64 eW 63)))).bind λr1=>some r1
def ww(v:bH):Option av3:=cond (decide (v.Kind=1)) ((hQ n 1).bind λr2=>(rk n v.N).bind λr3=>ay (b3 (r2.length+r3.length))<|some (r2++r3)) (cond (decide (v.Kind=2)) ((hQ n 2).bind λbj=>(oz n v.S).bind λcC=>ay (b3 (bj.length+cC.length))<|some (bj++cC)) ((hQ n 0).bind λcM=>some cM))
def Px(n:Nat)(b:Bool):Option av3:=cond b (some ([1]:av3)) (some ([0]:av3))
def C8(n:Nat)(hR:av3):Option av3:=some hR
def C9(ah:Request)(v22:av3):Option av3:=(Px n ah.eS).bind λfj=>ay (b3 (v22.length+fj.length))<|cond ah.eS ((C7 n ah.bv.Reads).bind λfM=>(C7 n ah.bv.cA).bind λr26=>ay (b3 (fM.length+r26.length))<|ay (b3 ((v22++fj).length+(fM++r26).length))<|C8 n ((v22++fj)++(fM++r26))) (C8 n (v22++fj))
def HT(ah:Request)(e':av3→Int→Option av3)(bF:av3)(dv:Int):Option av3:=cond (decide (dv<((ah.ax.length:Nat):Int))) (ay (aM dv ah.ax.length)<|(ww n (av6 ah.ax dv)).bind λgw=>ay (b3 (bF.length+gw.length))<|e' (bF++gw) (av5 (dv+1))) (C9 n ah bF)
def yZ(n:Nat)(ah:Request):Nat→av3→Int→Option av3
 | 0=>λ_ _=>none
 |m+1=>HT n ah (yZ n ah m)
def HU(ah:Request):Option av3:=(pg n ah).bind λr1=>cond (!decide (r1=0)) (some ([]:av3)) ((hQ n (IntKind.u64.wrap ah.Client)).bind λr3=>(hQ n (IntKind.u64.wrap ah.Seq)).bind λaR=>ay (b3 (r3.length+aR.length))<|(oz n ah.bg).bind λbj=>ay (b3 ((r3++aR).length+bj.length))<|(hQ n (IntKind.u64.wrap ((ah.ax.length:Nat):Int))).bind λcv=>ay (b3 (((r3++aR)++bj).length+cv.length))<|yZ n ah n (((r3++aR)++bj)++cv) 0)
def Py(n:Nat)(a1:av3):Option av3:=some a1
def HV(l:List Request)(ak:Int→av3→Option av3)(v9:Int)(v10:av3):Option av3:=cond (decide (v9<((l.length:Nat):Int))) (ay (aM v9 l.length)<|(pg n (⟨(av6 l v9).Client,(av6 l v9).Seq,(av6 l v9).bg,(av6 l v9).ax,(av6 l v9).eS,⟨((av6 l v9).bv).ek,((av6 l v9).bv).Reads,((av6 l v9).bv).cA⟩⟩:Request)).bind λeJ=>cond (!decide (eJ=0)) (some ([]:av3)) ((HU n (⟨(av6 l v9).Client,(av6 l v9).Seq,(av6 l v9).bg,(av6 l v9).ax,(av6 l v9).eS,⟨((av6 l v9).bv).ek,((av6 l v9).bv).Reads,((av6 l v9).bv).cA⟩⟩:Request)).bind λdX=>ay (b3 (v10.length+dX.length))<|ak (av5 (v9+1)) (v10++dX))) (Py n v10)
def y0(n:Nat)(l:List Request):Nat→Int→av3→Option av3
 | 0=>λ_ _=>none
 |m+1=>HV n l (y0 n l m)
def y1(l:List Request):Option av3:=cond (decide (64<((l.length:Nat):Int))) (some ([]:av3)) ((hQ n (IntKind.u64.wrap ((l.length:Nat):Int))).bind λr2=>y0 n l n 0 r2)
def Pz(n:Nat):av7:=some true
def HW(floor:Int)(last:Int)(ah:Row)(ak:Int→av7)(bE:Int):av7:=cond (decide (bE<((ah.bp.length:Nat):Int))) (ay (aM bE ah.bp.length)<|Option.bind (cond (!(cond (decide ((av6 ah.bp bE).bN<floor)) true (decide (last<(av6 ah.bp bE).bN)))) (sJ n (⟨((av6 ah.bp bE).bk).Kind,((av6 ah.bp bE).bk).N,((av6 ah.bp bE).bk).S⟩:bH)) (some default)) λdx=>cond (cond (cond (decide ((av6 ah.bp bE).bN<floor)) true (decide (last<(av6 ah.bp bE).bN))) true (!dx)) (some false) (ay (!(decide (0<bE))||aM (av5 (bE-1)) ah.bp.length)<|ay (!(decide (0<bE))||((decide ((av6 ah.bp bE).bN≤(av6 ah.bp (av5 (bE-1))).bN))||aM (av5 (bE-1)) ah.bp.length))<|cond (cond (decide (0<bE)) (cond (decide ((av6 ah.bp bE).bN≤(av6 ah.bp (av5 (bE-1))).bN)) true ((decide (((av6 ah.bp bE).bk).Kind=((av6 ah.bp (av5 (bE-1))).bk).Kind))&&((decide (((av6 ah.bp bE).bk).N=((av6 ah.bp (av5 (bE-1))).bk).N))&&((decide (((av6 ah.bp bE).bk).S=((av6 ah.bp (av5 (bE-1))).bk).S))&&true)))) false) (some false) (ak (av5 (bE+1))))) (Pz n)
def y2(n:Nat)(floor:Int)(last:Int)(ah:Row):Nat→Int→av7
 | 0=>λ_=>none
 |m+1=>HW n floor last ah (y2 n floor last ah m)
def HX(ah:Row)(floor:Int)(last:Int):av7:=ay ((decide (((ah.bp.length:Nat):Int)=0))||aM 0 ah.bp.length)<|cond (cond (decide (((ah.bp.length:Nat):Int)=0)) true (decide (((ah.bp.getD 0 default).bk).Kind=0))) (some false) (y2 n floor last ah n 0)
def PA(n:Nat):av7:=some true
def HY(s:aq)(ak:Int→av7)(bD:Int):av7:=cond (decide (bD<((s.Rows.length:Nat):Int))) (ay (aM bD s.Rows.length)<|(wv n ((av6 s.Rows bD).Key)).bind λcM=>ay ((!cM)||(!(decide (0<bD))||aM (av5 (bD-1)) s.Rows.length))<|Option.bind (cond (!(cond (!cM) true (cond (decide (0<bD)) ((Op.bytesLess ((av6 s.Rows bD).Key) ((av6 s.Rows (av5 (bD-1))).Key))||(decide (((av6 s.Rows bD).Key)=((av6 s.Rows (av5 (bD-1))).Key)))) false))) (HX n (av6 s.Rows bD) s.bx s.br) (some default)) λb4=>cond (cond (cond (!cM) true (cond (decide (0<bD)) ((Op.bytesLess ((av6 s.Rows bD).Key) ((av6 s.Rows (av5 (bD-1))).Key))||(decide (((av6 s.Rows bD).Key)=((av6 s.Rows (av5 (bD-1))).Key)))) false)) true (!b4)) (some false) (ak (av5 (bD+1)))) (PA n)
def y3(n:Nat)(s:aq):Nat→Int→av7
 | 0=>λ_=>none
 |m+1=>HY n s (y3 n s m)
def wx(s:aq):av7:=cond (cond (cond (decide (s.bx<0)) true (decide (s.br<s.bx))) true (decide (1099511627776<s.br))) (some false) (y3 n s n 0)
def HZ(n:Nat)(s:aq)(at_:Int):av8:=cond (cond (decide (at_<s.bx)) true (decide (s.br<at_))) (some 15) (some 0)
def PB(n:Nat)(v6:Int):av8:=some v6
def PC(at_:Int)(ah:Row)(ak:Int→av8)(v3:Int):av8:=ay (!(decide (v3<((ah.bp.length:Nat):Int)))||aM v3 ah.bp.length)<|cond (cond (decide (v3<((ah.bp.length:Nat):Int))) (decide ((av6 ah.bp v3).bN≤at_)) false) (ak (av5 (v3+1))) (PB n v3)
def C'(n:Nat)(at_:Int)(ah:Row):Nat→Int→av8
 | 0=>λ_=>none
 |m+1=>PC n at_ ah (C' n at_ ah m)
def H0(ah:Row)(at_:Int):av8:=C' n at_ ah n 0
def H2(ah:Row)(at_:Int):Option bH:=(H0 n ah at_).bind λr1=>cond (decide (r1=0)) (some (⟨0,0,[]⟩:bH)) (ay (aM (av5 (r1-1)) ah.bp.length)<|some (⟨((av6 ah.bp (av5 (r1-1))).bk).Kind,((av6 ah.bp (av5 (r1-1))).bk).N,((av6 ah.bp (av5 (r1-1))).bk).S⟩:bH))
def PD(n:Nat)(c6:List aU):Option ((List aU)×Int):=some (c6,0)
def C_(n:Nat)(ak:Int→(List aU)→Option ((List aU)×Int))(at_:Int)(s:aq)(v11:Int)(dv:List aU):Option ((List aU)×Int):=ak (av5 (v11+1)) dv
def PE(at_:Int)(s:aq)(ak:Int→(List aU)→Option ((List aU)×Int))(v11:Int)(v12:List aU):Option ((List aU)×Int):=cond (decide (v11<((s.Rows.length:Nat):Int))) (ay (aM v11 s.Rows.length)<|(H2 n (av6 s.Rows v11) at_).bind λeQ=>cond (!decide (eQ.Kind=0)) (ay (room (v12.length+([(⟨(av6 s.Rows v11).Key,eQ⟩:aU)]:List aU).length) 48)<|C_ n ak at_ s v11 (v12++([(⟨(av6 s.Rows v11).Key,eQ⟩:aU)]:List aU))) (C_ n ak at_ s v11 v12)) (PD n v12)
def Da(n:Nat)(at_:Int)(s:aq):Nat→Int→(List aU)→Option ((List aU)×Int)
 | 0=>λ_ _=>none
 |m+1=>PE n at_ s (Da n at_ s m)
def y4(s:aq)(at_:Int):Option ((List aU)×Int):=(wx n s).bind λr1=>cond (!r1) (some (([]:List aU),1)) ((HZ n s at_).bind λr3=>cond (!decide (r3=0)) (some (([]:List aU),r3)) (Da n at_ s n 0 ([]:List aU)))
def PF(n:Nat)(m9:av3):Option av3:=some m9
def H3(p:b8)(ak:Int→av3→Option av3)(a1:Int)(cj:av3):Option av3:=cond (decide (a1<((p.aE.length:Nat):Int))) (ay (aM a1 p.aE.length)<|(rk n ((av6 p.aE a1).Id)).bind λet=>(oz n ((av6 p.aE a1).dR)).bind λfw=>ay (b3 (et.length+fw.length))<|(rk n ((av6 p.aE a1).Node)).bind λfj=>ay (b3 ((et++fw).length+fj.length))<|(rk n ((av6 p.aE a1).fH)).bind λfM=>ay (b3 (((et++fw)++fj).length+fM.length))<|(oz n ((av6 p.aE a1).dI)).bind λr27=>ay (b3 ((((et++fw)++fj)++fM).length+r27.length))<|ay (b3 (cj.length+((((et++fw)++fj)++fM)++r27).length))<|ak (av5 (a1+1)) (cj++((((et++fw)++fj)++fM)++r27))) (PF n cj)
def y5(n:Nat)(p:b8):Nat→Int→av3→Option av3
 | 0=>λ_ _=>none
 |m+1=>H3 n p (y5 n p m)
def Db(p:b8):Option av3:=(rk n p.Version).bind λr1=>(hQ n (IntKind.u64.wrap ((p.aE.length:Nat):Int))).bind λr2=>ay (b3 (r1.length+r2.length))<|y5 n p n 0 (r1++r2)
def PG(n:Nat)(y:Param)(ag:Param):av7:=some (decide (y.Name=ag.Name))
def PH(n:Nat)(ag:Param):av8:=some (-1)
def PI(s:List Param)(ag:Param)(ak:Int→av8)(v4:Int):av8:=cond (decide (v4<((s.length:Nat):Int))) (ay (aM v4 s.length)<|(PG n (av6 s v4) ag).bind λbj=>cond bj (some v4) (ak (av5 (v4+1)))) (PH n ag)
def y6(n:Nat)(s:List Param)(ag:Param):Nat→Int→av8
 | 0=>λ_=>none
 |m+1=>PI n s ag (y6 n s ag m)
def PJ(s:List Param)(ag:Param):av8:=y6 n s ag n 0
def H4(s:List Param)(ag:Param):av7:=(PJ n s ag).bind λr1=>some (decide (0≤r1))
def PK(n:Nat):av8:=some 0
def PL(l:List Param)(ak:Int→av8)(bD:Int):av8:=cond (decide (bD<((l.length:Nat):Int))) (ay (aM bD l.length)<|(sI n ((av6 l bD).Name)).bind λcM=>cond (!cM) (some 7) (cond (cond (decide ((av6 l bD).fy<1)) true (decide (3<(av6 l bD).fy))) (some 10) (ay (gV bD l.length)<|(H4 n (l.take (bD).toNat) (av6 l bD)).bind λb4=>cond b4 (some 8) (ak (av5 (bD+1)))))) (PK n)
def y7(n:Nat)(l:List Param):Nat→Int→av8
 | 0=>λ_=>none
 |m+1=>PL n l (y7 n l m)
def H5(l:List Param):av8:=cond (decide (6<((l.length:Nat):Int))) (some 2) (y7 n l n 0)
def H6(n:Nat)(op:Int):av8:=cond (cond (decide (op<1)) true (decide (27<op))) (some (-1)) (cond (cond (decide (op≤3)) true (decide (25≤op))) (some 0) (cond (cond (cond (decide (op=9)) true (decide (op=18))) true (decide (20≤op))) (some 1) (some 2)))
def PM(n:Nat)(s:av3):av7:=some (decide (((s.length:Nat):Int)≤64))
def PN(s:av3)(ak:Int→av7)(v4:Int):av7:=cond (decide (v4<((s.length:Nat):Int))) (ay (aM v4 s.length)<|ay ((decide ((((s.getD (v4).toNat 0).toNat:Nat):Int)<32))||aM v4 s.length)<|cond (cond (decide ((((s.getD (v4).toNat 0).toNat:Nat):Int)<32)) true (decide (126<(((s.getD (v4).toNat 0).toNat:Nat):Int)))) (some false) (ak (av5 (v4+1)))) (PM n s)
def y8(n:Nat)(s:av3):Nat→Int→av7
 | 0=>λ_=>none
 |m+1=>PN n s (y8 n s m)
def PO(s:av3):av7:=y8 n s n 0
def H7(e:Expr)(depth:Int):av8:=(H6 n e.Op).bind λr1=>cond (cond (cond (decide (r1<0)) true (cond (!decide (e.Op=1)) (!decide (e.N=0)) false)) true (cond (cond (!decide (e.Op=2)) (!decide (e.Op=3)) false) (!(decide (e.S=([]:av3)))) false)) (some 1) (Option.bind (cond (decide (e.Op=3)) (sI n e.S) (some default)) λr3=>cond (cond (decide (e.Op=3)) (!r3) false) (some 7) (Option.bind (cond ((!(cond (decide (e.Op=1)) (decide (e.N<0)) false))&&(decide (e.Op=2))) (PO n e.S) (some default)) λbZ=>cond (cond (cond (cond (decide (e.Op=1)) (decide (e.N<0)) false) true (cond (decide (e.Op=2)) (!bZ) false)) true (!decide (((e.ax.length:Nat):Int)=r1))) (some 1) (cond (decide (12<depth)) (some 2) (some 0))))
def PP(n:Nat)(nF:Expr→Int→av8):av8:=some 0
def PQ(nF:Expr→Int→av8)(depth:Int)(e:Expr)(ak:Int→av8)(v6:Int):av8:=cond (decide (v6<((e.ax.length:Nat):Int))) (ay (aM v6 e.ax.length)<|(nF (av6 e.ax v6) (av5 (depth+1))).bind λcv=>cond (!decide (cv=0)) (some cv) (ak (av5 (v6+1)))) (PP n nF)
def Dc(n:Nat)(nF:Expr→Int→av8)(depth:Int)(e:Expr):Nat→Int→av8
 | 0=>λ_=>none
 |m+1=>PQ n nF depth e (Dc n nF depth e m)
def PR(nF:Expr→Int→av8)(e:Expr)(depth:Int):av8:=(H7 n e depth).bind λr1=>cond (!decide (r1=0)) (some r1) (Dc n nF depth e n 0)
def y9:Nat→Expr→Int→av8
 | 0=>λ_ _=>none
 |m+1=>PR m (y9 m)
def Dd(e:Expr):av8:=(y9 n e 1).bind λr1=>some r1
def y'(n:Nat)(e:Expr):av7:=some (cond (cond (cond (decide (e.Op=0)) (decide (e.N=0)) false) (decide (e.S=([]:av3))) false) (decide (((e.ax.length:Nat):Int)=0)) false)
def H8(s:Stmt)(u:k_):av7:=Option.bind (cond ((!(cond (!u.name) (!(decide (s.Name=([]:av3)))) false))&&(!u.a)) (y' n (⟨s.A.Op,s.A.N,s.A.S,s.A.ax⟩:Expr)) (some default)) λr1=>Option.bind (cond ((!(cond (cond (!u.name) (!(decide (s.Name=([]:av3)))) false) true (cond (!u.a) (!r1) false)))&&(!u.b)) (y' n (⟨s.B.Op,s.B.N,s.B.S,s.B.ax⟩:Expr)) (some default)) λr2=>cond (cond (cond (cond (cond (cond (cond (!u.name) (!(decide (s.Name=([]:av3)))) false) true (cond (!u.a) (!r1) false)) true (cond (!u.b) (!r2) false)) true (cond (!u.max) (!decide (s.Max=0)) false)) true (cond (!u.body) (decide (0<((s.Body.length:Nat):Int))) false)) true (cond (!u.other) (decide (0<((s.bB.length:Nat):Int))) false)) (some false) (cond (decide (s.Op=6)) (some (cond (decide (1≤s.Max)) (decide (s.Max≤16)) false)) (cond (decide (s.Op=8)) (some (cond (decide (0≤s.Max)) (decide (s.Max≤999)) false)) (some true)))
def PS(n:Nat):Option (k_×Bool):=some ((⟨false,false,false,false,false,false⟩:k_),false)
def H9(op:Int)(v2:Bool):Option (k_×Bool):=cond v2 (some ((⟨false,true,false,false,false,false⟩:k_),true)) (cond (decide (op=5)) (some ((⟨false,true,false,false,true,true⟩:k_),true)) (cond (decide (op=6)) (some ((⟨true,true,true,true,true,false⟩:k_),true)) (cond (decide (op=8)) (some ((⟨false,false,false,true,false,false⟩:k_),true)) (PS n))))
def H_(op:Int)(v1:Bool):Option (k_×Bool):=cond v1 (some ((⟨true,true,false,false,false,false⟩:k_),true)) (cond (decide (op=3)) (some ((⟨false,true,true,false,false,false⟩:k_),true)) (cond (decide (op=4)) (H9 n op (decide (op=4))) (H9 n op (decide (op=7)))))
def Ia(op:Int):Option (k_×Bool):=cond (decide (op=1)) (H_ n op (decide (op=1))) (H_ n op (decide (op=2)))
def Ib(n:Nat)(depth:Int):av8:=cond (decide (12<depth)) (some 2) (some 0)
def Ic(depth:Int)(s:Stmt)(r1:k_×Bool):av8:=cond r1.1.b ((Dd n (⟨s.B.Op,s.B.N,s.B.S,s.B.ax⟩:Expr)).bind λcC=>cond (!decide (cC=0)) (some cC) (Ib n depth)) (Ib n depth)
def Ie(s:Stmt)(depth:Int):av8:=(Ia n s.Op).bind λr1=>Option.bind (cond (!(!r1.2)) (H8 n (⟨s.Op,s.Name,s.Max,⟨s.A.Op,s.A.N,s.A.S,s.A.ax⟩,⟨s.B.Op,s.B.N,s.B.S,s.B.ax⟩,s.Body,s.bB⟩:Stmt) r1.1) (some default)) λr2=>cond (cond (!r1.2) true (!r2)) (some 1) (Option.bind (cond r1.1.name (sI n s.Name) (some default)) λaR=>cond (cond r1.1.name (!aR) false) (some 7) (cond r1.1.a ((Dd n (⟨s.A.Op,s.A.N,s.A.S,s.A.ax⟩:Expr)).bind λbj=>cond (!decide (bj=0)) (some bj) (Ic n depth s r1)) (Ic n depth s r1)))
def If(s:Stmt)(depth:Int)(ag:Int):av8:=cond (decide (ag=0)) ((Ie n (⟨s.Op,s.Name,s.Max,⟨s.A.Op,s.A.N,s.A.S,s.A.ax⟩,⟨s.B.Op,s.B.N,s.B.S,s.B.ax⟩,s.Body,s.bB⟩:Stmt) depth).bind λr2=>some r2) (some ag)
def PT(n:Nat)(a0:Expr):Option Unit:=some ()
def PU(n:Nat)(qc:Expr→Int→Int→av8)(e:Expr)(fN:Int)(dt:Int→Int→av8)(v6:Int)(bD:Int):av8:=cond (decide (bD<((e.ax.length:Nat):Int))) (ay (aM bD e.ax.length)<|(qc (av6 e.ax bD) v6 fN).bind λcM=>dt cM (av5 (bD+1))) (some v6)
def De(n:Nat)(qc:Expr→Int→Int→av8)(e:Expr)(fN:Int):Nat→Int→Int→av8
 | 0=>λ_ _=>none
 |m+1=>PU n qc e fN (De n qc e fN m)
def PV(qc:Expr→Int→Int→av8)(e:Expr)(jE:Int)(fN:Int):av8:=cond (decide (jE=0)) (some jE) (De n qc e fN n (av5 (jE-1)) 0)
def y_:Nat→Expr→Int→Int→av8
 | 0=>λ_ _ _=>none
 |m+1=>PV m (y_ m)
def Df(e:Expr)(jE:Int)(fN:Int):av8:=Option.bind (cond (!(decide (jE=0))) (y' n e) (some default)) λr1=>cond (cond (decide (jE=0)) true r1) (some jE) ((PT n e).bind λr3=>(y_ n e jE fN).bind λaR=>some aR)
def PW(ph:(List Stmt)→Int→Int→Int→Option (Int×Int))(depth:Int)(l:List Stmt)(dt:Int→Int→Int→Option (Int×Int))(v10:Int)(v11:Int)(v12:Int):Option (Int×Int):=cond (decide (v12<((l.length:Nat):Int))) (ay (aM v12 l.length)<|cond (decide (v10=0)) (some (v10,v11)) ((If n (⟨(av6 l v12).Op,(av6 l v12).Name,(av6 l v12).Max,⟨((av6 l v12).A).Op,((av6 l v12).A).N,((av6 l v12).A).S,((av6 l v12).A).ax⟩,⟨((av6 l v12).B).Op,((av6 l v12).B).N,((av6 l v12).B).S,((av6 l v12).B).ax⟩,(av6 l v12).Body,(av6 l v12).bB⟩:Stmt) depth v11).bind λeQ=>(Df n (⟨((av6 l v12).A).Op,((av6 l v12).A).N,((av6 l v12).A).S,((av6 l v12).A).ax⟩:Expr) (av5 (v10-1)) eQ).bind λdY=>(Df n (⟨((av6 l v12).B).Op,((av6 l v12).B).N,((av6 l v12).B).S,((av6 l v12).B).ax⟩:Expr) dY eQ).bind λdT=>(ph ((av6 l v12).Body) (av5 (depth+1)) dT eQ).bind λfk=>(ph ((av6 l v12).bB) (av5 (depth+1)) fk.1 fk.2).bind λgw=>dt gw.1 gw.2 (av5 (v12+1)))) (some (v10,v11))
def Dg(n:Nat)(ph:(List Stmt)→Int→Int→Int→Option (Int×Int))(depth:Int)(l:List Stmt):Nat→Int→Int→Int→Option (Int×Int)
 | 0=>λ_ _ _=>none
 |m+1=>PW n ph depth l (Dg n ph depth l m)
def PX(ph:(List Stmt)→Int→Int→Int→Option (Int×Int))(l:List Stmt)(depth:Int)(jE:Int)(fN:Int):Option (Int×Int):=Dg n ph depth l n jE fN 0
def wy:Nat→(List Stmt)→Int→Int→Int→Option (Int×Int)
 | 0=>λ_ _ _ _=>none
 |m+1=>PX m (wy m)
def PY(p:bg)(ag:Int):Option (Int×Int):=(wy n p.Body 1 401 ag).bind λr1=>some ((av5 (401-r1.1)),r1.2)
def Dh(p:bg):av8:=(sI n p.Name).bind λr1=>cond (!r1) (some 7) ((H5 n p.Params).bind λr3=>cond (!decide (r3=0)) (some r3) ((PY n p r3).bind λbZ=>cond (cond (decide (bZ.2=0)) (decide (400<bZ.1)) false) (some 2) (some bZ.2)))
def Ig(n:Nat)(ty:Int):Option av3:=cond (decide (ty=1)) (some ([105,110,116]:av3)) (cond (decide (ty=2)) (some ([115,116,114]:av3)) (some ([98,111,111,108]:av3)))
def rl(n:Nat)(op:Int):Option (Unit ⊕ Unit ⊕ Unit ⊕ Unit ⊕ Unit ⊕ Unit ⊕ Unit ⊕ Unit):=cond (decide (op=1)) (some (.inl ())) (cond (decide (op=2)) (some (.inr (.inl ()))) (cond (decide (op=3)) (some (.inr (.inr (.inl ())))) (cond (decide (op=4)) (some (.inr (.inr (.inr (.inl ()))))) (cond (decide (op=5)) (some (.inr (.inr (.inr (.inr (.inl ())))))) (cond (decide (op=6)) (some (.inr (.inr (.inr (.inr (.inr (.inl ()))))))) (cond (decide (op=7)) (some (.inr (.inr (.inr (.inr (.inr (.inr (.inl ())))))))) (some (.inr (.inr (.inr (.inr (.inr (.inr (.inr ()))))))))))))))
def wz(eW:Int):Option av3:=(HK n eW 10).bind λr1=>some r1
def za(n:Nat)(b_:List Int)(ck:Int):Option Unit:=some ()
def Ih(c:Int)(b_:List Int)(ck:Int):Option (List Int):=(za n b_ ck).bind λr1=>ay (room (b_.length+([c]:List Int).length) 1)<|some (b_++([c]:List Int))
def Di(s:av3)(b_:List Int)(ck:Int):Option (Int×(List Int)):=(za n b_ ck).bind λr1=>ay (room (b_.length+s.length) 1)<|some (((s.length:Nat):Int),(b_++s.map λb=>(b.toNat:Int)))
def PZ(ck:Int)(v20:List Int):Option (List Int):=(Ih n 10 v20 ck).bind λfw=>some fw
def P0(parts:List av3)(ck:Int)(e':(List Int)→Int→Option (List Int))(bR:List Int)(bF:Int):Option (List Int):=cond (decide (bF<((parts.length:Nat):Int))) (ay (aM bF parts.length)<|(Di n (av6 parts bF) bR ck).bind λfk=>e' fk.2 (av5 (bF+1))) (PZ n ck bR)
def Dj(n:Nat)(parts:List av3)(ck:Int):Nat→(List Int)→Int→Option (List Int)
 | 0=>λ_ _=>none
 |m+1=>P0 n parts ck (Dj n parts ck m)
def P1(parts:List av3)(ck:Int)(v9:List Int):Option (List Int):=Dj n parts ck n v9 0
def P2(parts:List av3)(ck:Int)(d_:(List Int)→Int→Option (List Int))(v4:List Int)(v5:Int):Option (List Int):=cond (decide (v5<ck)) ((Di n ([32,32,32,32]:av3) v4 ck).bind λbj=>d_ bj.2 (av5 (v5+1))) (P1 n parts ck v4)
def Dk(n:Nat)(parts:List av3)(ck:Int):Nat→(List Int)→Int→Option (List Int)
 | 0=>λ_ _=>none
 |m+1=>P2 n parts ck (Dk n parts ck m)
def mB(parts:List av3)(b_:List Int)(ck:Int):Option (List Int):=Dk n parts ck n b_ 0
def P3(s:Stmt)(b_:List Int)(ck:Int):Option (List Int):=(wz n s.Max).bind λr1=>(mB n ([([97,98,111,114,116,32]:av3),r1,([59]:av3)]:List av3) b_ ck).bind λr2=>some r2
def P4(n:Nat):av7:=some true
def P5(s:av3)(ak:Int→av7)(v4:Int):av7:=cond (decide (v4<((s.length:Nat):Int))) (ay (aM v4 s.length)<|ay ((decide ((((s.getD (v4).toNat 0).toNat:Nat):Int)<32))||aM v4 s.length)<|cond (cond (decide ((((s.getD (v4).toNat 0).toNat:Nat):Int)<32)) true (decide (126<(((s.getD (v4).toNat 0).toNat:Nat):Int)))) (some false) (ak (av5 (v4+1)))) (P4 n)
def Dl(n:Nat)(s:av3):Nat→Int→av7
 | 0=>λ_=>none
 |m+1=>P5 n s (Dl n s m)
def P6(s:av3):av7:=Dl n s n 0
def rm(n:Nat)(b_:List Int):Option (av3×(List Int)):=ay (nB b_&&decide (b_.length≤9223372036854775807))<|some (jX b_,b_)
def zb(n:Nat)(b_:List Int):Option Unit:=some ()
def rn(c:Int)(b_:List Int):Option (List Int):=(zb n b_).bind λr1=>ay (room (b_.length+([c]:List Int).length) 1)<|some (b_++([c]:List Int))
def P7(v25:List Int):Option (av3×Int):=(rn n 34 v25).bind λr26=>(rm n r26).bind λr27=>some (r27.1,0)
def P8(n:Nat)(ak:(List Int)→Int→Option (av3×Int))(s:av3)(bF:Int)(v22:List Int):Option (av3×Int):=ak v22 (av5 (bF+1))
def Ii(ak:(List Int)→Int→Option (av3×Int))(s:av3)(bF:Int)(c6:List Int):Option (av3×Int):=ay (aM bF s.length)<|(rn n (((s.getD (bF).toNat 0).toNat:Nat):Int) c6).bind λfw=>P8 n ak s bF fw
def P9(s:av3)(ak:(List Int)→Int→Option (av3×Int))(bR:List Int)(bF:Int):Option (av3×Int):=cond (decide (bF<((s.length:Nat):Int))) (ay (aM bF s.length)<|ay ((decide ((((s.getD (bF).toNat 0).toNat:Nat):Int)=34))||aM bF s.length)<|cond (cond (decide ((((s.getD (bF).toNat 0).toNat:Nat):Int)=34)) true (decide ((((s.getD (bF).toNat 0).toNat:Nat):Int)=92))) ((rn n 92 bR).bind λgw=>Ii n ak s bF gw) (Ii n ak s bF bR)) (P7 n bR)
def Dm(n:Nat)(s:av3):Nat→(List Int)→Int→Option (av3×Int)
 | 0=>λ_ _=>none
 |m+1=>P9 n s (Dm n s m)
def Ij(s:av3):Option (av3×Int):=cond (decide (64<((s.length:Nat):Int))) (some (([]:av3),2)) ((P6 n s).bind λr2=>cond (!r2) (some (([]:av3),1)) ((rn n 34 ([]:List Int)).bind λaR=>Dm n s n aR 0))
def P'(n:Nat):av8:=some 9
def Dn(op:Int)(v3:Bool):av8:=cond v3 (some 7) (cond (decide (op=9)) (some 8) (P' n))
def Ik(op:Int)(v2:Bool):av8:=cond v2 (some 6) (cond (decide (op=6)) (Dn n op (decide (op=6))) (cond (decide (op=7)) (Dn n op (decide (op=7))) (Dn n op (decide (op=8)))))
def ui(op:Int)(v1:Bool):av8:=cond v1 (some 4) (cond (decide (op=19)) (some 5) (cond (decide (op=4)) (Ik n op (decide (op=4))) (Ik n op (decide (op=5)))))
def Do(op:Int):av8:=cond (decide (op=17)) (some 1) (cond (decide (op=16)) (some 2) (cond (decide (op=18)) (some 3) (cond (decide (op=10)) (ui n op (decide (op=10))) (cond (decide (op=11)) (ui n op (decide (op=11))) (cond (decide (op=12)) (ui n op (decide (op=12))) (cond (decide (op=13)) (ui n op (decide (op=13))) (cond (decide (op=14)) (ui n op (decide (op=14))) (ui n op (decide (op=15))))))))))
def Il(n:Nat)(op:Int):Option av3:=cond (decide (op=17)) (some ([111,114]:av3)) (cond (decide (op=16)) (some ([97,110,100]:av3)) (cond (decide (op=10)) (some ([61,61]:av3)) (cond (decide (op=11)) (some ([33,61]:av3)) (cond (decide (op=12)) (some ([60]:av3)) (cond (decide (op=13)) (some ([60,61]:av3)) (cond (decide (op=14)) (some ([62]:av3)) (cond (decide (op=15)) (some ([62,61]:av3)) (cond (decide (op=19)) (some ([43,43]:av3)) (cond (decide (op=4)) (some ([43]:av3)) (cond (decide (op=5)) (some ([45]:av3)) (cond (decide (op=6)) (some ([42]:av3)) (cond (decide (op=7)) (some ([47]:av3)) (some ([37]:av3))))))))))))))
def Im(n:Nat)(op:Int):Option av3:=cond (decide (op=20)) (some ([116,101,120,116]:av3)) (cond (decide (op=21)) (some ([108,101,110]:av3)) (cond (decide (op=22)) (some ([103,101,116,105,110,116]:av3)) (cond (decide (op=23)) (some ([103,101,116,115,116,114]:av3)) (cond (decide (op=24)) (some ([104,97,115]:av3)) (cond (decide (op=25)) (some ([110,111,119]:av3)) (cond (decide (op=26)) (some ([114,97,110,100,111,109]:av3)) (cond (decide (op=27)) (some ([110,111,100,101]:av3)) (some ([]:av3)))))))))
def In(ro:Expr→Option av3)(oA:Expr→Int→Option av3)(e:Expr):Option av3:=(Do n e.Op).bind λr1=>cond (decide (e.Op=1)) ((wz n e.N).bind λr3=>some r3) (cond (decide (e.Op=2)) ((Ij n e.S).bind λbZ=>some bZ.1) (cond (decide (e.Op=3)) (some e.S) (cond (decide (e.Op=18)) (ay (aM 0 e.ax.length)<|(oA (e.ax.getD 0 default) r1).bind λcM=>ay (b3 (([110,111,116,32]:av3).length+cM.length))<|some (([110,111,116,32]:av3)++cM)) (cond (decide (e.Op=9)) (ay (aM 0 e.ax.length)<|(oA (e.ax.getD 0 default) r1).bind λdX=>ay (b3 (([45]:av3).length+dX.length))<|some (([45]:av3)++dX)) (cond (cond (decide (r1=9)) (decide (((e.ax.length:Nat):Int)=0)) false) ((Im n e.Op).bind λdT=>ay (b3 (dT.length+([40,41]:av3).length))<|some (dT++([40,41]:av3))) (cond (decide (r1=9)) ((Im n e.Op).bind λfa=>ay (b3 (fa.length+([40]:av3).length))<|ay (aM 0 e.ax.length)<|(ro (e.ax.getD 0 default)).bind λew=>ay (b3 ((fa++([40]:av3)).length+ew.length))<|ay (b3 (((fa++([40]:av3))++ew).length+([41]:av3).length))<|some (((fa++([40]:av3))++ew)++([41]:av3))) (cond (decide (r1=4)) (ay (aM 0 e.ax.length)<|(oA (e.ax.getD 0 default) 5).bind λr27=>ay (b3 (r27.length+([32]:av3).length))<|(Il n e.Op).bind λfO=>ay (b3 ((r27++([32]:av3)).length+fO.length))<|ay (b3 (((r27++([32]:av3))++fO).length+([32]:av3).length))<|ay (aM 1 e.ax.length)<|(oA (e.ax.getD 1 default) 5).bind λpi=>ay (b3 ((((r27++([32]:av3))++fO)++([32]:av3)).length+pi.length))<|some ((((r27++([32]:av3))++fO)++([32]:av3))++pi)) (ay (aM 0 e.ax.length)<|(oA (e.ax.getD 0 default) r1).bind λoB=>ay (b3 (oB.length+([32]:av3).length))<|(Il n e.Op).bind λqd=>ay (b3 ((oB++([32]:av3)).length+qd.length))<|ay (b3 (((oB++([32]:av3))++qd).length+([32]:av3).length))<|ay (aM 1 e.ax.length)<|(oA (e.ax.getD 1 default) (av5 (r1+1))).bind λhS=>ay (b3 ((((oB++([32]:av3))++qd)++([32]:av3)).length+hS.length))<|some ((((oB++([32]:av3))++qd)++([32]:av3))++hS)))))))))
def Io(ro:Expr→Option av3)(oA:Expr→Int→Option av3)(e:Expr)(least:Int):Option av3:=(Do n e.Op).bind λr1=>cond (decide (r1<least)) ((ro e).bind λr3=>ay (b3 (([40]:av3).length+r3.length))<|ay (b3 ((([40]:av3)++r3).length+([41]:av3).length))<|some ((([40]:av3)++r3)++([41]:av3))) ((ro e).bind λbj=>some bj)
def zc:Nat→(Expr→Option av3)×(Expr→Int→Option av3)
 | 0=>(λ_=>none,λ_ _=>none)
 |m+1=>(In m ((zc m).1) ((zc m).2),Io m ((zc m).1) ((zc m).2))
def mg:Expr→Option av3:=(zc n).1
def wA:Expr→Int→Option av3:=(zc n).2
def P_(s:Stmt)(b_:List Int)(ck:Int):Option (List Int):=(mg n (⟨s.A.Op,s.A.N,s.A.S,s.A.ax⟩:Expr)).bind λr1=>(mB n ([s.Name,([32,61,32]:av3),r1,([59]:av3)]:List av3) b_ ck).bind λr2=>some r2
def Qa(s:Stmt)(b_:List Int)(ck:Int):Option (List Int):=(mg n (⟨s.A.Op,s.A.N,s.A.S,s.A.ax⟩:Expr)).bind λr1=>(mB n ([([108,101,116,32]:av3),s.Name,([32,61,32]:av3),r1,([59]:av3)]:List av3) b_ ck).bind λr2=>some r2
def Qb(s:Stmt)(b_:List Int)(ck:Int):Option (List Int):=(mg n (⟨s.A.Op,s.A.N,s.A.S,s.A.ax⟩:Expr)).bind λr1=>(mB n ([([101,109,105,116,32]:av3),r1,([59]:av3)]:List av3) b_ ck).bind λr2=>some r2
def Qc(s:Stmt)(b_:List Int)(ck:Int):Option (List Int):=(mg n (⟨s.A.Op,s.A.N,s.A.S,s.A.ax⟩:Expr)).bind λr1=>(mg n (⟨s.B.Op,s.B.N,s.B.S,s.B.ax⟩:Expr)).bind λr2=>(mB n ([([112,117,116,32]:av3),r1,([32,61,32]:av3),r2,([59]:av3)]:List av3) b_ ck).bind λr3=>some r3
def Qd(s:Stmt)(b_:List Int)(ck:Int):Option (List Int):=(mg n (⟨s.A.Op,s.A.N,s.A.S,s.A.ax⟩:Expr)).bind λr1=>(mB n ([([100,101,108,101,116,101,32]:av3),r1,([59]:av3)]:List av3) b_ ck).bind λr2=>some r2
def Qe(n:Nat)(ik:(List Stmt)→(List Int)→Int→Option ((List Int)×Int))(iF:Stmt→(List Int)→Int→Option ((List Int)×Int))(iG:Stmt→(List Int)→Int→Option ((List Int)×Int))(m9:List Int)(sK:Int):Option ((List Int)×Int):=some (m9,(av5 (sK-1)))
def Qf(ik:(List Stmt)→(List Int)→Int→Option ((List Int)×Int))(iF:Stmt→(List Int)→Int→Option ((List Int)×Int))(iG:Stmt→(List Int)→Int→Option ((List Int)×Int))(l:List Stmt)(ak:(List Int)→Int→Int→Option ((List Int)×Int))(bF:List Int)(dv:Int)(a1:Int):Option ((List Int)×Int):=cond (decide (a1<((l.length:Nat):Int))) (ay (aM a1 l.length)<|(rl n ((av6 l a1).Op)).bind λfa=>iu.on fa (λajZ=>(Qa n (⟨(av6 l a1).Op,(av6 l a1).Name,(av6 l a1).Max,⟨((av6 l a1).A).Op,((av6 l a1).A).N,((av6 l a1).A).S,((av6 l a1).A).ax⟩,⟨((av6 l a1).B).Op,((av6 l a1).B).N,((av6 l a1).B).S,((av6 l a1).B).ax⟩,(av6 l a1).Body,(av6 l a1).bB⟩:Stmt) bF dv).bind λfw=>ak fw dv (av5 (a1+1))) (λZy=>iu.on Zy (λaj0=>(P_ n (⟨(av6 l a1).Op,(av6 l a1).Name,(av6 l a1).Max,⟨((av6 l a1).A).Op,((av6 l a1).A).N,((av6 l a1).A).S,((av6 l a1).A).ax⟩,⟨((av6 l a1).B).Op,((av6 l a1).B).N,((av6 l a1).B).S,((av6 l a1).B).ax⟩,(av6 l a1).Body,(av6 l a1).bB⟩:Stmt) bF dv).bind λew=>ak ew dv (av5 (a1+1))) (λZz=>iu.on Zz (λaj1=>(Qc n (⟨(av6 l a1).Op,(av6 l a1).Name,(av6 l a1).Max,⟨((av6 l a1).A).Op,((av6 l a1).A).N,((av6 l a1).A).S,((av6 l a1).A).ax⟩,⟨((av6 l a1).B).Op,((av6 l a1).B).N,((av6 l a1).B).S,((av6 l a1).B).ax⟩,(av6 l a1).Body,(av6 l a1).bB⟩:Stmt) bF dv).bind λfj=>ak fj dv (av5 (a1+1))) (λZA=>iu.on ZA (λaj2=>(Qd n (⟨(av6 l a1).Op,(av6 l a1).Name,(av6 l a1).Max,⟨((av6 l a1).A).Op,((av6 l a1).A).N,((av6 l a1).A).S,((av6 l a1).A).ax⟩,⟨((av6 l a1).B).Op,((av6 l a1).B).N,((av6 l a1).B).S,((av6 l a1).B).ax⟩,(av6 l a1).Body,(av6 l a1).bB⟩:Stmt) bF dv).bind λr24=>ak r24 dv (av5 (a1+1))) (λZB=>iu.on ZB (λaj3=>(iF (⟨(av6 l a1).Op,(av6 l a1).Name,(av6 l a1).Max,⟨((av6 l a1).A).Op,((av6 l a1).A).N,((av6 l a1).A).S,((av6 l a1).A).ax⟩,⟨((av6 l a1).B).Op,((av6 l a1).B).N,((av6 l a1).B).S,((av6 l a1).B).ax⟩,(av6 l a1).Body,(av6 l a1).bB⟩:Stmt) bF dv).bind λfM=>ak fM.1 fM.2 (av5 (a1+1))) (λZC=>iu.on ZC (λaj4=>(iG (⟨(av6 l a1).Op,(av6 l a1).Name,(av6 l a1).Max,⟨((av6 l a1).A).Op,((av6 l a1).A).N,((av6 l a1).A).S,((av6 l a1).A).ax⟩,⟨((av6 l a1).B).Op,((av6 l a1).B).N,((av6 l a1).B).S,((av6 l a1).B).ax⟩,(av6 l a1).Body,(av6 l a1).bB⟩:Stmt) bF dv).bind λr26=>ak r26.1 r26.2 (av5 (a1+1))) (λZD=>iu.on ZD (λaj5=>(Qb n (⟨(av6 l a1).Op,(av6 l a1).Name,(av6 l a1).Max,⟨((av6 l a1).A).Op,((av6 l a1).A).N,((av6 l a1).A).S,((av6 l a1).A).ax⟩,⟨((av6 l a1).B).Op,((av6 l a1).B).N,((av6 l a1).B).S,((av6 l a1).B).ax⟩,(av6 l a1).Body,(av6 l a1).bB⟩:Stmt) bF dv).bind λr27=>ak r27 dv (av5 (a1+1))) (λaj6=>(P3 n (⟨(av6 l a1).Op,(av6 l a1).Name,(av6 l a1).Max,⟨((av6 l a1).A).Op,((av6 l a1).A).N,((av6 l a1).A).S,((av6 l a1).A).ax⟩,⟨((av6 l a1).B).Op,((av6 l a1).B).N,((av6 l a1).B).S,((av6 l a1).B).ax⟩,(av6 l a1).Body,(av6 l a1).bB⟩:Stmt) bF dv).bind λpj=>ak pj dv (av5 (a1+1)))))))))) (Qe n ik iF iG bF dv)
def Dp(n:Nat)(ik:(List Stmt)→(List Int)→Int→Option ((List Int)×Int))(iF:Stmt→(List Int)→Int→Option ((List Int)×Int))(iG:Stmt→(List Int)→Int→Option ((List Int)×Int))(l:List Stmt):Nat→(List Int)→Int→Int→Option ((List Int)×Int)
 | 0=>λ_ _ _=>none
 |m+1=>Qf n ik iF iG l (Dp n ik iF iG l m)
def Ip(ik:(List Stmt)→(List Int)→Int→Option ((List Int)×Int))(iF:Stmt→(List Int)→Int→Option ((List Int)×Int))(iG:Stmt→(List Int)→Int→Option ((List Int)×Int))(l:List Stmt)(b_:List Int)(ck:Int):Option ((List Int)×Int):=Dp n ik iF iG l n b_ (av5 (ck+1)) 0
def Iq(ik:(List Stmt)→(List Int)→Int→Option ((List Int)×Int))(iF:Stmt→(List Int)→Int→Option ((List Int)×Int))(iG:Stmt→(List Int)→Int→Option ((List Int)×Int))(v6:List Int)(bD:Int):Option ((List Int)×Int):=(mB n ([([125]:av3)]:List av3) v6 bD).bind λcv=>some (cv,bD)
def Ir(ik:(List Stmt)→(List Int)→Int→Option ((List Int)×Int))(iF:Stmt→(List Int)→Int→Option ((List Int)×Int))(iG:Stmt→(List Int)→Int→Option ((List Int)×Int))(s:Stmt)(b_:List Int)(ck:Int):Option ((List Int)×Int):=(mg n (⟨s.A.Op,s.A.N,s.A.S,s.A.ax⟩:Expr)).bind λr1=>(mB n ([([105,102,32]:av3),r1,([32,123]:av3)]:List av3) b_ ck).bind λr2=>(ik s.Body r2 ck).bind λr3=>cond (decide (0<((s.bB.length:Nat):Int))) ((mB n ([([125,32,101,108,115,101,32,123]:av3)]:List av3) r3.1 r3.2).bind λaR=>(ik s.bB aR r3.2).bind λbZ=>Iq n ik iF iG bZ.1 bZ.2) (Iq n ik iF iG r3.1 r3.2)
def Is(ik:(List Stmt)→(List Int)→Int→Option ((List Int)×Int))(iF:Stmt→(List Int)→Int→Option ((List Int)×Int))(iG:Stmt→(List Int)→Int→Option ((List Int)×Int))(s:Stmt)(b_:List Int)(ck:Int):Option ((List Int)×Int):=(mg n (⟨s.A.Op,s.A.N,s.A.S,s.A.ax⟩:Expr)).bind λr1=>(mg n (⟨s.B.Op,s.B.N,s.B.S,s.B.ax⟩:Expr)).bind λr2=>(wz n s.Max).bind λr3=>(mB n ([([102,111,114,32]:av3),s.Name,([32,61,32]:av3),r1,([32,116,111,32]:av3),r2,([32,109,97,120,32]:av3),r3,([32,123]:av3)]:List av3) b_ ck).bind λaR=>(ik s.Body aR ck).bind λbZ=>(mB n ([([125]:av3)]:List av3) bZ.1 bZ.2).bind λbj=>some (bj,bZ.2)
def pk:Nat→((List Stmt)→(List Int)→Int→Option ((List Int)×Int))×(Stmt→(List Int)→Int→Option ((List Int)×Int))×(Stmt→(List Int)→Int→Option ((List Int)×Int))
 | 0=>(λ_ _ _=>none,λ_ _ _=>none,λ_ _ _=>none)
 |m+1=>(Ip m ((pk m).1) ((pk m).2.1) ((pk m).2.2),Ir m ((pk m).1) ((pk m).2.1) ((pk m).2.2),Is m ((pk m).1) ((pk m).2.1) ((pk m).2.2))
def rp:(List Stmt)→(List Int)→Int→Option ((List Int)×Int):=(pk n).1
def wB:Stmt→(List Int)→Int→Option ((List Int)×Int):=(pk n).2.1
def wC:Stmt→(List Int)→Int→Option ((List Int)×Int):=(pk n).2.2
def It(n:Nat)(b_:List Int)(ck:Int):Option (av3×(List Int)):=ay (nB b_&&decide (b_.length≤9223372036854775807))<|some (jX b_,b_)
def Qg(p:bg)(c6:List av3):Option av3:=(HL n c6 ([44,32]:av3)).bind λet=>(mB n ([([112,114,111,99,32]:av3),p.Name,([40]:av3),et,([41,32,123]:av3)]:List av3) ([]:List Int) 0).bind λfw=>(rp n p.Body fw 0).bind λew=>(mB n ([([125]:av3)]:List av3) ew.1 ew.2).bind λfj=>(It n fj ew.2).bind λr24=>some r24.1
def Qh(p:bg)(ak:Int→(List av3)→Option av3)(v10:Int)(v11:List av3):Option av3:=cond (decide (v10<((p.Params.length:Nat):Int))) (ay (aM v10 p.Params.length)<|ay (b3 (((av6 p.Params v10).Name).length+([58,32]:av3).length))<|(Ig n ((av6 p.Params v10).fy)).bind λeQ=>ay (b3 ((((av6 p.Params v10).Name)++([58,32]:av3)).length+eQ.length))<|ay (room (v11.length+([((((av6 p.Params v10).Name)++([58,32]:av3))++eQ)]:List av3).length) 16)<|ak (av5 (v10+1)) (v11++([((((av6 p.Params v10).Name)++([58,32]:av3))++eQ)]:List av3))) (Qg n p v11)
def Dq(n:Nat)(p:bg):Nat→Int→(List av3)→Option av3
 | 0=>λ_ _=>none
 |m+1=>Qh n p (Dq n p m)
def uj(p:bg):Option av3:=(Dh n p).bind λr1=>cond (!decide (r1=0)) (some ([]:av3)) (Dq n p n 0 ([]:List av3))
def Dr(n:Nat)(next:Int):av8:=some (cond (decide ((av5 (next-1))<8)) (av5 (next-1)) 8)
def Qi(n:Nat):av7:=some false
def Qj(n:Nat):av7:=some true
def Iu(o:Outcome)(e':Int→av7)(v4:Int):av7:=cond (decide (v4<((o.Out.length:Nat):Int))) (ay (aM v4 o.Out.length)<|(sJ n (av6 o.Out v4)).bind λbj=>cond (cond (!bj) true (decide ((av6 o.Out v4).Kind=0))) (some false) (e' (av5 (v4+1)))) (Qj n)
def wD(n:Nat)(o:Outcome):Nat→Int→av7
 | 0=>λ_=>none
 |m+1=>Iu n o (wD n o m)
def Ds(o:Outcome):av7:=cond (decide (o.Status=1)) (cond (cond (!decide (o.Code=0)) true (decide (16<((o.Out.length:Nat):Int)))) (some false) (wD n o n 0)) (cond (decide (o.Status=2)) (some (cond (cond (decide (0≤o.Code)) (decide (o.Code≤1009)) false) (decide (((o.Out.length:Nat):Int)=0)) false)) (Qi n))
def Qk(n:Nat):av7:=some true
def Iv(s:b0)(ak:Int→av7)(v6:Int):av7:=cond (decide (v6<((s.b'.length:Nat):Int))) (ay (aM v6 s.b'.length)<|Option.bind (cond (!(!((decide ((av6 s.b' v6).Client=s.Client))&&((decide ((av6 s.b' v6).Seq=(av5 ((av5 (s.Next-((s.b'.length:Nat):Int)))+v6))))&&true)))) (Ds n (⟨((av6 s.b' v6).Outcome).Status,((av6 s.b' v6).Outcome).Code,((av6 s.b' v6).Outcome).Out⟩:Outcome)) (some default)) λcv=>cond (cond (!((decide ((av6 s.b' v6).Client=s.Client))&&((decide ((av6 s.b' v6).Seq=(av5 ((av5 (s.Next-((s.b'.length:Nat):Int)))+v6))))&&true))) true (!cv)) (some false) (ak (av5 (v6+1)))) (Qk n)
def zd(n:Nat)(s:b0):Nat→Int→av7
 | 0=>λ_=>none
 |m+1=>Iv n s (zd n s m)
def Iw(s:b0):av7:=Option.bind (cond (!(cond (cond (cond (decide (s.Client<1)) true (decide (32<s.Client))) true (decide (s.Next<1))) true (decide (1099511627776<s.Next)))) (Dr n s.Next) (some default)) λr1=>cond (cond (cond (cond (cond (decide (s.Client<1)) true (decide (32<s.Client))) true (decide (s.Next<1))) true (decide (1099511627776<s.Next))) true (!decide (((s.b'.length:Nat):Int)=r1))) (some false) (zd n s n 0)
def Ql(n:Nat):av7:=some true
def Ix(l:List b0)(ak:Int→av7)(v5:Int):av7:=cond (decide (v5<((l.length:Nat):Int))) (ay (aM v5 l.length)<|(Iw n (av6 l v5)).bind λcC=>ay ((!cC)||(!(decide (0<v5))||aM (av5 (v5-1)) l.length))<|cond (cond (!cC) true (cond (decide (0<v5)) (decide ((av6 l v5).Client≤(av6 l (av5 (v5-1))).Client)) false)) (some false) (ak (av5 (v5+1)))) (Ql n)
def ze(n:Nat)(l:List b0):Nat→Int→av7
 | 0=>λ_=>none
 |m+1=>Ix n l (ze n l m)
def uk(l:List b0):av7:=ze n l n 0
def jF(s:av3)(b_:List Int):Option (Int×(List Int)):=(zb n b_).bind λr1=>ay (room (b_.length+s.length) 1)<|some (((s.length:Nat):Int),(b_++s.map λb=>(b.toNat:Int)))
def Qm(Iy:List Int):Option av3:=(rm n Iy).bind λZE=>some ZE.1
def Qn(n:Nat)(ak:(List Int)→Int→Option av3)(l:List b0)(fs:Int)(Iz:List Int):Option av3:=ak Iz (av5 (fs+1))
def Qo(n:Nat)(d_:(List Int)→Int→Option av3)(ak:(List Int)→Int→Option av3)(l:List b0)(fs:Int)(iH:Int)(v109:List Int):Option av3:=d_ v109 (av5 (iH+1))
def IA(d_:(List Int)→Int→Option av3)(ak:(List Int)→Int→Option av3)(l:List b0)(fs:Int)(iH:Int)(rq:(List Int)→Int→Option av3)(Dt:List Int)(wE:Int):Option av3:=cond (decide (wE<(((((((av6 l fs).b').getD (iH).toNat default).Outcome).Out).length:Nat):Int))) (ay (aM wE (((((av6 l fs).b').getD (iH).toNat default).Outcome).Out).length)<|(ww n ((((((av6 l fs).b').getD (iH).toNat default).Outcome).Out).getD (wE).toNat default)).bind λul=>(jF n ul Dt).bind λZF=>rq ZF.2 (av5 (wE+1))) (Qo n d_ ak l fs iH Dt)
def wF(n:Nat)(d_:(List Int)→Int→Option av3)(ak:(List Int)→Int→Option av3)(l:List b0)(fs:Int)(iH:Int):Nat→(List Int)→Int→Option av3
 | 0=>λ_ _=>none
 |m+1=>IA n d_ ak l fs iH (wF n d_ ak l fs iH m)
def IB(ak:(List Int)→Int→Option av3)(l:List b0)(fs:Int)(d_:(List Int)→Int→Option av3)(Du:List Int)(iH:Int):Option av3:=cond (decide (iH<((((av6 l fs).b').length:Nat):Int))) (ay (aM iH ((av6 l fs).b').length)<|(hQ n (IntKind.u64.wrap (((((av6 l fs).b').getD (iH).toNat default).Outcome).Status))).bind λzf=>(hQ n (IntKind.u64.wrap (((((av6 l fs).b').getD (iH).toNat default).Outcome).Code))).bind λwG=>ay (b3 (zf.length+wG.length))<|(hQ n (IntKind.u64.wrap (((((((av6 l fs).b').getD (iH).toNat default).Outcome).Out).length:Nat):Int))).bind λQp=>ay (b3 ((zf++wG).length+Qp.length))<|(jF n ((zf++wG)++Qp) Du).bind λIC=>wF n d_ ak l fs iH n IC.2 0) (Qn n ak l fs Du)
def wH(n:Nat)(ak:(List Int)→Int→Option av3)(l:List b0)(fs:Int):Nat→(List Int)→Int→Option av3
 | 0=>λ_ _=>none
 |m+1=>IB n ak l fs (wH n ak l fs m)
def ID(l:List b0)(ak:(List Int)→Int→Option av3)(v59:List Int)(fs:Int):Option av3:=cond (decide (fs<((l.length:Nat):Int))) (ay (aM fs l.length)<|(hQ n (IntKind.u64.wrap ((av6 l fs).Client))).bind λQq=>(hQ n (IntKind.u64.wrap ((av6 l fs).Next))).bind λDv=>ay (b3 (Qq.length+Dv.length))<|(jF n (Qq++Dv) v59).bind λum=>wH n ak l fs n um.2 0) (Qm n v59)
def zg(n:Nat)(l:List b0):Nat→(List Int)→Int→Option av3
 | 0=>λ_ _=>none
 |m+1=>ID n l (zg n l m)
def Dw(l:List b0):Option av3:=(uk n l).bind λr1=>cond (!r1) (some ([]:av3)) ((hQ n (IntKind.u64.wrap ((l.length:Nat):Int))).bind λr3=>(jF n r3 ([]:List Int)).bind λaR=>zg n l n aR.2 0)
def Qr(c6:List Int):Option av3:=(rm n c6).bind λet=>some et.1
def IE(l:List aU)(ak:(List Int)→Int→Option av3)(v10:List Int)(v11:Int):Option av3:=cond (decide (v11<((l.length:Nat):Int))) (ay (aM v11 l.length)<|(oz n ((av6 l v11).Key)).bind λdX=>(jF n dX v10).bind λeQ=>(ww n (⟨((av6 l v11).bk).Kind,((av6 l v11).bk).N,((av6 l v11).bk).S⟩:bH)).bind λdY=>(jF n dY eQ.2).bind λdT=>ak dT.2 (av5 (v11+1))) (Qr n v10)
def zh(n:Nat)(l:List aU):Nat→(List Int)→Int→Option av3
 | 0=>λ_ _=>none
 |m+1=>IE n l (zh n l m)
def IF(l:List aU):Option av3:=(hQ n (IntKind.u64.wrap ((l.length:Nat):Int))).bind λr1=>(jF n r1 ([]:List Int)).bind λr2=>zh n l n r2.2 0
def Dx(ah:bC)(IG:List Int):Option av3:=(y1 n ah.Queue).bind λDy=>(jF n Dy IG).bind λoC=>(hQ n ah.cg).bind λrr=>(jF n rr oC.2).bind λIH=>(rm n IH.2).bind λDz=>some Dz.1
def II(ah:bC)(e':(List Int)→Int→Option av3)(DA:List Int)(v37:Int):Option av3:=cond (decide (v37<((ah.bc.length:Nat):Int))) (ay (aM v37 ah.bc.length)<|(oz n ((av6 ah.bc v37).Key)).bind λzi=>(jF n zi DA).bind λwI=>(rk n ((av6 ah.bc v37).Count)).bind λnG=>(jF n nG wI.2).bind λhS=>e' hS.2 (av5 (v37+1))) (Dx n ah DA)
def zj(n:Nat)(ah:bC):Nat→(List Int)→Int→Option av3
 | 0=>λ_ _=>none
 |m+1=>II n ah (zj n ah m)
def zk(ah:bC)(v22:List Int):Option av3:=(Dw n ah.bU).bind λfj=>(jF n fj v22).bind λr24=>(Db n ah.Place).bind λfM=>(jF n fM r24.2).bind λr26=>(hQ n (IntKind.u64.wrap ((ah.bc.length:Nat):Int))).bind λr27=>(jF n r27 r26.2).bind λpj=>zj n ah n pj.2 0
def IJ(ah:bC)(d_:(List Int)→Int→Option av3)(bR:List Int)(bF:Int):Option av3:=cond (decide (bF<((ah.bP.length:Nat):Int))) (ay (aM bF ah.bP.length)<|(uj n (av6 ah.bP bF)).bind λfk=>(oz n fk).bind λgw=>(jF n gw bR).bind λfa=>d_ fa.2 (av5 (bF+1))) (zk n ah bR)
def zl(n:Nat)(ah:bC):Nat→(List Int)→Int→Option av3
 | 0=>λ_ _=>none
 |m+1=>IJ n ah (zl n ah m)
def zm(ah:bC):Option av3:=(y4 n ah.aq ah.Pos).bind λr1=>(rk n ah.Pos).bind λr2=>(jF n r2 ([]:List Int)).bind λr3=>(IF n r1.1).bind λaR=>(jF n aR r3.2).bind λbZ=>(hQ n (IntKind.u64.wrap ((ah.bP.length:Nat):Int))).bind λbj=>(jF n bj bZ.2).bind λcC=>zl n ah n cC.2 0
def zn(n:Nat)(bA:Int):av8:=some bA
def Qs(n:Nat)(p:aU):av7:=some (decide (p.bk.Kind=0))
def Qt(n:Nat):av8:=some (-1)
def IK(s:List aU)(ak:Int→av8)(v4:Int):av8:=cond (decide (v4<((s.length:Nat):Int))) (ay (aM v4 s.length)<|(Qs n (av6 s v4)).bind λbj=>cond bj (some v4) (ak (av5 (v4+1)))) (Qt n)
def zo(n:Nat)(s:List aU):Nat→Int→av8
 | 0=>λ_=>none
 |m+1=>IK n s (zo n s m)
def Qu(s:List aU):av8:=zo n s n 0
def Qv(s:List aU):av7:=(Qu n s).bind λr1=>some (decide (0≤r1))
def Qw(n:Nat):av7:=some true
def IL(l:List aU)(ak:Int→av7)(v6:Int):av7:=cond (decide (v6<((l.length:Nat):Int))) (ay (aM v6 l.length)<|(wv n ((av6 l v6).Key)).bind λcv=>Option.bind (cond (!(!cv)) (sJ n (⟨((av6 l v6).bk).Kind,((av6 l v6).bk).N,((av6 l v6).bk).S⟩:bH)) (some default)) λcM=>ay ((cond (!cv) true (!cM))||(!(decide (0<v6))||aM (av5 (v6-1)) l.length))<|cond (cond (cond (!cv) true (!cM)) true (cond (decide (0<v6)) (!(Op.bytesLess ((av6 l (av5 (v6-1))).Key) ((av6 l v6).Key))) false)) (some false) (ak (av5 (v6+1)))) (Qw n)
def zp(n:Nat)(l:List aU):Nat→Int→av7
 | 0=>λ_=>none
 |m+1=>IL n l (zp n l m)
def IM(l:List aU):av7:=zp n l n 0
def DB(l:List aU):av7:=(IM n l).bind λr1=>Option.bind (cond r1 (Qv n l) (some default)) λr2=>some (cond r1 (!r2) false)
def Qx(n:Nat)(eW:Int):Option bH:=some (⟨1,eW,[]⟩:bH)
def DC(n:Nat)(s:av3)(at_:Int):av7:=some (cond (decide (at_<0)) true (decide (((s.length:Nat):Int)<at_)))
def ZG(n:Nat):Option (Int×Int×Int):=some (0,0,5)
def Qy(s:av3)(at_:Int)(ak:Int→Int→Option (Int×Int×Int))(bD:Int)(bE:Int):Option (Int×Int×Int):=cond (decide (bD<10)) (cond (decide (((s.length:Nat):Int)≤(av5 (at_+bD)))) (some (0,0,6)) (ay (aM (av5 (at_+bD)) s.length)<|cond (cond (cond (decide (bD=9)) (decide (1<(((s.getD ((av5 (at_+bD))).toNat 0).toNat:Nat):Int))) false) true (cond (decide ((((s.getD ((av5 (at_+bD))).toNat 0).toNat:Nat):Int)=0)) (decide (0<bD)) false)) (some (0,0,5)) (ay (oa (av5 (7*bD)))<|cond (decide ((((s.getD ((av5 (at_+bD))).toNat 0).toNat:Nat):Int)<128)) (some ((qP .u64 bE (oU .u64 (IntKind.u64.wrap (pM .u8 (((s.getD ((av5 (at_+bD))).toNat 0).toNat:Nat):Int) 127)) (av5 (7*bD)))),(av5 ((av5 (at_+bD))+1)),0)) (ak (av5 (bD+1)) (qP .u64 bE (oU .u64 (IntKind.u64.wrap (pM .u8 (((s.getD ((av5 (at_+bD))).toNat 0).toNat:Nat):Int) 127)) (av5 (7*bD)))))))) (ZG n)
def DD(n:Nat)(s:av3)(at_:Int):Nat→Int→Int→Option (Int×Int×Int)
 | 0=>λ_ _=>none
 |m+1=>Qy n s at_ (DD n s at_ m)
def sL(s:av3)(at_:Int):Option (Int×Int×Int):=(DC n s at_).bind λr1=>cond r1 (some (0,0,1)) (DD n s at_ n 0 0)
def zq(s:av3)(at_:Int):Option (Int×Int×Int):=(sL n s at_).bind λr1=>cond (!decide (r1.2.2=0)) (some (0,0,r1.2.2)) (some ((mW .i64 (av5 (nr .u64 r1.1 1)) (av5 (0-(av5 (pM .u64 r1.1 1))))),r1.2.1,0))
def pm(s:av3)(at_:Int)(bA:Int):Option (Int×Int×Int):=(sL n s at_).bind λr1=>cond (!decide (r1.2.2=0)) (some (0,0,r1.2.2)) (cond (cond (decide (bA<0)) true (decide ((IntKind.u64.wrap bA)<r1.1))) (some (0,0,2)) (cond (decide ((IntKind.u64.wrap (av5 (((s.length:Nat):Int)-r1.2.1)))<r1.1)) (some (0,0,6)) (some ((av5 r1.1),r1.2.1,0))))
def sM(s:av3)(at_:Int)(bA:Int):Option (av3×Int×Int):=(pm n s at_ bA).bind λr1=>cond (!decide (r1.2.2=0)) (some (([]:av3),0,r1.2.2)) (ay (l5 r1.2.1 (av5 (r1.2.1+r1.1)) s.length)<|some (((s.take ((av5 (r1.2.1+r1.1))).toNat).drop (r1.2.1).toNat),(av5 (r1.2.1+r1.1)),0))
def DE(n:Nat)(cM:av3×Int×Int)(v11:Int):Option (bH×Int×Int):=cond (!decide (v11=0)) (some ((⟨0,0,[]⟩:bH),0,v11)) (some ((⟨2,0,cM.1⟩:bH),cM.2.1,0))
def zr(s:av3)(at_:Int):Option (bH×Int×Int):=(sL n s at_).bind λr1=>cond (!decide (r1.2.2=0)) (some ((⟨0,0,[]⟩:bH),0,r1.2.2)) (cond (decide (r1.1=0)) (some ((⟨0,0,[]⟩:bH),r1.2.1,0)) (cond (decide (r1.1=1)) ((zq n s r1.2.1).bind λbZ=>cond (!decide (bZ.2.2=0)) (some ((⟨0,0,[]⟩:bH),0,bZ.2.2)) ((Qx n bZ.1).bind λcC=>some (cC,bZ.2.1,0))) (cond (decide (r1.1=2)) ((sM n s r1.2.1 64).bind λcM=>Option.bind (cond (decide (cM.2.2=0)) (C5 n cM.1) (some default)) λdx=>cond (cond (decide (cM.2.2=0)) (!dx) false) (DE n cM 5) (DE n cM cM.2.2)) (some ((⟨0,0,[]⟩:bH),0,5)))))
def IN(cj:Int)(c6:List aU):Option ((List aU)×Int×Int):=(DB n c6).bind λet=>cond (!et) (some (([]:List aU),0,5)) (some (c6,cj,0))
def IP(s:av3)(r1:Int×Int×Int)(ak:Int→Int→(List aU)→Option ((List aU)×Int×Int))(v9:Int)(v10:Int)(v11:List aU):Option ((List aU)×Int×Int):=cond (decide (v10<r1.1)) ((sM n s v9 24).bind λeJ=>cond (!decide (eJ.2.2=0)) (some (([]:List aU),0,eJ.2.2)) ((zr n s eJ.2.1).bind λdX=>cond (!decide (dX.2.2=0)) (some (([]:List aU),0,dX.2.2)) (ay (room (v11.length+([(⟨eJ.1,dX.1⟩:aU)]:List aU).length) 48)<|ak dX.2.1 (av5 (v10+1)) (v11++([(⟨eJ.1,dX.1⟩:aU)]:List aU))))) (IN n v9 v11)
def wJ(n:Nat)(s:av3)(r1:Int×Int×Int):Nat→Int→Int→(List aU)→Option ((List aU)×Int×Int)
 | 0=>λ_ _ _=>none
 |m+1=>IP n s r1 (wJ n s r1 m)
def IQ(s:av3)(at_:Int):Option ((List aU)×Int×Int):=(pm n s at_ 2147483647).bind λr1=>cond (!decide (r1.2.2=0)) (some (([]:List aU),0,r1.2.2)) (wJ n s r1 n r1.2.1 0 ([]:List aU))
def zt(ag:fv):Option ((List aU)×Int×Int):=cond (!decide (ag.e=0)) (some (([]:List aU),ag.at_,ag.e)) ((IQ n ag.s ag.at_).bind λr2=>cond (!decide (r2.2.2=0)) (some (([]:List aU),ag.at_,r2.2.2)) (some (r2.1,r2.2.1,r2.2.2)))
def Qz(n:Nat)(s:av3):av7:=some (decide (((s.length:Nat):Int)≤24))
def IR(s:av3)(ak:Int→av7)(v4:Int):av7:=cond (decide (v4<((s.length:Nat):Int))) (ay (aM v4 s.length)<|ay ((decide ((((s.getD (v4).toNat 0).toNat:Nat):Int)<33))||aM v4 s.length)<|cond (cond (decide ((((s.getD (v4).toNat 0).toNat:Nat):Int)<33)) true (decide (126<(((s.getD (v4).toNat 0).toNat:Nat):Int)))) (some false) (ak (av5 (v4+1)))) (Qz n s)
def zu(n:Nat)(s:av3):Nat→Int→av7
 | 0=>λ_=>none
 |m+1=>IR n s (zu n s m)
def DF(s:av3):av7:=zu n s n 0
def QA(n:Nat)(x:Part)(ag:Int):av7:=some (decide (x.Id=ag))
def QB(n:Nat)(ag:Int):av8:=some (-1)
def IS(s:List Part)(ag:Int)(ak:Int→av8)(v4:Int):av8:=cond (decide (v4<((s.length:Nat):Int))) (ay (aM v4 s.length)<|(QA n (av6 s v4) ag).bind λbj=>cond bj (some v4) (ak (av5 (v4+1)))) (QB n ag)
def zv(n:Nat)(s:List Part)(ag:Int):Nat→Int→av8
 | 0=>λ_=>none
 |m+1=>IS n s ag (zv n s ag m)
def QC(s:List Part)(ag:Int):av8:=zv n s ag n 0
def QD(l:List Part)(id:Int):av8:=(QC n l id).bind λr1=>some r1
def DG(n:Nat)(eW:Int):av7:=some (cond (decide (1≤eW)) (decide (eW≤16)) false)
def QE(n:Nat)(eW:Int):av7:=some (cond (decide (1≤eW)) (decide (eW≤1099511627776)) false)
def IT(l:List Part)(i:Int):av7:=ay (aM i l.length)<|cond (decide ((av6 l i).fH=0)) (some (decide (((av6 l i).dI)=([]:av3)))) ((DG n ((av6 l i).fH)).bind λr3=>Option.bind (cond (cond r3 (!decide ((av6 l i).fH=(av6 l i).Node)) false) (DF n ((av6 l i).dI)) (some default)) λaR=>ay (!(cond (cond (cond r3 (!decide ((av6 l i).fH=(av6 l i).Node)) false) aR false) (!(Op.bytesLess ((av6 l i).dI) ((av6 l i).dR))) false)||((decide ((av5 (i+1))=((l.length:Nat):Int)))||aM (av5 (i+1)) l.length))<|some (cond (cond (cond (cond r3 (!decide ((av6 l i).fH=(av6 l i).Node)) false) aR false) (!(Op.bytesLess ((av6 l i).dI) ((av6 l i).dR))) false) (cond (decide ((av5 (i+1))=((l.length:Nat):Int))) true (Op.bytesLess ((av6 l i).dI) ((av6 l (av5 (i+1))).dR))) false))
def QF(n:Nat):av7:=some true
def IU(p:b8)(ak:Int→av7)(v12:Int):av7:=cond (decide (v12<((p.aE.length:Nat):Int))) (ay (aM v12 p.aE.length)<|Option.bind (cond (decide (0<v12)) (DF n ((av6 p.aE v12).dR)) (some default)) λeQ=>ay (!(decide (0<v12))||((!eQ)||aM (av5 (v12-1)) p.aE.length))<|cond (cond (decide (0<v12)) (cond (!eQ) true ((Op.bytesLess ((av6 p.aE v12).dR) ((av6 p.aE (av5 (v12-1))).dR))||(decide (((av6 p.aE v12).dR)=((av6 p.aE (av5 (v12-1))).dR))))) false) (some false) ((QE n ((av6 p.aE v12).Id)).bind λdT=>Option.bind (cond (!(!dT)) (DG n ((av6 p.aE v12).Node)) (some default)) λfk=>Option.bind (cond (!(cond (!dT) true (!fk))) (IT n p.aE v12) (some default)) λgw=>ay ((cond (cond (!dT) true (!fk)) true (!gw))||gV v12 p.aE.length)<|Option.bind (cond (!(cond (cond (!dT) true (!fk)) true (!gw))) (QD n (p.aE.take (v12).toNat) ((av6 p.aE v12).Id)) (some default)) λet=>cond (cond (cond (cond (!dT) true (!fk)) true (!gw)) true (decide (0≤et))) (some false) (ak (av5 (v12+1))))) (QF n)
def wK(n:Nat)(p:b8):Nat→Int→av7
 | 0=>λ_=>none
 |m+1=>IU n p (wK n p m)
def DH(p:b8):av7:=ay ((cond (cond (cond (decide (p.Version<0)) true (decide (1099511627776<p.Version))) true (decide (((p.aE.length:Nat):Int)<1))) true (decide (16<((p.aE.length:Nat):Int))))||aM 0 p.aE.length)<|cond (cond (cond (cond (cond (decide (p.Version<0)) true (decide (1099511627776<p.Version))) true (decide (((p.aE.length:Nat):Int)<1))) true (decide (16<((p.aE.length:Nat):Int)))) true (!(decide (((p.aE.getD 0 default).dR)=([]:av3))))) (some false) (wK n p n 0)
def sN(ag:pe):Option (Int×Int×Int):=cond (!decide (ag.e=0)) (some (0,ag.at_,ag.e)) ((zq n ag.s ag.at_).bind λr2=>some (r2.1,r2.2.1,r2.2.2))
def wL(ag:pe):Option (av3×Int×Int):=cond (!decide (ag.e=0)) (some (([]:av3),ag.at_,ag.e)) ((sM n ag.s ag.at_ 24).bind λr2=>some (r2.1,r2.2.1,r2.2.2))
def IV(n:Nat)(s:av3)(v28:Int)(r1:Int×Int×Int)(v30:List Part)(m9:Int):Option (b8×Int×Int):=cond (!decide (m9=0)) (some ((⟨0,[]⟩:b8),0,m9)) (some ((⟨r1.1,v30⟩:b8),v28,0))
def DI(s:av3)(r1:Int×Int×Int)(v28:Int)(hR:Int)(v30:List Part):Option (b8×Int×Int):=Option.bind (cond (decide (hR=0)) (DH n (⟨r1.1,v30⟩:b8)) (some default)) λgC=>cond (cond (decide (hR=0)) (!gC) false) (IV n s v28 r1 v30 5) (IV n s v28 r1 v30 hR)
def zw(r3:Int×Int×Int)(s:av3)(r1:Int×Int×Int)(e':Int→Int→(List Part)→Int→Option (b8×Int×Int))(bR:Int)(bF:Int)(dv:List Part)(a1:Int):Option (b8×Int×Int):=cond (decide (a1<r3.1)) ((sN n (⟨s,bR,bF⟩:pe)).bind λgw=>(wL n (⟨s,gw.2.1,gw.2.2⟩:pe)).bind λfa=>(sN n (⟨s,fa.2.1,fa.2.2⟩:pe)).bind λet=>(sN n (⟨s,et.2.1,et.2.2⟩:pe)).bind λfw=>(wL n (⟨s,fw.2.1,fw.2.2⟩:pe)).bind λew=>ay (room (dv.length+([(⟨gw.1,fa.1,et.1,fw.1,ew.1⟩:Part)]:List Part).length) 56)<|e' ew.2.1 ew.2.2 (dv++([(⟨gw.1,fa.1,et.1,fw.1,ew.1⟩:Part)]:List Part)) (av5 (a1+1))) (DI n s r1 bR bF dv)
def sO(n:Nat)(r3:Int×Int×Int)(s:av3)(r1:Int×Int×Int):Nat→Int→Int→(List Part)→Int→Option (b8×Int×Int)
 | 0=>λ_ _ _ _=>none
 |m+1=>zw n r3 s r1 (sO n r3 s r1 m)
def IW(s:av3)(at_:Int):Option (b8×Int×Int):=(sN n (⟨s,at_,0⟩:pe)).bind λr1=>cond (!decide (r1.2.2=0)) (some ((⟨0,[]⟩:b8),0,r1.2.2)) ((pm n s r1.2.1 16).bind λr3=>sO n r3 s r1 n r3.2.1 r3.2.2 ([]:List Part) 0)
def zx(ag:fv):Option (b8×Int×Int):=cond (!decide (ag.e=0)) (some ((⟨0,[]⟩:b8),ag.at_,ag.e)) ((IW n ag.s ag.at_).bind λr2=>cond (!decide (r2.2.2=0)) (some ((⟨0,[]⟩:b8),ag.at_,r2.2.2)) (some (r2.1,r2.2.1,r2.2.2)))
def qe(n:Nat)(next:Int)(e:Int)(ag:h4):Option (Int×Int):=some (next,e)
def wM(bA:Int)(ag:h4):Option (Int×Int×Int):=cond (!decide (ag.e=0)) (some (0,ag.at_,ag.e)) ((pm n ag.s ag.at_ bA).bind λr2=>(qe n r2.2.1 r2.2.2 ag).bind λr3=>some (r2.1,r3.1,r3.2))
def IX(s:av3)(at_:Int):Option (Bool×Int×Int):=(DC n s at_).bind λr1=>cond r1 (some (false,0,1)) (cond (decide (at_=((s.length:Nat):Int))) (some (false,0,6)) (ay (aM at_ s.length)<|cond (decide (1<(((s.getD (at_).toNat 0).toNat:Nat):Int))) (some (false,0,5)) (ay (aM at_ s.length)<|some ((decide ((((s.getD (at_).toNat 0).toNat:Nat):Int)=1)),(av5 (at_+1)),0))))
def zy(ag:h4):Option (Bool×Int×Int):=cond (!decide (ag.e=0)) (some (false,ag.at_,ag.e)) ((IX n ag.s ag.at_).bind λr2=>(qe n r2.2.1 r2.2.2 ag).bind λr3=>some (r2.1,r3.1,r3.2))
def wN(bA:Int)(ag:h4):Option (av3×Int×Int):=cond (!decide (ag.e=0)) (some (([]:av3),ag.at_,ag.e)) ((sM n ag.s ag.at_ bA).bind λr2=>(qe n r2.2.1 r2.2.2 ag).bind λr3=>some (r2.1,r3.1,r3.2))
def IY(n:Nat)(ag:h4)(cj:Int)(c6:Int)(v20:List av3):Option ((List av3)×Int×Int):=some (v20,cj,c6)
def zz(r1:Int×Int×Int)(ag:h4)(ak:Int→Int→(List av3)→Int→Option ((List av3)×Int×Int))(bE:Int)(v9:Int)(v10:List av3)(v11:Int):Option ((List av3)×Int×Int):=cond (decide (v11<r1.1)) ((wN n 24 (⟨ag.s,bE,v9⟩:h4)).bind λeJ=>ay (room (v10.length+([eJ.1]:List av3).length) 16)<|ak eJ.2.1 eJ.2.2 (v10++([eJ.1]:List av3)) (av5 (v11+1))) (IY n ag bE v9 v10)
def sP(n:Nat)(r1:Int×Int×Int)(ag:h4):Nat→Int→Int→(List av3)→Int→Option ((List av3)×Int×Int)
 | 0=>λ_ _ _ _=>none
 |m+1=>zz n r1 ag (sP n r1 ag m)
def un(ag:h4):Option ((List av3)×Int×Int):=(wM n 64 ag).bind λr1=>sP n r1 ag n r1.2.1 r1.2.2 ([]:List av3) 0
def wO(ag:h4):Option (Int×Int×Int):=cond (!decide (ag.e=0)) (some (0,ag.at_,ag.e)) ((sL n ag.s ag.at_).bind λr2=>(qe n r2.2.1 r2.2.2 ag).bind λr3=>some (r2.1,r3.1,r3.2))
def zA(ag:h4):Option (bH×Int×Int):=cond (!decide (ag.e=0)) (some ((⟨0,0,[]⟩:bH),ag.at_,ag.e)) ((zr n ag.s ag.at_).bind λr2=>(qe n r2.2.1 r2.2.2 ag).bind λr3=>some (r2.1,r3.1,r3.2))
def sQ(r1:Int×Int×Int)(r2:Int×Int×Int)(s:av3)(r3:av3×Int×Int)(v23:List bH)(r24:Bool×Int×Int)(nH:Int)(v28:Int)(hR:List av3)(v30:List av3):Option (Request×Int×Int):=cond (!decide (v28=0)) (some ((⟨0,0,[],[],false,⟨false,[],[]⟩⟩:Request),0,v28)) (cond (cond (decide (32<r1.1)) true (decide (1099511627776<r2.1))) (some ((⟨0,0,[],[],false,⟨false,[],[]⟩⟩:Request),0,5)) ((pg n (⟨(av5 r1.1),(av5 r2.1),r3.1,v23,r24.1,⟨false,hR,v30⟩⟩:Request)).bind λpi=>cond (!decide (pi=0)) (some ((⟨0,0,[],[],false,⟨false,[],[]⟩⟩:Request),0,5)) (some ((⟨(av5 r1.1),(av5 r2.1),r3.1,v23,r24.1,⟨false,hR,v30⟩⟩:Request),nH,0))))
def zB(r1:Int×Int×Int)(r2:Int×Int×Int)(s:av3)(r3:av3×Int×Int)(v21:Int)(v22:Int)(v23:List bH):Option (Request×Int×Int):=(zy n (⟨s,v21,v22⟩:h4)).bind λr24=>cond r24.1 ((un n (⟨s,r24.2.1,r24.2.2⟩:h4)).bind λfM=>(un n (⟨s,fM.2.1,fM.2.2⟩:h4)).bind λr26=>sQ n r1 r2 s r3 v23 r24 r26.2.1 r26.2.2 fM.1 r26.1) (sQ n r1 r2 s r3 v23 r24 r24.2.1 r24.2.2 ([]:List av3) ([]:List av3))
def zC(r1:Int×Int×Int)(r2:Int×Int×Int)(aR:Int×Int×Int)(s:av3)(r3:av3×Int×Int)(e':Int→Int→(List bH)→Int→Option (Request×Int×Int))(v11:Int)(v12:Int)(cr:List bH)(bR:Int):Option (Request×Int×Int):=cond (decide (bR<aR.1)) ((zA n (⟨s,v11,v12⟩:h4)).bind λdY=>ay (room (cr.length+([dY.1]:List bH).length) 32)<|e' dY.2.1 dY.2.2 (cr++([dY.1]:List bH)) (av5 (bR+1))) (zB n r1 r2 s r3 v11 v12 cr)
def sR(n:Nat)(r1:Int×Int×Int)(r2:Int×Int×Int)(aR:Int×Int×Int)(s:av3)(r3:av3×Int×Int):Nat→Int→Int→(List bH)→Int→Option (Request×Int×Int)
 | 0=>λ_ _ _ _=>none
 |m+1=>zC n r1 r2 aR s r3 (sR n r1 r2 aR s r3 m)
def IZ(s:av3)(at_:Int):Option (Request×Int×Int):=(wO n (⟨s,at_,0⟩:h4)).bind λr1=>(wO n (⟨s,r1.2.1,r1.2.2⟩:h4)).bind λr2=>(wN n 16 (⟨s,r2.2.1,r2.2.2⟩:h4)).bind λr3=>(wM n 6 (⟨s,r3.2.1,r3.2.2⟩:h4)).bind λaR=>sR n r1 r2 aR s r3 n aR.2.1 aR.2.2 ([]:List bH) 0
def QG(n:Nat)(dv:List Request)(a1:Int):Option ((List Request)×Int×Int):=some (dv,a1,0)
def I0(s:av3)(r1:Int×Int×Int)(ak:(List Request)→Int→Int→Option ((List Request)×Int×Int))(bE:List Request)(v9:Int)(v10:Int):Option ((List Request)×Int×Int):=cond (decide (v9<r1.1)) ((IZ n s v10).bind λb4=>cond (!decide (b4.2.2=0)) (some (([]:List Request),0,b4.2.2)) (ay (room (bE.length+([b4.1]:List Request).length) 120)<|ak (bE++([b4.1]:List Request)) (av5 (v9+1)) b4.2.1)) (QG n bE v10)
def wP(n:Nat)(s:av3)(r1:Int×Int×Int):Nat→(List Request)→Int→Int→Option ((List Request)×Int×Int)
 | 0=>λ_ _ _=>none
 |m+1=>I0 n s r1 (wP n s r1 m)
def I1(s:av3)(at_:Int):Option ((List Request)×Int×Int):=(pm n s at_ 64).bind λr1=>cond (!decide (r1.2.2=0)) (some (([]:List Request),0,r1.2.2)) (wP n s r1 n ([]:List Request) 0 r1.2.1)
def zD(ag:fv):Option ((List Request)×Int×Int):=cond (!decide (ag.e=0)) (some (([]:List Request),ag.at_,ag.e)) ((I1 n ag.s ag.at_).bind λr2=>cond (!decide (r2.2.2=0)) (some (([]:List Request),ag.at_,r2.2.2)) (some (r2.1,r2.2.1,r2.2.2)))
def zE(n:Nat)(r2:Int×Int×Int)(ag:la)(v3:Int):Option (Int×Int×Int):=cond (!decide (v3=0)) (some (0,ag.at_,v3)) (some ((av5 r2.1),r2.2.1,v3))
def sS(least:Int)(bA:Int)(ag:la):Option (Int×Int×Int):=cond (!decide (ag.e=0)) (some (0,ag.at_,ag.e)) ((sL n ag.s ag.at_).bind λr2=>cond (cond (decide (r2.2.2=0)) (cond (decide (r2.1<least)) true (decide (bA<r2.1))) false) (zE n r2 ag 5) (zE n r2 ag r2.2.2))
def DJ(n:Nat)(ag:la)(r1:Int×Int×Int)(r2:Int×Int×Int)(v21:Int)(v22:Int)(v23:List bH):Option (Outcome×Int×Int):=some ((⟨r1.1,r2.1,v23⟩:Outcome),v21,v22)
def zF(aR:Int×Int×Int)(ag:la)(r1:Int×Int×Int)(r2:Int×Int×Int)(ak:Int→Int→(List bH)→Int→Option (Outcome×Int×Int))(v11:Int)(v12:Int)(cr:List bH)(bR:Int):Option (Outcome×Int×Int):=cond (cond (decide (bR<aR.1)) (decide (v12=0)) false) ((zr n ag.s v11).bind λdY=>ay (room (cr.length+([dY.1]:List bH).length) 32)<|ak dY.2.1 dY.2.2 (cr++([dY.1]:List bH)) (av5 (bR+1))) (DJ n ag r1 r2 v11 v12 cr)
def uo(n:Nat)(aR:Int×Int×Int)(ag:la)(r1:Int×Int×Int)(r2:Int×Int×Int):Nat→Int→Int→(List bH)→Int→Option (Outcome×Int×Int)
 | 0=>λ_ _ _ _=>none
 |m+1=>zF n aR ag r1 r2 (uo n aR ag r1 r2 m)
def DK(ag:la):Option (Outcome×Int×Int):=(sS n 0 9999 ag).bind λr1=>(sS n 0 9999 (⟨ag.s,r1.2.1,r1.2.2⟩:la)).bind λr2=>cond (!decide (r2.2.2=0)) (some ((⟨r1.1,r2.1,[]⟩:Outcome),r2.2.1,r2.2.2)) ((pm n ag.s r2.2.1 16).bind λaR=>uo n aR ag r1 r2 n aR.2.1 aR.2.2 ([]:List bH) 0)
def I2(n:Nat)(ag:la)(r1:Int×Int×Int)(r2:Int×Int×Int)(v21:Int)(v22:Int)(v23:List e_):Option (b0×Int×Int):=some ((⟨r1.1,r2.1,v23⟩:b0),v21,v22)
def DL(aR:Int)(ag:la)(r1:Int×Int×Int)(r2:Int×Int×Int)(ak:Int→Int→(List e_)→Int→Option (b0×Int×Int))(v11:Int)(v12:Int)(cr:List e_)(bR:Int):Option (b0×Int×Int):=cond (cond (decide (bR<aR)) (decide (v12=0)) false) ((DK n (⟨ag.s,v11,v12⟩:la)).bind λdY=>ay (room (cr.length+([(⟨r1.1,(av5 (r2.1-(av5 (aR-bR)))),dY.1⟩:e_)]:List e_).length) 56)<|ak dY.2.1 dY.2.2 (cr++([(⟨r1.1,(av5 (r2.1-(av5 (aR-bR)))),dY.1⟩:e_)]:List e_)) (av5 (bR+1))) (I2 n ag r1 r2 v11 v12 cr)
def wQ(n:Nat)(aR:Int)(ag:la)(r1:Int×Int×Int)(r2:Int×Int×Int):Nat→Int→Int→(List e_)→Int→Option (b0×Int×Int)
 | 0=>λ_ _ _ _=>none
 |m+1=>DL n aR ag r1 r2 (wQ n aR ag r1 r2 m)
def DM(ag:la):Option (b0×Int×Int):=(sS n 1 32 ag).bind λr1=>(sS n 1 1099511627776 (⟨ag.s,r1.2.1,r1.2.2⟩:la)).bind λr2=>cond (!decide (r2.2.2=0)) (some ((⟨r1.1,r2.1,[]⟩:b0),r2.2.1,r2.2.2)) ((Dr n r2.1).bind λaR=>wQ n aR ag r1 r2 n r2.2.1 r2.2.2 ([]:List e_) 0)
def DN(s:av3)(c6:Int)(v20:Int)(v21:List b0):Option ((List b0)×Int×Int):=cond (!decide (v20=0)) (some (([]:List b0),0,v20)) ((uk n v21).bind λfj=>cond (!fj) (some (([]:List b0),0,5)) (some (v21,c6,0)))
def DO(r1:Int×Int×Int)(s:av3)(ak:Int→Int→(List b0)→Int→Option ((List b0)×Int×Int))(v9:Int)(v10:Int)(v11:List b0)(v12:Int):Option ((List b0)×Int×Int):=cond (cond (decide (v12<r1.1)) (decide (v10=0)) false) ((DM n (⟨s,v9,v10⟩:la)).bind λdX=>ay (room (v11.length+([dX.1]:List b0).length) 40)<|ak dX.2.1 dX.2.2 (v11++([dX.1]:List b0)) (av5 (v12+1))) (DN n s v9 v10 v11)
def wR(n:Nat)(r1:Int×Int×Int)(s:av3):Nat→Int→Int→(List b0)→Int→Option ((List b0)×Int×Int)
 | 0=>λ_ _ _ _=>none
 |m+1=>DO n r1 s (wR n r1 s m)
def I3(s:av3)(at_:Int):Option ((List b0)×Int×Int):=(pm n s at_ 32).bind λr1=>cond (!decide (r1.2.2=0)) (some (([]:List b0),0,r1.2.2)) (wR n r1 s n r1.2.1 0 ([]:List b0) 0)
def zG(ag:fv):Option ((List b0)×Int×Int):=cond (!decide (ag.e=0)) (some (([]:List b0),ag.at_,ag.e)) ((I3 n ag.s ag.at_).bind λr2=>cond (!decide (r2.2.2=0)) (some (([]:List b0),ag.at_,r2.2.2)) (some (r2.1,r2.2.1,r2.2.2)))
def QH(s:av3)(at_:Int)(a2:Int):Option (Int×Int×Int):=(pm n s at_ a2).bind λr1=>some (r1.1,r1.2.1,r1.2.2)
def wS(p:Int)(ag:fv):Option (Int×Int×Int):=cond (!decide (ag.e=0)) (some (0,ag.at_,ag.e)) ((QH n ag.s ag.at_ p).bind λr2=>cond (!decide (r2.2.2=0)) (some (0,ag.at_,r2.2.2)) (some (r2.1,r2.2.1,r2.2.2)))
def wT(ag:fv):Option (Int×Int×Int):=cond (!decide (ag.e=0)) (some (0,ag.at_,ag.e)) ((zq n ag.s ag.at_).bind λr2=>cond (!decide (r2.2.2=0)) (some (0,ag.at_,r2.2.2)) (some (r2.1,r2.2.1,r2.2.2)))
def QI(s:av3)(at_:Int)(a2:Int):Option (av3×Int×Int):=(sM n s at_ a2).bind λr1=>some (r1.1,r1.2.1,r1.2.2)
def DP(p:Int)(ag:fv):Option (av3×Int×Int):=cond (!decide (ag.e=0)) (some (([]:av3),ag.at_,ag.e)) ((QI n ag.s ag.at_ p).bind λr2=>cond (!decide (r2.2.2=0)) (some (([]:av3),ag.at_,r2.2.2)) (some (r2.1,r2.2.1,r2.2.2)))
def zH(ag:fv):Option (Int×Int×Int):=cond (!decide (ag.e=0)) (some (0,ag.at_,ag.e)) ((sL n ag.s ag.at_).bind λr2=>cond (!decide (r2.2.2=0)) (some (0,ag.at_,r2.2.2)) (some (r2.1,r2.2.1,r2.2.2)))
def DQ(n:Nat)(bA:Int):av8:=some bA
def uq(ag:fv)(r1:Int×Int×Int)(r26:(List b0)×Int×Int)(r27:b8×Int×Int)(r2:(List aU)×Int×Int)(v25:List av3)(I4:Int)(v51:Int)(I5:List bc):Option (pd×Int×Int):=(zD n (⟨ag.s,I4,v51⟩:fv)).bind λzI=>(zH n (⟨ag.s,zI.2.1,zI.2.2⟩:fv)).bind λlb=>some ((⟨⟨r1.1,⟨0,0,[]⟩,[],r26.1,r27.1,I5,zI.1,lb.1⟩,r2.1,v25⟩:pd),lb.2.1,lb.2.2)
def DR(ag:fv)(r1:Int×Int×Int)(r26:(List b0)×Int×Int)(r27:b8×Int×Int)(r2:(List aU)×Int×Int)(v25:List av3)(e':Int→Int→(List bc)→Int→Option (pd×Int×Int))(iI:Int)(mh:Int)(v40:List bc)(kv:Int):Option (pd×Int×Int):=cond (cond (decide (0<kv)) (decide (mh=0)) false) ((DQ n 24).bind λhS=>(DP n hS (⟨ag.s,iI,mh⟩:fv)).bind λoD=>(wT n (⟨ag.s,oD.2.1,oD.2.2⟩:fv)).bind λgR=>ay (room (v40.length+([(⟨oD.1,gR.1⟩:bc)]:List bc).length) 24)<|e' gR.2.1 gR.2.2 (v40++([(⟨oD.1,gR.1⟩:bc)]:List bc)) (av5 (kv-1))) (uq n ag r1 r26 r27 r2 v25 iI mh v40)
def ru(n:Nat)(ag:fv)(r1:Int×Int×Int)(r26:(List b0)×Int×Int)(r27:b8×Int×Int)(r2:(List aU)×Int×Int)(v25:List av3):Nat→Int→Int→(List bc)→Int→Option (pd×Int×Int)
 | 0=>λ_ _ _ _=>none
 |m+1=>DR n ag r1 r26 r27 r2 v25 (ru n ag r1 r26 r27 r2 v25 m)
def ur(ag:fv)(r1:Int×Int×Int)(r2:(List aU)×Int×Int)(v23:Int)(v24:Int)(v25:List av3):Option (pd×Int×Int):=(zG n (⟨ag.s,v23,v24⟩:fv)).bind λr26=>(zx n (⟨ag.s,r26.2.1,r26.2.2⟩:fv)).bind λr27=>(zn n 32).bind λpj=>(wS n pj (⟨ag.s,r27.2.1,r27.2.2⟩:fv)).bind λfO=>ru n ag r1 r26 r27 r2 v25 n fO.2.1 fO.2.2 ([]:List bc) fO.1
def DS(ag:fv)(r1:Int×Int×Int)(r2:(List aU)×Int×Int)(d_:Int→Int→(List av3)→Int→Option (pd×Int×Int))(v12:Int)(cr:Int)(bR:List av3)(bF:Int):Option (pd×Int×Int):=cond (cond (decide (0<bF)) (decide (cr=0)) false) ((DQ n 16384).bind λdT=>(DP n dT (⟨ag.s,v12,cr⟩:fv)).bind λfk=>ay (room (bR.length+([fk.1]:List av3).length) 16)<|d_ fk.2.1 fk.2.2 (bR++([fk.1]:List av3)) (av5 (bF-1))) (ur n ag r1 r2 v12 cr bR)
def ut(n:Nat)(ag:fv)(r1:Int×Int×Int)(r2:(List aU)×Int×Int):Nat→Int→Int→(List av3)→Int→Option (pd×Int×Int)
 | 0=>λ_ _ _ _=>none
 |m+1=>DS n ag r1 r2 (ut n ag r1 r2 m)
def DT(ag:fv):Option (pd×Int×Int):=(wT n ag).bind λr1=>(zt n (⟨ag.s,r1.2.1,r1.2.2⟩:fv)).bind λr2=>(zn n 16).bind λr3=>(wS n r3 (⟨ag.s,r2.2.1,r2.2.2⟩:fv)).bind λaR=>ut n ag r1 r2 n aR.2.1 aR.2.2 ([]:List av3) aR.1
def I6(n:Nat):Option (av3×Int×Int):=some (([]:av3),0,6)
def QJ(n:Nat)(ak:(List Int)→Int→Option (av3×Int×Int))(s:av3)(c6:List Int)(v20:Int):Option (av3×Int×Int):=ak c6 (av5 (v20+1))
def I7(ak:(List Int)→Int→Option (av3×Int×Int))(s:av3)(v11:List Int)(dv:Int)(a1:Int):Option (av3×Int×Int):=cond (cond (decide (a1<32)) true (decide (126<a1))) (some (([]:av3),0,5)) (cond (decide (((v11.length:Nat):Int)=64)) (some (([]:av3),0,2)) (ay (room (v11.length+([a1]:List Int).length) 1)<|QJ n ak s (v11++([a1]:List Int)) dv))
def QK(s:av3)(ak:(List Int)→Int→Option (av3×Int×Int))(v11:List Int)(v12:Int):Option (av3×Int×Int):=cond (decide (v12<((s.length:Nat):Int))) (ay (aM v12 s.length)<|cond (decide ((((s.getD (v12).toNat 0).toNat:Nat):Int)=34)) (ay (nB v11)<|some ((jX v11),(av5 (v12+1)),0)) (cond (decide ((((s.getD (v12).toNat 0).toNat:Nat):Int)=92)) (cond (decide ((av5 (v12+1))=((s.length:Nat):Int))) (I6 n) (ay (aM (av5 (v12+1)) s.length)<|cond (cond (!decide ((((s.getD ((av5 (v12+1))).toNat 0).toNat:Nat):Int)=34)) (!decide ((((s.getD ((av5 (v12+1))).toNat 0).toNat:Nat):Int)=92)) false) (some (([]:av3),0,5)) (I7 n ak s v11 (av5 (v12+1)) (((s.getD ((av5 (v12+1))).toNat 0).toNat:Nat):Int)))) (I7 n ak s v11 v12 (((s.getD (v12).toNat 0).toNat:Nat):Int)))) (I6 n)
def zJ(n:Nat)(s:av3):Nat→(List Int)→Int→Option (av3×Int×Int)
 | 0=>λ_ _=>none
 |m+1=>QK n s (zJ n s m)
def QL(s:av3):Option (av3×Int×Int):=zJ n s n ([]:List Int) 1
def QM(s:av3)(c:Int):av8:=(HI n s c).bind λr1=>some r1
def DU(s:av3):Option av3:=ay (!(!(decide (s=([]:av3))))||aM 0 s.length)<|Option.bind (cond (!(decide (s=([]:av3)))) (QM n ([40,41,123,125,44,59,58,61,60,62,43,45,42,47,37]:av3) (((s.getD 0 0).toNat:Nat):Int)) (some default)) λbZ=>cond (cond (!(decide (s=([]:av3)))) (decide (0≤bZ)) false) (ay (gV 1 s.length)<|some (s.take 1)) (some ([]:av3))
def wU(s:av3)(v2:Bool):Option av3:=cond v2 (ay (gV 2 s.length)<|some (s.take 2)) (DU n s)
def I8(s:av3):Option av3:=cond (decide (2≤((s.length:Nat):Int))) (ay (gV 2 s.length)<|cond (decide ((s.take 2)=([61,61]:av3))) (wU n s (decide ((s.take 2)=([61,61]:av3)))) (cond (decide ((s.take 2)=([33,61]:av3))) (wU n s (decide ((s.take 2)=([33,61]:av3)))) (cond (decide ((s.take 2)=([60,61]:av3))) (wU n s (decide ((s.take 2)=([60,61]:av3)))) (cond (decide ((s.take 2)=([62,61]:av3))) (wU n s (decide ((s.take 2)=([62,61]:av3)))) (wU n s (decide ((s.take 2)=([43,43]:av3)))))))) (DU n s)
def DV(s:av3)(v3:av3)(v4:Bool)(v10:Int):Option (Int×Int):=ay ((cond (decide (v10=0)) true (decide (v10<((v3.length:Nat):Int))))||aM 0 v3.length)<|cond (cond (cond (decide (v10=0)) true (decide (v10<((v3.length:Nat):Int)))) true (cond (decide ((((v3.getD 0 0).toNat:Nat):Int)=48)) (cond (decide (1<v10)) true v4) false)) (some (0,5)) ((yT n s 10 64).bind λdX=>iu.on dX (λZH=>cond (!true) (some (0,3)) (some (ZH,0))) (λZI=>cond (!false) (some (0,3)) (some (ZI,0))))
def QN(s:av3)(v3:av3)(v4:Bool)(e':Int→Option (Int×Int))(bD:Int):Option (Int×Int):=cond (decide (bD<((v3.length:Nat):Int))) (ay (aM bD v3.length)<|cond (cond (decide (48≤(((v3.getD (bD).toNat 0).toNat:Nat):Int))) (decide ((((v3.getD (bD).toNat 0).toNat:Nat):Int)≤57)) false) (e' (av5 (bD+1))) (DV n s v3 v4 bD)) (DV n s v3 v4 bD)
def zK(n:Nat)(s:av3)(v3:av3)(v4:Bool):Nat→Int→Option (Int×Int)
 | 0=>λ_=>none
 |m+1=>QN n s v3 v4 (zK n s v3 v4 m)
def I9(s:av3)(v3:av3)(v4:Bool):Option (Int×Int):=zK n s v3 v4 n 0
def I'(s:av3):Option (Int×Int):=ay (!(decide (0<((s.length:Nat):Int)))||aM 0 s.length)<|cond (cond (decide (0<((s.length:Nat):Int))) (decide ((((s.getD 0 0).toNat:Nat):Int)=45)) false) (ay (gV 1 s.length)<|I9 n s (s.drop 1) true) (I9 n s s false)
def I_(w:av3):Option (Token×Int):=ay (aM 0 w.length)<|cond (decide ((((w.getD 0 0).toNat:Nat):Int)=95)) (some ((⟨0,[],0,0⟩:Token),5)) (ay (aM 0 w.length)<|(C3 n (IntKind.i32.wrap (((w.getD 0 0).toNat:Nat):Int))).bind λaR=>cond aR ((C2 n w).bind λbj=>cond bj (some ((⟨2,w,0,0⟩:Token),0)) ((sI n w).bind λcv=>cond (!cv) (some ((⟨0,[],0,0⟩:Token),2)) (some ((⟨1,w,0,0⟩:Token),0)))) ((I' n w).bind λdx=>cond (!decide (dx.2=0)) (some ((⟨0,[],0,0⟩:Token),dx.2)) (some ((⟨3,[],dx.1,0⟩:Token),0))))
def zL(s:av3):Option (Token×Int×Int):=(yS n s).bind λr1=>cond (decide (0<r1)) (ay (gV r1 s.length)<|(I_ n (s.take (r1).toNat)).bind λaR=>some (aR.1,r1,aR.2)) (ay (aM 0 s.length)<|cond (decide ((((s.getD 0 0).toNat:Nat):Int)=34)) ((QL n s).bind λcC=>some ((⟨4,cC.1,0,0⟩:Token),cC.2.1,cC.2.2)) ((I8 n s).bind λcv=>cond (decide (cv=([]:av3))) (some ((⟨0,[],0,0⟩:Token),0,5)) (some ((⟨5,cv,0,0⟩:Token),((cv.length:Nat):Int),0))))
def Ja(s:av3):Option av3:=(HH n s).bind λr1=>some r1
def zM(n:Nat)(Jb:List Token):Option ((List Token)×Int×Int):=some (Jb,0,0)
def DW(ak:(List Token)→Int→Int→Option ((List Token)×Int×Int))(src:av3)(a1:List Token)(cj:Int)(c6:Int):Option ((List Token)×Int×Int):=ay (gV c6 src.length)<|(zL n (src.drop (c6).toNat)).bind λfO=>cond (!decide (fO.2.2=0)) (some (([]:List Token),cj,fO.2.2)) ((Ja n fO.1.Text).bind λiy=>ay (room (a1.length+([(⟨fO.1.Kind,iy,fO.1.N,cj⟩:Token)]:List Token).length) 40)<|ak (a1++([(⟨fO.1.Kind,iy,fO.1.N,cj⟩:Token)]:List Token)) cj (av5 (c6+fO.2.1)))
def QO(n:Nat)(ak:(List Token)→Int→Int→Option ((List Token)×Int×Int))(src:av3)(a1:List Token)(cj:Int)(nH:Int):Option ((List Token)×Int×Int):=ak a1 cj nH
def QP(ak:(List Token)→Int→Int→Option ((List Token)×Int×Int))(src:av3)(a1:List Token)(cj:Int)(rq:Int→Option ((List Token)×Int×Int))(v24:Int):Option ((List Token)×Int×Int):=ay (!(decide (v24<((src.length:Nat):Int)))||aM v24 src.length)<|cond (cond (decide (v24<((src.length:Nat):Int))) (!decide ((((src.getD (v24).toNat 0).toNat:Nat):Int)=10)) false) (rq (av5 (v24+1))) (QO n ak src a1 cj v24)
def DX(n:Nat)(ak:(List Token)→Int→Int→Option ((List Token)×Int×Int))(src:av3)(a1:List Token)(cj:Int):Nat→Int→Option ((List Token)×Int×Int)
 | 0=>λ_=>none
 |m+1=>QP n ak src a1 cj (DX n ak src a1 cj m)
def zN(ak:(List Token)→Int→Int→Option ((List Token)×Int×Int))(src:av3)(a1:List Token)(cj:Int)(c6:Int)(v21:Bool):Option ((List Token)×Int×Int):=cond v21 (ak a1 cj (av5 (c6+1))) (cond (decide ((((src.getD (c6).toNat 0).toNat:Nat):Int)=35)) (DX n ak src a1 cj n c6) (DW n ak src a1 cj c6))
def zO(src:av3)(ak:(List Token)→Int→Int→Option ((List Token)×Int×Int))(a1:List Token)(cj:Int)(c6:Int):Option ((List Token)×Int×Int):=cond (decide (c6<((src.length:Nat):Int))) (ay (aM c6 src.length)<|cond (decide ((((src.getD (c6).toNat 0).toNat:Nat):Int)=10)) (ak a1 (av5 (cj+1)) (av5 (c6+1))) (cond (decide ((((src.getD (c6).toNat 0).toNat:Nat):Int)=32)) (zN n ak src a1 cj c6 (decide ((((src.getD (c6).toNat 0).toNat:Nat):Int)=32))) (zN n ak src a1 cj c6 (decide ((((src.getD (c6).toNat 0).toNat:Nat):Int)=9))))) (zM n a1)
def sT(n:Nat)(src:av3):Nat→(List Token)→Int→Int→Option ((List Token)×Int×Int)
 | 0=>λ_ _ _=>none
 |m+1=>zO n src (sT n src m)
def wV(src:av3):Option ((List Token)×Int×Int):=cond (decide (16384<((src.length:Nat):Int))) (some (([]:List Token),0,2)) (sT n src n ([]:List Token) 1 0)
def uu(n:Nat)(text:av3)(ag:a7):av7:=cond (decide (((ag.tokens.length:Nat):Int)≤ag.at_)) (some false) (ay (aM ag.at_ ag.tokens.length)<|some (cond (cond (decide ((av6 ag.tokens (ag.at_)).Kind=2)) true (decide ((av6 ag.tokens (ag.at_)).Kind=5))) (decide (((av6 ag.tokens (ag.at_)).Text)=text)) false))
def kO(text:av3)(ag:a7):Option (Bool×Int):=(uu n text ag).bind λr1=>cond (!r1) (some (false,ag.at_)) (some (true,(av5 (ag.at_+1))))
def QQ(n:Nat)(ag:a7):Option (aG Unit Unit):=ay (aM (av5 (((ag.tokens.length:Nat):Int)-1)) ag.tokens.length)<|some (.bl (.iface 379 (.agg [.int .i64 ((av6 ag.tokens (av5 (((ag.tokens.length:Nat):Int)-1))).lJ),.int .i64 6])) ())
def QR(ag:a7):Option (aG Unit Unit):=cond (decide (((ag.tokens.length:Nat):Int)=0)) (some (.bl (.iface 379 (.agg [.int .i64 1,.int .i64 6])) ())) (QQ n ag)
def sU(code:Int)(ag:a7):Option (aG Unit Unit):=cond (decide (ag.at_<((ag.tokens.length:Nat):Int))) (ay (aM ag.at_ ag.tokens.length)<|some (.bl (.iface 379 (.agg [.int .i64 ((av6 ag.tokens (ag.at_)).lJ),.int .i64 code])) ())) (QR n ag)
def kP(text:av3)(ag:a7):Option (aG Unit Int):=(kO n text ag).bind λr1=>cond (!r1.1) ((sU n 5 (⟨ag.tokens,r1.2⟩:a7)).bind λr3=>aG.on r3 (λaR bZ=>some (.ret () r1.2)) (λrv bZ=>some (.bl rv r1.2))) (some (.ret () r1.2))
def rx(s:Stmt)(ag:a7):Option (aG Stmt Int):=(kP n ([59]:av3) ag).bind λr1=>aG.on r1 (λr2 r3=>some (.ret (⟨s.Op,s.Name,s.Max,⟨s.A.Op,s.A.N,s.A.S,s.A.ax⟩,⟨s.B.Op,s.B.N,s.B.S,s.B.ax⟩,s.Body,s.bB⟩:Stmt) r3)) (λfI r3=>some (.bl fI r3))
def Jc(n:Nat)(ag:a7):Option (Int×Int):=cond (decide (((ag.tokens.length:Nat):Int)≤ag.at_)) (some (0,0)) (ay (aM ag.at_ ag.tokens.length)<|cond (cond (!decide ((av6 ag.tokens (ag.at_)).Kind=2)) (!decide ((av6 ag.tokens (ag.at_)).Kind=5)) false) (some (0,0)) (cond (decide (((av6 ag.tokens (ag.at_)).Text)=([111,114]:av3))) (some (1,17)) (cond (decide (((av6 ag.tokens (ag.at_)).Text)=([97,110,100]:av3))) (some (2,16)) (cond (decide (((av6 ag.tokens (ag.at_)).Text)=([61,61]:av3))) (some (4,10)) (cond (decide (((av6 ag.tokens (ag.at_)).Text)=([33,61]:av3))) (some (4,11)) (cond (decide (((av6 ag.tokens (ag.at_)).Text)=([60]:av3))) (some (4,12)) (cond (decide (((av6 ag.tokens (ag.at_)).Text)=([60,61]:av3))) (some (4,13)) (cond (decide (((av6 ag.tokens (ag.at_)).Text)=([62]:av3))) (some (4,14)) (cond (decide (((av6 ag.tokens (ag.at_)).Text)=([62,61]:av3))) (some (4,15)) (cond (decide (((av6 ag.tokens (ag.at_)).Text)=([43,43]:av3))) (some (5,19)) (cond (decide (((av6 ag.tokens (ag.at_)).Text)=([43]:av3))) (some (6,4)) (cond (decide (((av6 ag.tokens (ag.at_)).Text)=([45]:av3))) (some (6,5)) (cond (decide (((av6 ag.tokens (ag.at_)).Text)=([42]:av3))) (some (7,6)) (cond (decide (((av6 ag.tokens (ag.at_)).Text)=([47]:av3))) (some (7,7)) (cond (decide (((av6 ag.tokens (ag.at_)).Text)=([37]:av3))) (some (7,8)) (some (0,0)))))))))))))))))
def Jd(n:Nat)(depth:Int)(ag:a7):Option (aG Int Unit):=some (.ret (av5 (depth+1)) ())
def zP(depth:Int)(ag:a7):Option (aG Int Unit):=cond (decide (24≤depth)) ((sU n 2 ag).bind λr1=>aG.on r1 (λr2 r3=>Jd n depth ag) (λfI r3=>some (.bl fI ()))) (Jd n depth ag)
def Je(n:Nat)(ag:a7):av8:=ay ((decide (((ag.tokens.length:Nat):Int)≤ag.at_))||aM ag.at_ ag.tokens.length)<|cond (cond (decide (((ag.tokens.length:Nat):Int)≤ag.at_)) true (!decide ((av6 ag.tokens (ag.at_)).Kind=2))) (some 0) (ay (aM ag.at_ ag.tokens.length)<|cond (decide (((av6 ag.tokens (ag.at_)).Text)=([116,101,120,116]:av3))) (some 20) (cond (decide (((av6 ag.tokens (ag.at_)).Text)=([108,101,110]:av3))) (some 21) (cond (decide (((av6 ag.tokens (ag.at_)).Text)=([103,101,116,105,110,116]:av3))) (some 22) (cond (decide (((av6 ag.tokens (ag.at_)).Text)=([103,101,116,115,116,114]:av3))) (some 23) (cond (decide (((av6 ag.tokens (ag.at_)).Text)=([104,97,115]:av3))) (some 24) (cond (decide (((av6 ag.tokens (ag.at_)).Text)=([110,111,119]:av3))) (some 25) (cond (decide (((av6 ag.tokens (ag.at_)).Text)=([114,97,110,100,111,109]:av3))) (some 26) (cond (decide (((av6 ag.tokens (ag.at_)).Text)=([110,111,100,101]:av3))) (some 27) (some 0)))))))))
def DY(fP:Int→Int→a7→Option (aG Expr Int))(gg:Int→Int→Int→a7→Option (aG Expr Int))(gq:Int→a7→Option (aG Expr Int))(gh:Int→a7→Option (aG Expr Int))(level:Int)(depth:Int)(ag:a7)(dt:Int→Int→Int→av3→(List Expr)→Option (aG Expr Int))(v37:Int)(iI:Int)(mh:Int)(v40:av3)(kv:List Expr):Option (aG Expr Int):=(Jc n (⟨ag.tokens,v37⟩:a7)).bind λhS=>cond (!decide (hS.1=level)) (some (.ret (⟨iI,mh,v40,kv⟩:Expr) v37)) ((fP (av5 (level+1)) depth (⟨ag.tokens,(av5 (v37+1))⟩:a7)).bind λoD=>aG.on oD (λgR jr=>cond (decide (level=4)) (some (.ret (⟨hS.2,0,[],[⟨iI,mh,v40,kv⟩,gR]⟩:Expr) jr)) (dt jr hS.2 0 ([]:av3) ([(⟨iI,mh,v40,kv⟩:Expr),gR]:List Expr))) (λwW jr=>some (.bl wW jr)))
def qf(n:Nat)(fP:Int→Int→a7→Option (aG Expr Int))(gg:Int→Int→Int→a7→Option (aG Expr Int))(gq:Int→a7→Option (aG Expr Int))(gh:Int→a7→Option (aG Expr Int))(level:Int)(depth:Int)(ag:a7):Nat→Int→Int→Int→av3→(List Expr)→Option (aG Expr Int)
 | 0=>λ_ _ _ _ _=>none
 |m+1=>DY n fP gg gq gh level depth ag (qf n fP gg gq gh level depth ag m)
def uv(fP:Int→Int→a7→Option (aG Expr Int))(gg:Int→Int→Int→a7→Option (aG Expr Int))(gq:Int→a7→Option (aG Expr Int))(gh:Int→a7→Option (aG Expr Int))(level:Int)(depth:Int)(ag:a7):Option (aG Expr Int):=cond (decide (level=3)) ((uu n ([110,111,116]:av3) ag).bind λr2=>cond r2 ((gg 18 level depth ag).bind λaR=>aG.on aR (λbZ bj=>some (.ret bZ bj)) (λJf bj=>some (.bl Jf bj))) ((fP 4 depth ag).bind λcv=>aG.on cv (λcM dx=>some (.ret cM dx)) (λQS dx=>some (.bl QS dx)))) (cond (decide (level=8)) ((uu n ([45]:av3) ag).bind λdX=>cond dX ((gg 9 level depth ag).bind λdY=>aG.on dY (λdT fk=>some (.ret dT fk)) (λwX fk=>some (.bl wX fk))) ((gq depth ag).bind λfa=>aG.on fa (λet fw=>some (.ret et fw)) (λQT fw=>some (.bl QT fw)))) ((fP (av5 (level+1)) depth ag).bind λfj=>aG.on fj (λr24 fM=>qf n fP gg gq gh level depth ag n fM r24.Op r24.N r24.S r24.ax) (λQU fM=>some (.bl QU fM))))
def Jg(fP:Int→Int→a7→Option (aG Expr Int))(gg:Int→Int→Int→a7→Option (aG Expr Int))(gq:Int→a7→Option (aG Expr Int))(gh:Int→a7→Option (aG Expr Int))(op:Int)(level:Int)(depth:Int)(ag:a7):Option (aG Expr Int):=(zP n depth ag).bind λr1=>aG.on r1 (λr2 r3=>(fP level r2 (⟨ag.tokens,(av5 (ag.at_+1))⟩:a7)).bind λbZ=>aG.on bZ (λbj cC=>some (.ret (⟨op,0,[],[bj]⟩:Expr) cC)) (λjG cC=>some (.bl jG cC))) (λfI r3=>some (.bl fI ag.at_))
def QV(fP:Int→Int→a7→Option (aG Expr Int))(gg:Int→Int→Int→a7→Option (aG Expr Int))(gq:Int→a7→Option (aG Expr Int))(gh:Int→a7→Option (aG Expr Int))(depth:Int)(r3:Int)(ag:a7)(v2:Int):Option (aG Expr Int):=(zP n depth (⟨ag.tokens,v2⟩:a7)).bind λr26=>aG.on r26 (λr27 pj=>(gh r27 (⟨ag.tokens,(av5 (v2+1))⟩:a7)).bind λiy=>aG.on iy (λgC mC=>some (.ret (⟨r3,0,[],[gC]⟩:Expr) mC)) (λwY mC=>some (.bl wY mC))) (λQW pj=>some (.bl QW v2))
def Jh(fP:Int→Int→a7→Option (aG Expr Int))(gg:Int→Int→Int→a7→Option (aG Expr Int))(gq:Int→a7→Option (aG Expr Int))(gh:Int→a7→Option (aG Expr Int))(depth:Int)(ag:a7)(v2:Int):Option (aG Expr Int):=(zP n depth (⟨ag.tokens,v2⟩:a7)).bind λcM=>aG.on cM (λdx b4=>(gh dx (⟨ag.tokens,v2⟩:a7)).bind λdX=>aG.on dX (λeQ dY=>some (.ret eQ dY)) (λwZ dY=>some (.bl wZ dY))) (λm' b4=>some (.bl m' v2))
def zQ(fP:Int→Int→a7→Option (aG Expr Int))(gg:Int→Int→Int→a7→Option (aG Expr Int))(gq:Int→a7→Option (aG Expr Int))(gh:Int→a7→Option (aG Expr Int))(depth:Int)(r3:Int)(ag:a7)(v2:Int)(a1:Bool):Option (aG Expr Int):=cond a1 ((kP n ([40]:av3) (⟨ag.tokens,(av5 (v2+1))⟩:a7)).bind λgw=>aG.on gw (λfa et=>(kP n ([41]:av3) (⟨ag.tokens,et⟩:a7)).bind λew=>aG.on ew (λfj r24=>some (.ret (⟨r3,0,[],[]⟩:Expr) r24)) (λQX r24=>some (.bl QX r24))) (λQY et=>some (.bl QY et))) (QV n fP gg gq gh depth r3 ag v2)
def w0(fP:Int→Int→a7→Option (aG Expr Int))(gg:Int→Int→Int→a7→Option (aG Expr Int))(gq:Int→a7→Option (aG Expr Int))(gh:Int→a7→Option (aG Expr Int))(depth:Int)(ag:a7)(v2:Int):Option (aG Expr Int):=(Je n (⟨ag.tokens,v2⟩:a7)).bind λr3=>cond (decide (r3=0)) ((uu n ([40]:av3) (⟨ag.tokens,v2⟩:a7)).bind λaR=>cond (!aR) ((sU n 5 (⟨ag.tokens,v2⟩:a7)).bind λbZ=>aG.on bZ (λbj cC=>Jh n fP gg gq gh depth ag v2) (λjG cC=>some (.bl jG v2))) (Jh n fP gg gq gh depth ag v2)) (cond (decide (r3=25)) (zQ n fP gg gq gh depth r3 ag v2 (decide (r3=25))) (cond (decide (r3=26)) (zQ n fP gg gq gh depth r3 ag v2 (decide (r3=26))) (zQ n fP gg gq gh depth r3 ag v2 (decide (r3=27)))))
def Ji(fP:Int→Int→a7→Option (aG Expr Int))(gg:Int→Int→Int→a7→Option (aG Expr Int))(gq:Int→a7→Option (aG Expr Int))(gh:Int→a7→Option (aG Expr Int))(depth:Int)(ag:a7):Option (aG Expr Int):=cond (decide (ag.at_<((ag.tokens.length:Nat):Int))) (ay (aM ag.at_ ag.tokens.length)<|cond (decide ((av6 ag.tokens (ag.at_)).Kind=3)) (some (.ret (⟨1,(av6 ag.tokens (ag.at_)).N,[],[]⟩:Expr) (av5 (ag.at_+1)))) (cond (decide ((av6 ag.tokens (ag.at_)).Kind=4)) (some (.ret (⟨2,0,(av6 ag.tokens (ag.at_)).Text,[]⟩:Expr) (av5 (ag.at_+1)))) (cond (decide ((av6 ag.tokens (ag.at_)).Kind=1)) (some (.ret (⟨3,0,(av6 ag.tokens (ag.at_)).Text,[]⟩:Expr) (av5 (ag.at_+1)))) (w0 n fP gg gq gh depth ag (av5 ((av5 (ag.at_+1))-1)))))) (w0 n fP gg gq gh depth ag ag.at_)
def Jj(fP:Int→Int→a7→Option (aG Expr Int))(gg:Int→Int→Int→a7→Option (aG Expr Int))(gq:Int→a7→Option (aG Expr Int))(gh:Int→a7→Option (aG Expr Int))(depth:Int)(ag:a7):Option (aG Expr Int):=(kP n ([40]:av3) ag).bind λr1=>aG.on r1 (λr2 r3=>(fP 1 depth (⟨ag.tokens,r3⟩:a7)).bind λbZ=>aG.on bZ (λbj cC=>(kP n ([41]:av3) (⟨ag.tokens,cC⟩:a7)).bind λcM=>aG.on cM (λdx b4=>some (.ret bj b4)) (λm' b4=>some (.bl m' b4))) (λjG cC=>some (.bl jG cC))) (λfI r3=>some (.bl fI r3))
def kQ:Nat→(Int→Int→a7→Option (aG Expr Int))×(Int→Int→Int→a7→Option (aG Expr Int))×(Int→a7→Option (aG Expr Int))×(Int→a7→Option (aG Expr Int))
 | 0=>(λ_ _ _=>none,λ_ _ _ _=>none,λ_ _=>none,λ_ _=>none)
 |m+1=>(uv m ((kQ m).1) ((kQ m).2.1) ((kQ m).2.2.1) ((kQ m).2.2.2),Jg m ((kQ m).1) ((kQ m).2.1) ((kQ m).2.2.1) ((kQ m).2.2.2),Ji m ((kQ m).1) ((kQ m).2.1) ((kQ m).2.2.1) ((kQ m).2.2.2),Jj m ((kQ m).1) ((kQ m).2.1) ((kQ m).2.2.1) ((kQ m).2.2.2))
def h5:Int→Int→a7→Option (aG Expr Int):=(kQ n).1
def oE:Int→Int→Int→a7→Option (aG Expr Int):=(kQ n).2.1
def m_:Int→a7→Option (aG Expr Int):=(kQ n).2.2.1
def oF:Int→a7→Option (aG Expr Int):=(kQ n).2.2.2
def Jk(n:Nat)(ag:a7):Option (aG Token Int):=ay (aM (av5 ((av5 (ag.at_+1))-1)) ag.tokens.length)<|some (.ret (av6 ag.tokens (av5 ((av5 (ag.at_+1))-1))) (av5 (ag.at_+1)))
def qg(kind:Int)(ag:a7):Option (aG Token Int):=ay ((decide (((ag.tokens.length:Nat):Int)≤ag.at_))||aM ag.at_ ag.tokens.length)<|cond (cond (decide (((ag.tokens.length:Nat):Int)≤ag.at_)) true (!decide ((av6 ag.tokens (ag.at_)).Kind=kind))) ((sU n 5 ag).bind λr2=>aG.on r2 (λr3 aR=>Jk n ag) (λlL aR=>some (.bl lL ag.at_))) (Jk n ag)
def QZ(n:Nat)(hA:Int→a7→Option (aG (List Stmt) Int))(hT:Int→a7→Option (aG Stmt Int))(hU:Int→a7→Option (aG Stmt Int))(ag:a7)(v28:Int)(hR:List Stmt):Option (aG (List Stmt) Int):=some (.ret hR v28)
def Jl(hA:Int→a7→Option (aG (List Stmt) Int))(hT:Int→a7→Option (aG Stmt Int))(hU:Int→a7→Option (aG Stmt Int))(depth:Int)(ag:a7)(e':Int→(List Stmt)→Option (aG (List Stmt) Int))(cj:Int)(c6:List Stmt):Option (aG (List Stmt) Int):=(kO n ([125]:av3) (⟨ag.tokens,cj⟩:a7)).bind λet=>cond (!et.1) ((hT (av5 (depth+1)) (⟨ag.tokens,et.2⟩:a7)).bind λfw=>aG.on fw (λew fj=>ay (room (c6.length+([ew]:List Stmt).length) 192)<|e' fj (c6++([ew]:List Stmt))) (λqh fj=>some (.bl qh fj))) (QZ n hA hT hU ag et.2 c6)
def zR(n:Nat)(hA:Int→a7→Option (aG (List Stmt) Int))(hT:Int→a7→Option (aG Stmt Int))(hU:Int→a7→Option (aG Stmt Int))(depth:Int)(ag:a7):Nat→Int→(List Stmt)→Option (aG (List Stmt) Int)
 | 0=>λ_ _=>none
 |m+1=>Jl n hA hT hU depth ag (zR n hA hT hU depth ag m)
def Jm(hA:Int→a7→Option (aG (List Stmt) Int))(hT:Int→a7→Option (aG Stmt Int))(hU:Int→a7→Option (aG Stmt Int))(depth:Int)(ag:a7):Option (aG (List Stmt) Int):=(kP n ([123]:av3) ag).bind λbj=>aG.on bj (λcC cv=>zR n hA hT hU depth ag n cv ([]:List Stmt)) (λQ0 cv=>some (.bl Q0 cv))
def Jn(hA:Int→a7→Option (aG (List Stmt) Int))(hT:Int→a7→Option (aG Stmt Int))(hU:Int→a7→Option (aG Stmt Int))(depth:Int)(ag:a7):Option (aG (List Stmt) Int):=(uu n ([123]:av3) ag).bind λr1=>cond (cond r1 (decide (12<depth)) false) ((sU n 2 ag).bind λr2=>aG.on r2 (λr3 aR=>Jm n hA hT hU depth ag) (λlL aR=>some (.bl lL ag.at_))) (Jm n hA hT hU depth ag)
def DZ(n:Nat)(hA:Int→a7→Option (aG (List Stmt) Int))(hT:Int→a7→Option (aG Stmt Int))(hU:Int→a7→Option (aG Stmt Int))(ag:a7)(na:Expr)(w1:(List Stmt))(Jo:Int)(Jp:List Stmt):Option (aG Stmt Int):=some (.ret (⟨5,[],0,na,⟨0,0,[],[]⟩,w1,Jp⟩:Stmt) Jo)
def pn(hA:Int→a7→Option (aG (List Stmt) Int))(hT:Int→a7→Option (aG Stmt Int))(hU:Int→a7→Option (aG Stmt Int))(depth:Int)(ag:a7):Option (aG Stmt Int):=(kO n ([108,101,116]:av3) ag).bind λr1=>cond r1.1 ((qg n 1 (⟨ag.tokens,r1.2⟩:a7)).bind λr3=>aG.on r3 (λaR bZ=>(kP n ([61]:av3) (⟨ag.tokens,bZ⟩:a7)).bind λcC=>aG.on cC (λcv cM=>(h5 n 1 0 (⟨ag.tokens,cM⟩:a7)).bind λb4=>aG.on b4 (λeJ dX=>(rx n (⟨1,aR.Text,0,eJ,⟨0,0,[],[]⟩,[],[]⟩:Stmt) (⟨ag.tokens,dX⟩:a7)).bind λdY=>aG.on dY (λdT fk=>some (.ret (⟨dT.Op,dT.Name,dT.Max,⟨dT.A.Op,dT.A.N,dT.A.S,dT.A.ax⟩,⟨dT.B.Op,dT.B.N,dT.B.S,dT.B.ax⟩,dT.Body,dT.bB⟩:Stmt) fk)) (λwX fk=>some (.bl wX fk))) (λQ1 dX=>some (.bl Q1 dX))) (λQ2 cM=>some (.bl Q2 cM))) (λrv bZ=>some (.bl rv bZ))) ((kO n ([112,117,116]:av3) (⟨ag.tokens,r1.2⟩:a7)).bind λfa=>cond fa.1 ((h5 n 1 0 (⟨ag.tokens,fa.2⟩:a7)).bind λfw=>aG.on fw (λew fj=>(kP n ([61]:av3) (⟨ag.tokens,fj⟩:a7)).bind λfM=>aG.on fM (λr26 r27=>(h5 n 1 0 (⟨ag.tokens,r27⟩:a7)).bind λfO=>aG.on fO (λiy gC=>(rx n (⟨3,[],0,ew,iy,[],[]⟩:Stmt) (⟨ag.tokens,gC⟩:a7)).bind λpi=>aG.on pi (λnI ld=>some (.ret (⟨nI.Op,nI.Name,nI.Max,⟨nI.A.Op,nI.A.N,nI.A.S,nI.A.ax⟩,⟨nI.B.Op,nI.B.N,nI.B.S,nI.B.ax⟩,nI.Body,nI.bB⟩:Stmt) ld)) (λQ3 ld=>some (.bl Q3 ld))) (λw2 gC=>some (.bl w2 gC))) (λw3 r27=>some (.bl w3 r27))) (λqh fj=>some (.bl qh fj))) ((kO n ([100,101,108,101,116,101]:av3) (⟨ag.tokens,fa.2⟩:a7)).bind λoG=>cond oG.1 ((h5 n 1 0 (⟨ag.tokens,oG.2⟩:a7)).bind λzi=>aG.on zi (λwI nG=>(rx n (⟨4,[],0,wI,⟨0,0,[],[]⟩,[],[]⟩:Stmt) (⟨ag.tokens,nG⟩:a7)).bind λoD=>aG.on oD (λgR jr=>some (.ret (⟨gR.Op,gR.Name,gR.Max,⟨gR.A.Op,gR.A.N,gR.A.S,gR.A.ax⟩,⟨gR.B.Op,gR.B.N,gR.B.S,gR.B.ax⟩,gR.Body,gR.bB⟩:Stmt) jr)) (λwW jr=>some (.bl wW jr))) (λw4 nG=>some (.bl w4 nG))) ((kO n ([101,109,105,116]:av3) (⟨ag.tokens,oG.2⟩:a7)).bind λoC=>cond oC.1 ((h5 n 1 0 (⟨ag.tokens,oC.2⟩:a7)).bind λIH=>aG.on IH (λDz qi=>(rx n (⟨7,[],0,Dz,⟨0,0,[],[]⟩,[],[]⟩:Stmt) (⟨ag.tokens,qi⟩:a7)).bind λzI=>aG.on zI (λlb D0=>some (.ret (⟨lb.Op,lb.Name,lb.Max,⟨lb.A.Op,lb.A.N,lb.A.S,lb.A.ax⟩,⟨lb.B.Op,lb.B.N,lb.B.S,lb.B.ax⟩,lb.Body,lb.bB⟩:Stmt) D0)) (λQ4 D0=>some (.bl Q4 D0))) (λQ5 qi=>some (.bl Q5 qi))) ((kO n ([97,98,111,114,116]:av3) (⟨ag.tokens,oC.2⟩:a7)).bind λJq=>cond Jq.1 ((qg n 3 (⟨ag.tokens,Jq.2⟩:a7)).bind λpo=>aG.on po (λZJ D1=>(rx n (⟨8,[],ZJ.N,⟨0,0,[],[]⟩,⟨0,0,[],[]⟩,[],[]⟩:Stmt) (⟨ag.tokens,D1⟩:a7)).bind λDv=>aG.on Dv (λkR um=>some (.ret (⟨kR.Op,kR.Name,kR.Max,⟨kR.A.Op,kR.A.N,kR.A.S,kR.A.ax⟩,⟨kR.B.Op,kR.B.N,kR.B.S,kR.B.ax⟩,kR.Body,kR.bB⟩:Stmt) um)) (λQ6 um=>some (.bl Q6 um))) (λQ7 D1=>some (.bl Q7 D1))) ((kO n ([105,102]:av3) (⟨ag.tokens,Jq.2⟩:a7)).bind λJr=>cond Jr.1 ((h5 n 1 0 (⟨ag.tokens,Jr.2⟩:a7)).bind λaj7=>aG.on aj7 (λna D2=>(hA depth (⟨ag.tokens,D2⟩:a7)).bind λaj8=>aG.on aj8 (λw1 D3=>(kO n ([101,108,115,101]:av3) (⟨ag.tokens,D3⟩:a7)).bind λJs=>cond Js.1 ((hA depth (⟨ag.tokens,Js.2⟩:a7)).bind λaj9=>aG.on aj9 (λZK D4=>DZ n hA hT hU ag na w1 D4 ZK) (λQ8 D4=>some (.bl Q8 D4))) (DZ n hA hT hU ag na w1 Js.2 ([]:List Stmt))) (λQ9 D3=>some (.bl Q9 D3))) (λQ' D2=>some (.bl Q' D2))) ((kO n ([102,111,114]:av3) (⟨ag.tokens,Jr.2⟩:a7)).bind λJt=>cond Jt.1 ((hU depth (⟨ag.tokens,Jt.2⟩:a7)).bind λaj'=>aG.on aj' (λnJ D5=>some (.ret (⟨nJ.Op,nJ.Name,nJ.Max,⟨nJ.A.Op,nJ.A.N,nJ.A.S,nJ.A.ax⟩,⟨nJ.B.Op,nJ.B.N,nJ.B.S,nJ.B.ax⟩,nJ.Body,nJ.bB⟩:Stmt) D5)) (λQ_ D5=>some (.bl Q_ D5))) ((qg n 1 (⟨ag.tokens,Jt.2⟩:a7)).bind λzf=>aG.on zf (λwG D6=>(kP n ([61]:av3) (⟨ag.tokens,D6⟩:a7)).bind λaj_=>aG.on aj_ (λIC D7=>(h5 n 1 0 (⟨ag.tokens,D7⟩:a7)).bind λaka=>aG.on aka (λZL D8=>(rx n (⟨2,wG.Text,0,ZL,⟨0,0,[],[]⟩,[],[]⟩:Stmt) (⟨ag.tokens,D8⟩:a7)).bind λakb=>aG.on akb (λnK ul=>some (.ret (⟨nK.Op,nK.Name,nK.Max,⟨nK.A.Op,nK.A.N,nK.A.S,nK.A.ax⟩,⟨nK.B.Op,nK.B.N,nK.B.S,nK.B.ax⟩,nK.Body,nK.bB⟩:Stmt) ul)) (λRa ul=>some (.bl Ra ul))) (λRb D8=>some (.bl Rb D8))) (λRc D7=>some (.bl Rc D7))) (λRd D6=>some (.bl Rd D6)))))))))
def Ju(hA:Int→a7→Option (aG (List Stmt) Int))(hT:Int→a7→Option (aG Stmt Int))(hU:Int→a7→Option (aG Stmt Int))(depth:Int)(ag:a7):Option (aG Stmt Int):=(qg n 1 ag).bind λr1=>aG.on r1 (λr2 r3=>(kP n ([61]:av3) (⟨ag.tokens,r3⟩:a7)).bind λbZ=>aG.on bZ (λbj cC=>(h5 n 1 0 (⟨ag.tokens,cC⟩:a7)).bind λcM=>aG.on cM (λdx b4=>(kP n ([116,111]:av3) (⟨ag.tokens,b4⟩:a7)).bind λdX=>aG.on dX (λeQ dY=>(h5 n 1 0 (⟨ag.tokens,dY⟩:a7)).bind λfk=>aG.on fk (λgw fa=>(kP n ([109,97,120]:av3) (⟨ag.tokens,fa⟩:a7)).bind λfw=>aG.on fw (λew fj=>(qg n 3 (⟨ag.tokens,fj⟩:a7)).bind λfM=>aG.on fM (λr26 r27=>(hA depth (⟨ag.tokens,r27⟩:a7)).bind λfO=>aG.on fO (λiy gC=>some (.ret (⟨6,r2.Text,r26.N,dx,gw,iy,[]⟩:Stmt) gC)) (λw2 gC=>some (.bl w2 gC))) (λw3 r27=>some (.bl w3 r27))) (λqh fj=>some (.bl qh fj))) (λRe fa=>some (.bl Re fa))) (λwZ dY=>some (.bl wZ dY))) (λm' b4=>some (.bl m' b4))) (λjG cC=>some (.bl jG cC))) (λfI r3=>some (.bl fI r3))
def pp:Nat→(Int→a7→Option (aG (List Stmt) Int))×(Int→a7→Option (aG Stmt Int))×(Int→a7→Option (aG Stmt Int))
 | 0=>(λ_ _=>none,λ_ _=>none,λ_ _=>none)
 |m+1=>(Jn m ((pp m).1) ((pp m).2.1) ((pp m).2.2),pn m ((pp m).1) ((pp m).2.1) ((pp m).2.2),Ju m ((pp m).1) ((pp m).2.1) ((pp m).2.2))
def ry:Int→a7→Option (aG (List Stmt) Int):=(pp n).1
def w5:Int→a7→Option (aG Stmt Int):=(pp n).2.1
def zS:Int→a7→Option (aG Stmt Int):=(pp n).2.2
def zT(n:Nat)(ag:a7)(r2:Token)(dv:Int)(a1:Int):Option (aG Param Int):=some (.ret (⟨r2.Text,a1⟩:Param) dv)
def D9(ag:a7):Option (aG Param Int):=(qg n 1 ag).bind λr1=>aG.on r1 (λr2 r3=>(kP n ([58]:av3) (⟨ag.tokens,r3⟩:a7)).bind λbZ=>aG.on bZ (λbj cC=>(kO n ([105,110,116]:av3) (⟨ag.tokens,cC⟩:a7)).bind λcM=>cond cM.1 (zT n ag r2 cM.2 1) ((kO n ([115,116,114]:av3) (⟨ag.tokens,cM.2⟩:a7)).bind λdx=>cond dx.1 (zT n ag r2 dx.2 2) ((kO n ([98,111,111,108]:av3) (⟨ag.tokens,dx.2⟩:a7)).bind λb4=>cond b4.1 (zT n ag r2 b4.2 3) ((sU n 5 (⟨ag.tokens,b4.2⟩:a7)).bind λeJ=>aG.on eJ (λdX eQ=>zT n ag r2 b4.2 0) (λRf eQ=>some (.bl Rf b4.2)))))) (λjG cC=>some (.bl jG cC))) (λfI r3=>some (.bl fI r3))
def D'(ag:a7)(bj:Token)(Jv:Int)(Jw:List Param):Option (aG bg Int):=(ry n 0 (⟨ag.tokens,Jv⟩:a7)).bind λjr=>aG.on jr (λDy oC=>some (.ret (⟨bj.Text,Jw,Dy⟩:bg) oC)) (λRg oC=>some (.bl Rg oC))
def Jx(ag:a7)(bj:Token)(v37:Int)(iI:List Param):Option (aG bg Int):=(kP n ([41]:av3) (⟨ag.tokens,v37⟩:a7)).bind λzi=>aG.on zi (λwI nG=>D' n ag bj nG iI) (λw4 nG=>some (.bl w4 nG))
def Jy(ag:a7)(bj:Token)(e':Int→(List Param)→Option (aG bg Int))(nH:Int)(v28:List Param):Option (aG bg Int):=(kO n ([44]:av3) (⟨ag.tokens,nH⟩:a7)).bind λfO=>cond fO.1 ((D9 n (⟨ag.tokens,fO.2⟩:a7)).bind λiy=>aG.on iy (λgC mC=>ay (room (v28.length+([gC]:List Param).length) 24)<|e' mC (v28++([gC]:List Param))) (λwY mC=>some (.bl wY mC))) (Jx n ag bj fO.2 v28)
def zU(n:Nat)(ag:a7)(bj:Token):Nat→Int→(List Param)→Option (aG bg Int)
 | 0=>λ_ _=>none
 |m+1=>Jy n ag bj (zU n ag bj m)
def D_(ag:a7):Option (aG bg Int):=(kP n ([112,114,111,99]:av3) ag).bind λr1=>aG.on r1 (λr2 r3=>(qg n 1 (⟨ag.tokens,r3⟩:a7)).bind λbZ=>aG.on bZ (λbj cC=>(kP n ([40]:av3) (⟨ag.tokens,cC⟩:a7)).bind λcM=>aG.on cM (λdx b4=>(kO n ([41]:av3) (⟨ag.tokens,b4⟩:a7)).bind λdX=>cond (!dX.1) ((D9 n (⟨ag.tokens,dX.2⟩:a7)).bind λeQ=>aG.on eQ (λdY dT=>ay (room (([]:List Param).length+([dY]:List Param).length) 24)<|zU n ag bj n dT (([]:List Param)++([dY]:List Param))) (λRh dT=>some (.bl Rh dT))) (D' n ag bj dX.2 ([]:List Param))) (λm' b4=>some (.bl m' b4))) (λjG cC=>some (.bl jG cC))) (λfI r3=>some (.bl fI r3))
def Ri(ag:a7)(fN:bg):Option (aG Unit (Int×av3×(List Param)×(List Stmt))):=(D_ n ag).bind λr1=>aG.on r1 (λr2 r3=>some (.ret () (r3,r2.Name,r2.Params,r2.Body))) (λfI r3=>some (.bl fI (r3,fN.Name,fN.Params,fN.Body)))
def ZM(n:Nat)(ag:a7):Option (aG Unit Unit):=ay (aM (av5 (((ag.tokens.length:Nat):Int)-1)) ag.tokens.length)<|some (.bl (.iface 379 (.agg [.int .i64 ((av6 ag.tokens (av5 (((ag.tokens.length:Nat):Int)-1))).lJ),.int .i64 6])) ())
def ZN(ag:a7):Option (aG Unit Unit):=cond (decide (((ag.tokens.length:Nat):Int)=0)) (some (.bl (.iface 379 (.agg [.int .i64 1,.int .i64 6])) ())) (ZM n ag)
def ZO(code:Int)(ag:a7):Option (aG Unit Unit):=cond (decide (ag.at_<((ag.tokens.length:Nat):Int))) (ay (aM ag.at_ ag.tokens.length)<|some (.bl (.iface 379 (.agg [.int .i64 ((av6 ag.tokens (ag.at_)).lJ),.int .i64 code])) ())) (ZN n ag)
def Jz(src:av3)(ag:bg):Option (Int×Int×av3×(List Param)×(List Stmt)):=(wV n src).bind λr1=>cond (!decide (r1.2.2=0)) (some (r1.2.1,r1.2.2,ag.Name,ag.Params,ag.Body)) ((Ri n (⟨r1.1,0⟩:a7) ag).bind λr2=>aG.on r2 (λcL nL=>cond (decide (nL.1<((r1.1.length:Nat):Int))) ((ZO n 5 (⟨r1.1,nL.1⟩:a7)).bind λr3=>aG.on r3 (λcQ Rj=>none) (λeX Rj=>(Ho 379 eX).bind λlc=>some (lc.1,lc.2,nL.2.1,nL.2.2.1,nL.2.2.2))) (some (0,0,nL.2.1,nL.2.2.1,nL.2.2.2))) (λeX nL=>(Ho 379 eX).bind λlc=>some (lc.1,lc.2,nL.2.1,nL.2.2.1,nL.2.2.2)))
def JA(n:Nat)(r1:Int×Int×av3×(List Param)×(List Stmt))(v3:Int):Option (bg×Int×Int):=cond (!decide (v3=0)) (some ((⟨[],[],[]⟩:bg),r1.1,v3)) (some ((⟨r1.2.2.1,r1.2.2.2.1,r1.2.2.2.2⟩:bg),0,0))
def Ea(src:av3):Option (bg×Int×Int):=(Jz n src (⟨[],[],[]⟩:bg)).bind λr1=>cond (decide (r1.2.1=0)) ((Dh n (⟨r1.2.2.1,r1.2.2.2.1,r1.2.2.2.2⟩:bg)).bind λr2=>JA n r1 r2) (JA n r1 r1.2.1)
def Rk(n:Nat)(bF:List bg):Option ((List bg)×Bool):=some (bF,true)
def JB(l:List av3)(ak:Int→(List bg)→Option ((List bg)×Bool))(bD:Int)(bE:List bg):Option ((List bg)×Bool):=cond (decide (bD<((l.length:Nat):Int))) (ay (aM bD l.length)<|(Ea n (av6 l bD)).bind λdx=>Option.bind (cond (!(!decide (dx.2.2=0))) (uj n dx.1) (some default)) λb4=>cond (cond (!decide (dx.2.2=0)) true (!(decide (b4=(av6 l bD))))) (some (([]:List bg),false)) (ay (room (bE.length+([dx.1]:List bg).length) 64)<|ak (av5 (bD+1)) (bE++([dx.1]:List bg)))) (Rk n bE)
def zV(n:Nat)(l:List av3):Nat→Int→(List bg)→Option ((List bg)×Bool)
 | 0=>λ_ _=>none
 |m+1=>JB n l (zV n l m)
def zW(l:List av3):Option ((List bg)×Bool):=zV n l n 0 ([]:List bg)
def Rl(n:Nat)(l:List bc):av7:=some (decide (((l.length:Nat):Int)≤32))
def JC(l:List bc)(ak:Int→av7)(v5:Int):av7:=cond (decide (v5<((l.length:Nat):Int))) (ay (aM v5 l.length)<|(wv n ((av6 l v5).Key)).bind λcC=>ay ((cond (cond (!cC) true (decide ((av6 l v5).Count<1))) true (decide (1099511627776<(av6 l v5).Count)))||(!(decide (0<v5))||aM (av5 (v5-1)) l.length))<|cond (cond (cond (cond (!cC) true (decide ((av6 l v5).Count<1))) true (decide (1099511627776<(av6 l v5).Count))) true (cond (decide (0<v5)) (!(Op.bytesLess ((av6 l (av5 (v5-1))).Key) ((av6 l v5).Key))) false)) (some false) (ak (av5 (v5+1)))) (Rl n l)
def zX(n:Nat)(l:List bc):Nat→Int→av7
 | 0=>λ_=>none
 |m+1=>JC n l (zX n l m)
def JD(l:List bc):av7:=zX n l n 0
def Rm(n:Nat):av7:=some true
def JE(l:List bg)(ak:Int→av7)(v6:Int):av7:=cond (decide (v6<((l.length:Nat):Int))) (ay (aM v6 l.length)<|(uj n (av6 l v6)).bind λcv=>ay ((cond (decide (cv=([]:av3))) true (decide (16384<((cv.length:Nat):Int))))||(!(decide (0<v6))||aM (av5 (v6-1)) l.length))<|cond (cond (cond (decide (cv=([]:av3))) true (decide (16384<((cv.length:Nat):Int)))) true (cond (decide (0<v6)) ((Op.bytesLess ((av6 l v6).Name) ((av6 l (av5 (v6-1))).Name))||(decide (((av6 l v6).Name)=((av6 l (av5 (v6-1))).Name)))) false)) (some false) (ak (av5 (v6+1)))) (Rm n)
def zY(n:Nat)(l:List bg):Nat→Int→av7
 | 0=>λ_=>none
 |m+1=>JE n l (zY n l m)
def JF(l:List bg):av7:=cond (decide (16<((l.length:Nat):Int))) (some false) (zY n l n 0)
def Rn(ah:bC):av7:=(uk n ah.bU).bind λb4=>Option.bind (cond b4 (DH n ah.Place) (some default)) λeJ=>Option.bind (cond (cond b4 eJ false) (JD n ah.bc) (some default)) λdX=>some (cond (cond b4 eJ false) dX false)
def JG(ah:bC)(ak:Int→av7)(bD:Int):av7:=cond (decide (bD<((ah.Queue.length:Nat):Int))) (ay (aM bD ah.Queue.length)<|(pg n (⟨(av6 ah.Queue bD).Client,(av6 ah.Queue bD).Seq,(av6 ah.Queue bD).bg,(av6 ah.Queue bD).ax,(av6 ah.Queue bD).eS,⟨((av6 ah.Queue bD).bv).ek,((av6 ah.Queue bD).bv).Reads,((av6 ah.Queue bD).bv).cA⟩⟩:Request)).bind λcM=>cond (!decide (cM=0)) (some false) (ak (av5 (bD+1)))) (Rn n ah)
def w6(n:Nat)(ah:bC):Nat→Int→av7
 | 0=>λ_=>none
 |m+1=>JG n ah (w6 n ah m)
def zZ(ah:bC):av7:=Option.bind (cond (!(cond (decide (ah.Pos<0)) true (decide (1099511627776<ah.Pos)))) (wx n ah.aq) (some default)) λr1=>Option.bind (cond (!(cond (cond (cond (decide (ah.Pos<0)) true (decide (1099511627776<ah.Pos))) true (!r1)) true (!decide (ah.aq.br=ah.Pos)))) (JF n ah.bP) (some default)) λr2=>cond (cond (cond (cond (cond (cond (decide (ah.Pos<0)) true (decide (1099511627776<ah.Pos))) true (!r1)) true (!decide (ah.aq.br=ah.Pos))) true (!r2)) true (decide (64<((ah.Queue.length:Nat):Int)))) (some false) (w6 n ah n 0)
def Ro(n:Nat)(at_:Int)(cr:List Row):Option (aq×Int):=some ((⟨at_,at_,cr⟩:aq),0)
def JH(at_:Int)(l:List aU)(ak:(List Row)→Int→Option (aq×Int))(bD:List Row)(bE:Int):Option (aq×Int):=cond (decide (bE<((l.length:Nat):Int))) (ay (aM bE l.length)<|ay (room (bD.length+([(⟨(av6 l bE).Key,[⟨at_,⟨((av6 l bE).bk).Kind,((av6 l bE).bk).N,((av6 l bE).bk).S⟩⟩]⟩:Row)]:List Row).length) 40)<|ak (bD++([(⟨(av6 l bE).Key,[⟨at_,⟨((av6 l bE).bk).Kind,((av6 l bE).bk).N,((av6 l bE).bk).S⟩⟩]⟩:Row)]:List Row)) (av5 (bE+1))) (Ro n at_ bD)
def z1(n:Nat)(at_:Int)(l:List aU):Nat→(List Row)→Int→Option (aq×Int)
 | 0=>λ_ _=>none
 |m+1=>JH n at_ l (z1 n at_ l m)
def w7(l:List aU)(at_:Int):Option (aq×Int):=(DB n l).bind λr1=>cond (cond (cond (!r1) true (decide (at_<0))) true (decide (1099511627776<at_))) (some ((⟨0,0,[]⟩:aq),1)) (z1 n at_ l n ([]:List Row) 0)
def Eb(s:av3):Option (bC×Int):=(DT n (⟨s,0,0⟩:fv)).bind λr1=>cond (!decide (r1.2.2=0)) (some ((⟨0,⟨0,0,[]⟩,[],[],⟨0,[]⟩,[],[],0⟩:bC),r1.2.2)) (cond (cond (cond (!decide (r1.2.1=((s.length:Nat):Int))) true (decide (r1.1.gp.Pos<0))) true (decide (1099511627776<r1.1.gp.Pos))) (some ((⟨0,⟨0,0,[]⟩,[],[],⟨0,[]⟩,[],[],0⟩:bC),5)) ((zW n r1.1.sources).bind λaR=>cond (!aR.2) (some ((⟨0,⟨0,0,[]⟩,[],[],⟨0,[]⟩,[],[],0⟩:bC),5)) ((w7 n r1.1.Pf r1.1.gp.Pos).bind λbj=>cond (!decide (bj.2=0)) (some ((⟨0,⟨0,0,[]⟩,[],[],⟨0,[]⟩,[],[],0⟩:bC),5)) ((zZ n (⟨r1.1.gp.Pos,bj.1,aR.1,r1.1.gp.bU,r1.1.gp.Place,r1.1.gp.bc,r1.1.gp.Queue,r1.1.gp.cg⟩:bC)).bind λcv=>cond (!cv) (some ((⟨0,⟨0,0,[]⟩,[],[],⟨0,[]⟩,[],[],0⟩:bC),5)) (some ((⟨r1.1.gp.Pos,bj.1,aR.1,r1.1.gp.bU,r1.1.gp.Place,r1.1.gp.bc,r1.1.gp.Queue,r1.1.gp.cg⟩:bC),0))))))
def JI(ah:bC):Option (bC×Int):=(zZ n ah).bind λr1=>cond (!r1) (some ((⟨0,⟨0,0,[]⟩,[],[],⟨0,[]⟩,[],[],0⟩:bC),1)) ((zm n ah).bind λr3=>(Eb n r3).bind λaR=>some (aR.1,aR.2))
def JJ(ah:bC):Option (gc×Int):=(JI n ah).bind λr1=>cond (!decide (r1.2=0)) (some ((⟨0,⟨0,⟨0,0,[]⟩,[],[],⟨0,[]⟩,[],[],0⟩,[],false,[],[]⟩:gc),1)) (some ((⟨ah.Pos,⟨ah.Pos,⟨0,0,[]⟩,ah.bP,ah.bU,ah.Place,ah.bc,ah.Queue,ah.cg⟩,[],false,[],[]⟩:gc),0))
def Rp(n:Nat):av7:=some true
def JK(s:aq)(ak:Int→av7)(v4:Int):av7:=cond (decide (v4<((s.Rows.length:Nat):Int))) (ay (aM v4 s.Rows.length)<|cond (decide (40<((((av6 s.Rows v4).bp).length:Nat):Int))) (some false) (ak (av5 (v4+1)))) (Rp n)
def z6(n:Nat)(s:aq):Nat→Int→av7
 | 0=>λ_=>none
 |m+1=>JK n s (z6 n s m)
def Ec(s:aq):av7:=cond (decide (60<((s.Rows.length:Nat):Int))) (some false) (z6 n s n 0)
def JL(n:Nat)(nM:Expr→Int→av8)(v11:Int):av8:=some v11
def JM(nM:Expr→Int→av8)(bA:Int)(e:Expr)(ak:Int→Int→av8)(v5:Int)(v6:Int):av8:=cond (cond (decide (v6<((e.ax.length:Nat):Int))) (decide (v5≤bA)) false) (ay (aM v6 e.ax.length)<|(nM (av6 e.ax v6) (av5 (bA-v5))).bind λcv=>ak (av5 (v5+cv)) (av5 (v6+1))) (JL n nM v5)
def z7(n:Nat)(nM:Expr→Int→av8)(bA:Int)(e:Expr):Nat→Int→Int→av8
 | 0=>λ_ _=>none
 |m+1=>JM n nM bA e (z7 n nM bA e m)
def JN(nM:Expr→Int→av8)(e:Expr)(bA:Int):av8:=z7 n nM bA e n (av5 (1+(av5 (Int.tdiv ((e.S.length:Nat):Int) 64)))) 0
def rz:Nat→Expr→Int→av8
 | 0=>λ_ _=>none
 |m+1=>JN m (rz m)
def Rq(n:Nat)(nb:(List Stmt)→Int→av8)(v25:Int):av8:=some v25
def Rr(nb:(List Stmt)→Int→av8)(l:List Stmt)(bA:Int)(ak:Int→Int→av8)(v12:Int)(cr:Int):av8:=cond (cond (decide (cr<((l.length:Nat):Int))) (decide (v12≤bA)) false) (ay (aM cr l.length)<|ay (aM cr l.length)<|(rz n ((av6 l cr).A) (av5 (bA-(av5 ((av5 (v12+1))+(av5 (Int.tdiv ((((av6 l cr).Name).length:Nat):Int) 64))))))).bind λdT=>ay (aM cr l.length)<|(rz n ((av6 l cr).B) (av5 (bA-(av5 ((av5 ((av5 (v12+1))+(av5 (Int.tdiv ((((av6 l cr).Name).length:Nat):Int) 64))))+dT))))).bind λgw=>ay (aM cr l.length)<|(nb ((av6 l cr).Body) (av5 (bA-(av5 ((av5 ((av5 ((av5 (v12+1))+(av5 (Int.tdiv ((((av6 l cr).Name).length:Nat):Int) 64))))+dT))+gw))))).bind λet=>ay (aM cr l.length)<|(nb ((av6 l cr).bB) (av5 (bA-(av5 ((av5 ((av5 ((av5 ((av5 (v12+1))+(av5 (Int.tdiv ((((av6 l cr).Name).length:Nat):Int) 64))))+dT))+gw))+et))))).bind λew=>ak (av5 ((av5 ((av5 ((av5 ((av5 ((av5 (v12+1))+(av5 (Int.tdiv ((((av6 l cr).Name).length:Nat):Int) 64))))+dT))+gw))+et))+ew)) (av5 (cr+1))) (Rq n nb v12)
def Ed(n:Nat)(nb:(List Stmt)→Int→av8)(l:List Stmt)(bA:Int):Nat→Int→Int→av8
 | 0=>λ_ _=>none
 |m+1=>Rr n nb l bA (Ed n nb l bA m)
def Rs(nb:(List Stmt)→Int→av8)(l:List Stmt)(bA:Int):av8:=Ed n nb l bA n 0 0
def z8:Nat→(List Stmt)→Int→av8
 | 0=>λ_ _=>none
 |m+1=>Rs m (z8 m)
def Rt(bA:Int)(p:bg):av7:=(z8 n p.Body bA).bind λcC=>some (decide (cC≤bA))
def Ru(bA:Int)(p:bg)(ak:Int→av7)(v4:Int):av7:=cond (decide (v4<((p.Params.length:Nat):Int))) (ay (aM v4 p.Params.length)<|cond (decide (200<((((av6 p.Params v4).Name).length:Nat):Int))) (some false) (ak (av5 (v4+1)))) (Rt n bA p)
def Ee(n:Nat)(bA:Int)(p:bg):Nat→Int→av7
 | 0=>λ_=>none
 |m+1=>Ru n bA p (Ee n bA p m)
def Ef(p:bg)(bA:Int):av7:=cond (cond (decide (40<((p.Params.length:Nat):Int))) true (decide (200<((p.Name.length:Nat):Int)))) (some false) (Ee n bA p n 0)
def Rv(n:Nat):av7:=some true
def JO(f:fz)(e':Int→av7)(v9:Int):av7:=cond (decide (v9<((f.cA.length:Nat):Int))) (ay (aM v9 f.cA.length)<|cond (decide (100<(((av6 f.cA v9).length:Nat):Int))) (some false) (e' (av5 (v9+1)))) (Rv n)
def w8(n:Nat)(f:fz):Nat→Int→av7
 | 0=>λ_=>none
 |m+1=>JO n f (w8 n f m)
def Rw(f:fz):av7:=w8 n f n 0
def JP(f:fz)(d_:Int→av7)(v4:Int):av7:=cond (decide (v4<((f.Reads.length:Nat):Int))) (ay (aM v4 f.Reads.length)<|cond (decide (100<(((av6 f.Reads v4).length:Nat):Int))) (some false) (d_ (av5 (v4+1)))) (Rw n f)
def z'(n:Nat)(f:fz):Nat→Int→av7
 | 0=>λ_=>none
 |m+1=>JP n f (z' n f m)
def w9(f:fz)(bA:Int):av7:=cond (cond (decide (bA<((f.Reads.length:Nat):Int))) true (decide (bA<((f.cA.length:Nat):Int)))) (some false) (z' n f n 0)
def Rx(n:Nat):av7:=some true
def JQ(ah:Request)(ak:Int→av7)(v5:Int):av7:=cond (decide (v5<((ah.ax.length:Nat):Int))) (ay (aM v5 ah.ax.length)<|cond (decide (300<((((av6 ah.ax v5).S).length:Nat):Int))) (some false) (ak (av5 (v5+1)))) (Rx n)
def z_(n:Nat)(ah:Request):Nat→Int→av7
 | 0=>λ_=>none
 |m+1=>JQ n ah (z_ n ah m)
def Eg(ah:Request):av7:=Option.bind (cond (!(cond (decide (300<((ah.bg.length:Nat):Int))) true (decide (40<((ah.ax.length:Nat):Int))))) (w9 n ah.bv 100) (some default)) λr1=>cond (cond (cond (decide (300<((ah.bg.length:Nat):Int))) true (decide (40<((ah.ax.length:Nat):Int)))) true (!r1)) (some false) (z_ n ah n 0)
def Ry(n:Nat):av7:=some true
def JR(ah:bC)(d_:Int→av7)(cj:Int):av7:=cond (decide (cj<((ah.Queue.length:Nat):Int))) (ay (aM cj ah.Queue.length)<|(Eg n (av6 ah.Queue cj)).bind λet=>cond (!et) (some false) (d_ (av5 (cj+1)))) (Ry n)
def w_(n:Nat)(ah:bC):Nat→Int→av7
 | 0=>λ_=>none
 |m+1=>JR n ah (w_ n ah m)
def Rz(ah:bC):av7:=w_ n ah n 0
def JS(ah:bC)(sV:Int→av7)(v12:Int):av7:=cond (decide (v12<((ah.bU.length:Nat):Int))) (ay (aM v12 ah.bU.length)<|cond (decide (20<((((av6 ah.bU v12).b').length:Nat):Int))) (some false) (sV (av5 (v12+1)))) (Rz n ah)
def xa(n:Nat)(ah:bC):Nat→Int→av7
 | 0=>λ_=>none
 |m+1=>JS n ah (xa n ah m)
def RA(ah:bC):av7:=xa n ah n 0
def JT(ah:bC)(rq:Int→av7)(v6:Int):av7:=cond (decide (v6<((ah.bP.length:Nat):Int))) (ay (aM v6 ah.bP.length)<|(Ef n (av6 ah.bP v6) 600).bind λcv=>cond (!cv) (some false) (rq (av5 (v6+1)))) (RA n ah)
def Aa(n:Nat)(ah:bC):Nat→Int→av7
 | 0=>λ_=>none
 |m+1=>JT n ah (Aa n ah m)
def Eh(ah:bC):av7:=(Ec n ah.aq).bind λr1=>cond (cond (cond (cond (cond (cond (!r1) true (decide (16<((ah.bP.length:Nat):Int)))) true (decide (10<((ah.bU.length:Nat):Int)))) true (decide (40<((ah.bc.length:Nat):Int)))) true (decide (70<((ah.Queue.length:Nat):Int)))) true (decide (40<((ah.Place.aE.length:Nat):Int)))) (some false) (Aa n ah n 0)
def ZP(ah:bC):Option (av3×Int):=(zZ n ah).bind λr1=>cond (!r1) (some (([]:av3),1)) ((zm n ah).bind λr3=>cond (decide (16384<((r3.length:Nat):Int))) (some (([]:av3),2)) (some (r3,0)))
def RB(n:Nat)(b_:List Int):av8:=some ((b_.length:Nat):Int)
def ZQ(c:gc)(v24:List Int):Option (av3×Int×Int):=(RB n v24).bind λfM=>cond (cond (decide (16384<fM)) true (decide ((av5 (1099511627776-c.bN))<((c.f9.length:Nat):Int)))) (some (([]:av3),0,2)) ((rm n v24).bind λr27=>some (r27.1,(av5 (c.bN+((c.f9.length:Nat):Int))),0))
def ZR(c:gc)(ak:(List Int)→Int→Option (av3×Int×Int))(dv:List Int)(a1:Int):Option (av3×Int×Int):=cond (decide (a1<((c.f9.length:Nat):Int))) (ay (aM a1 c.f9.length)<|Option.bind (cond (!(decide (4096<(((av6 c.f9 a1).length:Nat):Int)))) (RB n dv) (some default)) λfa=>cond (cond (decide (4096<(((av6 c.f9 a1).length:Nat):Int))) true (decide (16384<fa))) (some (([]:av3),0,2)) ((oz n (av6 c.f9 a1)).bind λet=>(jF n et dv).bind λfw=>ak fw.2 (av5 (a1+1)))) (ZQ n c dv)
def RC(n:Nat)(c:gc):Nat→(List Int)→Int→Option (av3×Int×Int)
 | 0=>λ_ _=>none
 |m+1=>ZR n c (RC n c m)
def RD(c:gc):Option (av3×Int×Int):=cond (!c.dI) (some (([]:av3),0,16)) ((w7 n c.gd c.bN).bind λr2=>cond (!decide (r2.2=0)) (some (([]:av3),0,r2.2)) ((ZP n (⟨c.Rest.Pos,r2.1,c.Rest.bP,c.Rest.bU,c.Rest.Place,c.Rest.bc,c.Rest.Queue,c.Rest.cg⟩:bC)).bind λaR=>cond (!decide (aR.2=0)) (some (([]:av3),0,aR.2)) ((oz n aR.1).bind λbj=>(hQ n (IntKind.u64.wrap ((c.f9.length:Nat):Int))).bind λcC=>ay (b3 (bj.length+cC.length))<|(jF n (bj++cC) ([]:List Int)).bind λcM=>RC n c n cM.2 0)))
def RE(n:Nat)(s:List aU):Option (List aU):=ay (room (([]:List aU).length+s.length) 48)<|some (([]:List aU)++s)
def RF(n:Nat)(s:List av3):Option (List av3):=ay (room (([]:List av3).length+s.length) 16)<|some (([]:List av3)++s)
def RG(c:gc):Option gc:=(RE n c.gd).bind λr1=>(RF n c.f9).bind λr2=>some (⟨c.bN,c.Rest,c.Next,c.dI,r1,r2⟩:gc)
def ZS(c:gc)(data:av3):Option gc:=(RG n c).bind λr1=>ay (room (r1.f9.length+([data]:List av3).length) 16)<|some (⟨r1.bN,r1.Rest,r1.Next,r1.dI,r1.gd,(r1.f9++([data]:List av3))⟩:gc)
def RH(n:Nat)(r1:av3×Int×Int)(ag:av3)(v2:Int):Option (av3×Int×Int):=some (r1.1,r1.2.2,v2)
def RI(bA:Int)(ag:av3)(fN:Int):Option (av3×Int×Int):=(sM n ag fN bA).bind λr1=>cond (decide (r1.2.2=0)) (RH n r1 ag r1.2.1) (RH n r1 ag fN)
def ZT(s:av3):Option (bC×Int):=cond (decide (16384<((s.length:Nat):Int))) (some ((⟨0,⟨0,0,[]⟩,[],[],⟨0,[]⟩,[],[],0⟩:bC),2)) ((Eb n s).bind λr2=>some (r2.1,r2.2))
def ZU(n:Nat)(bj:Int×Int×Int)(s:av3)(aR:bC×Int)(v21:Int)(v22:List av3):Option (bC×(List av3)×Int):=cond (cond (!decide (v21=((s.length:Nat):Int))) true (decide ((av5 (1099511627776-aR.1.Pos))<bj.1))) (some ((⟨0,⟨0,0,[]⟩,[],[],⟨0,[]⟩,[],[],0⟩:bC),([]:List av3),5)) (some (aR.1,v22,0))
def ZV(bj:Int×Int×Int)(s:av3)(aR:bC×Int)(ak:Int→(List av3)→Int→Option (bC×(List av3)×Int))(cr:Int)(bR:List av3)(bF:Int):Option (bC×(List av3)×Int):=cond (decide (bF<bj.1)) ((RI n 4096 s cr).bind λdT=>cond (!decide (dT.2.1=0)) (some ((⟨0,⟨0,0,[]⟩,[],[],⟨0,[]⟩,[],[],0⟩:bC),([]:List av3),dT.2.1)) (ay (room (bR.length+([dT.1]:List av3).length) 16)<|ak dT.2.2 (bR++([dT.1]:List av3)) (av5 (bF+1)))) (ZU n bj s aR cr bR)
def RJ(n:Nat)(bj:Int×Int×Int)(s:av3)(aR:bC×Int):Nat→Int→(List av3)→Int→Option (bC×(List av3)×Int)
 | 0=>λ_ _ _=>none
 |m+1=>ZV n bj s aR (RJ n bj s aR m)
def ZW(s:av3):Option (bC×(List av3)×Int):=cond (decide (16384<((s.length:Nat):Int))) (some ((⟨0,⟨0,0,[]⟩,[],[],⟨0,[]⟩,[],[],0⟩:bC),([]:List av3),2)) ((RI n 16384 s 0).bind λr2=>cond (!decide (r2.2.1=0)) (some ((⟨0,⟨0,0,[]⟩,[],[],⟨0,[]⟩,[],[],0⟩:bC),([]:List av3),r2.2.1)) ((ZT n r2.1).bind λaR=>cond (!decide (aR.2=0)) (some ((⟨0,⟨0,0,[]⟩,[],[],⟨0,[]⟩,[],[],0⟩:bC),([]:List av3),aR.2)) ((pm n s r2.2.2 16384).bind λbj=>cond (!decide (bj.2.2=0)) (some ((⟨0,⟨0,0,[]⟩,[],[],⟨0,[]⟩,[],[],0⟩:bC),([]:List av3),bj.2.2)) (RJ n bj s aR n bj.2.1 ([]:List av3) 0))))
def ZX(n:Nat)(c:Int):av7:=some (cond (decide (33≤c)) (decide (c≤126)) false)
def ZY(n:Nat):av7:=some true
def ZZ(s:av3)(ak:Int→av7)(v5:Int):av7:=cond (decide (v5<((s.length:Nat):Int))) (ay (aM v5 s.length)<|(ZX n (((s.getD (v5).toNat 0).toNat:Nat):Int)).bind λcC=>cond (!cC) (some false) (ak (av5 (v5+1)))) (ZY n)
def RK(n:Nat)(s:av3):Nat→Int→av7
 | 0=>λ_=>none
 |m+1=>ZZ n s (RK n s m)
def Z0(s:av3):av7:=cond (decide (24<((s.length:Nat):Int))) (some false) (RK n s n 0)
def RL(s:av3):av7:=(Z0 n s).bind λr1=>some r1
def JU(ah:Range):av7:=(RL n ah.dR).bind λr1=>Option.bind (cond r1 (RL n ah.pc) (some default)) λr2=>some (cond (cond r1 r2 false) (cond (decide (ah.pc=([]:av3))) true (!((Op.bytesLess ah.pc ah.dR)||(decide (ah.pc=ah.dR))))) false)
def Z1(ah:Range)(k:av3):av7:=(JU n ah).bind λr1=>some (cond (cond r1 ((Op.bytesLess ah.dR k)||(decide (ah.dR=k))) false) (cond (decide (ah.pc=([]:av3))) true (Op.bytesLess k ah.pc)) false)
def Z2(n:Nat)(c6:List aU):Option ((List aU)×av3×Int):=some (c6,([]:av3),0)
def RM(n:Nat)(ak:(List aU)→Int→Option ((List aU)×av3×Int))(bA:Int)(r3:(List aU)×Int)(v12:Int)(ah:Range)(dv:List aU):Option ((List aU)×av3×Int):=ak dv (av5 (v12+1))
def Z3(bA:Int)(r3:(List aU)×Int)(ah:Range)(ak:(List aU)→Int→Option ((List aU)×av3×Int))(v11:List aU)(v12:Int):Option ((List aU)×av3×Int):=cond (decide (v12<((r3.1.length:Nat):Int))) (ay (aM v12 r3.1.length)<|(Z1 n ah ((av6 r3.1 v12).Key)).bind λeQ=>cond (!eQ) (RM n ak bA r3 v12 ah v11) (cond (decide (bA≤((v11.length:Nat):Int))) (some (v11,(av6 r3.1 v12).Key,0)) (ay (room (v11.length+([(⟨(av6 r3.1 v12).Key,⟨((av6 r3.1 v12).bk).Kind,((av6 r3.1 v12).bk).N,((av6 r3.1 v12).bk).S⟩⟩:aU)]:List aU).length) 48)<|RM n ak bA r3 v12 ah (v11++([(⟨(av6 r3.1 v12).Key,⟨((av6 r3.1 v12).bk).Kind,((av6 r3.1 v12).bk).N,((av6 r3.1 v12).bk).S⟩⟩:aU)]:List aU))))) (Z2 n v11)
def RN(n:Nat)(bA:Int)(r3:(List aU)×Int)(ah:Range):Nat→(List aU)→Int→Option ((List aU)×av3×Int)
 | 0=>λ_ _=>none
 |m+1=>Z3 n bA r3 ah (RN n bA r3 ah m)
def Z4(s:aq)(at_:Int)(ah:Range)(bA:Int):Option ((List aU)×av3×Int):=(JU n ah).bind λr1=>cond (!r1) (some (([]:List aU),([]:av3),1)) ((y4 n s at_).bind λr3=>cond (!decide (r3.2=0)) (some (([]:List aU),([]:av3),r3.2)) (RN n bA r3 ah n ([]:List aU) 0))
def RO(c:gc)(s:aq)(eW:Int):Option (gc×Int):=Option.bind (cond (!(decide (eW<1))) (wx n s) (some default)) λr1=>Option.bind (cond (!(cond (decide (eW<1)) true (!r1))) (JU n (⟨c.Next,[]⟩:Range)) (some default)) λr2=>cond (cond (cond (decide (eW<1)) true (!r1)) true (!r2)) (some ((⟨0,⟨0,⟨0,0,[]⟩,[],[],⟨0,[]⟩,[],[],0⟩,[],false,[],[]⟩:gc),1)) ((RG n c).bind λaR=>cond c.dI (some (aR,0)) ((Z4 n s c.bN (⟨c.Next,[]⟩:Range) eW).bind λbj=>cond (!decide (bj.2.2=0)) (some ((⟨0,⟨0,⟨0,0,[]⟩,[],[],⟨0,[]⟩,[],[],0⟩,[],false,[],[]⟩:gc),bj.2.2)) (ay (room (aR.gd.length+bj.1.length) 48)<|some ((⟨aR.bN,aR.Rest,bj.2.1,(decide (bj.2.1=([]:av3))),(aR.gd++bj.1),aR.f9⟩:gc),0))))
def JV(n:Nat)(k:av3):Option aU:=some (⟨k,⟨1,1,[]⟩⟩:aU)
def Z5(n:Nat):av7:=some true
def RP(s:av3)(ak:Int→av7)(v5:Int):av7:=cond (decide (v5<((s.length:Nat):Int))) (ay (aM v5 s.length)<|ay ((decide ((((s.getD (v5).toNat 0).toNat:Nat):Int)<32))||aM v5 s.length)<|cond (cond (decide ((((s.getD (v5).toNat 0).toNat:Nat):Int)<32)) true (decide (126<(((s.getD (v5).toNat 0).toNat:Nat):Int)))) (some false) (ak (av5 (v5+1)))) (Z5 n)
def Ei(n:Nat)(s:av3):Nat→Int→av7
 | 0=>λ_=>none
 |m+1=>RP n s (Ei n s m)
def JW(s:av3):av7:=cond (decide (64<((s.length:Nat):Int))) (some false) (Ei n s n 0)
def uw(v:bH):av7:=cond (decide (v.Kind=0)) (some (cond (decide (v.N=0)) (decide (v.S=([]:av3))) false)) (cond (decide (v.Kind=1)) (some (decide (v.S=([]:av3)))) (Option.bind (cond (cond (decide (v.Kind=2)) (decide (v.N=0)) false) (JW n v.S) (some default)) λr3=>some (cond (cond (decide (v.Kind=2)) (decide (v.N=0)) false) r3 false)))
def RQ(n:Nat)(k:av3):av7:=some (cond (decide (1≤((k.length:Nat):Int))) (decide (((k.length:Nat):Int)≤24)) false)
def JX(k:av3)(ak:Int→av7)(v3:Int):av7:=cond (decide (v3<((k.length:Nat):Int))) (ay (aM v3 k.length)<|cond (cond (cond (cond (cond (cond (cond (decide ((((k.getD (v3).toNat 0).toNat:Nat):Int)<97)) true (decide (122<(((k.getD (v3).toNat 0).toNat:Nat):Int)))) (cond (decide ((((k.getD (v3).toNat 0).toNat:Nat):Int)<48)) true (decide (57<(((k.getD (v3).toNat 0).toNat:Nat):Int)))) false) (!decide ((((k.getD (v3).toNat 0).toNat:Nat):Int)=47)) false) (!decide ((((k.getD (v3).toNat 0).toNat:Nat):Int)=46)) false) (!decide ((((k.getD (v3).toNat 0).toNat:Nat):Int)=95)) false) (!decide ((((k.getD (v3).toNat 0).toNat:Nat):Int)=45)) false) (some false) (ak (av5 (v3+1)))) (RQ n k)
def Ac(n:Nat)(k:av3):Nat→Int→av7
 | 0=>λ_=>none
 |m+1=>JX n k (Ac n k m)
def xb(k:av3):av7:=Ac n k n 0
def RR(n:Nat):av7:=some true
def JY(l:List aU)(ak:Int→av7)(v6:Int):av7:=cond (decide (v6<((l.length:Nat):Int))) (ay (aM v6 l.length)<|(xb n ((av6 l v6).Key)).bind λcv=>ay ((!cv)||(!(decide (0<v6))||aM v6 l.length))<|ay ((!cv)||(!(decide (0<v6))||aM (av5 (v6-1)) l.length))<|cond (cond (!cv) true (cond (decide (0<v6)) ((Op.bytesLess ((av6 l v6).Key) ((av6 l (av5 (v6-1))).Key))||(decide (((av6 l v6).Key)=((av6 l (av5 (v6-1))).Key)))) false)) (some false) (ak (av5 (v6+1)))) (RR n)
def Ad(n:Nat)(l:List aU):Nat→Int→av7
 | 0=>λ_=>none
 |m+1=>JY n l (Ad n l m)
def JZ(l:List aU):av7:=Ad n l n 0
def RS(l:List aU):av7:=(JZ n l).bind λcv=>some cv
def J0(l:List aU)(ak:Int→av7)(v4:Int):av7:=cond (decide (v4<((l.length:Nat):Int))) (ay (aM v4 l.length)<|(uw n ((av6 l v4).bk)).bind λbj=>cond (!bj) (some false) (ak (av5 (v4+1)))) (RS n l)
def Ae(n:Nat)(l:List aU):Nat→Int→av7
 | 0=>λ_=>none
 |m+1=>J0 n l (Ae n l m)
def Ej(l:List aU):av7:=Ae n l n 0
def RT(l:List aU):av7:=(Ej n l).bind λbj=>some bj
def J1(l:List aU)(ak:Int→av7)(v3:Int):av7:=cond (decide (v3<((l.length:Nat):Int))) (ay (aM v3 l.length)<|cond (decide (((av6 l v3).bk).Kind=0)) (some false) (ak (av5 (v3+1)))) (RT n l)
def Af(n:Nat)(l:List aU):Nat→Int→av7
 | 0=>λ_=>none
 |m+1=>J1 n l (Af n l m)
def J2(l:List aU):av7:=Af n l n 0
def RU(n:Nat)(at_:Int)(bF:List Row):Option (aq×Int):=some ((⟨at_,at_,bF⟩:aq),0)
def J3(l:List aU)(at_:Int)(ak:(List Row)→Int→Option (aq×Int))(bE:List Row)(v9:Int):Option (aq×Int):=cond (decide (v9<((l.length:Nat):Int))) (ay (aM v9 l.length)<|ay (aM v9 l.length)<|ay (room (bE.length+([(⟨(av6 l v9).Key,[⟨at_,⟨((av6 l v9).bk).Kind,((av6 l v9).bk).N,((av6 l v9).bk).S⟩⟩]⟩:Row)]:List Row).length) 40)<|ak (bE++([(⟨(av6 l v9).Key,[⟨at_,⟨((av6 l v9).bk).Kind,((av6 l v9).bk).N,((av6 l v9).bk).S⟩⟩]⟩:Row)]:List Row)) (av5 (v9+1))) (RU n at_ bE)
def Ag(n:Nat)(l:List aU)(at_:Int):Nat→(List Row)→Int→Option (aq×Int)
 | 0=>λ_ _=>none
 |m+1=>J3 n l at_ (Ag n l at_ m)
def Ah(l:List aU)(at_:Int):Option (aq×Int):=(J2 n l).bind λr1=>cond (cond (cond (!r1) true (decide (at_<0))) true (decide (1099511627776<at_))) (some ((⟨0,0,[]⟩:aq),1)) (Ag n l at_ n ([]:List Row) 0)
def Z6:Option bC:=(JV n ([97]:av3)).bind λr1=>(JV n ([98]:av3)).bind λr2=>(JV n ([99]:av3)).bind λr3=>(Ah n ([r1,r2,r3]:List aU) 5).bind λaR=>some (⟨5,aR.1,[],[],⟨0,[⟨1,[],1,0,[]⟩]⟩,[],[],0⟩:bC)
def RV(n:Nat):av7:=some true
def J4(a:List av3)(b:List av3)(ak:Int→av7)(v5:Int):av7:=cond (decide (v5<((a.length:Nat):Int))) (ay (aM v5 a.length)<|ay (aM v5 b.length)<|cond (!(decide ((av6 a v5)=(av6 b v5)))) (some false) (ak (av5 (v5+1)))) (RV n)
def Ai(n:Nat)(a:List av3)(b:List av3):Nat→Int→av7
 | 0=>λ_=>none
 |m+1=>J4 n a b (Ai n a b m)
def xc(a:List av3)(b:List av3):av7:=cond (!decide (((a.length:Nat):Int)=((b.length:Nat):Int))) (some false) (Ai n a b n 0)
def Z7(n:Nat)(l:List av3)(k:av3)(v6:Int):Option (List av3):=ay (!(decide (v6<((l.length:Nat):Int)))||aM v6 l.length)<|cond (cond (decide (v6<((l.length:Nat):Int))) (decide ((av6 l v6)=k)) false) (some l) (ay (gV v6 l.length)<|ay (room (([]:List av3).length+(l.take (v6).toNat).length) 16)<|ay (room ((([]:List av3)++(l.take (v6).toNat)).length+([k]:List av3).length) 16)<|ay (gV v6 l.length)<|ay (room (((([]:List av3)++(l.take (v6).toNat))++([k]:List av3)).length+(l.drop (v6).toNat).length) 16)<|some (((([]:List av3)++(l.take (v6).toNat))++([k]:List av3))++(l.drop (v6).toNat)))
def Z8(l:List av3)(k:av3)(ak:Int→Option (List av3))(v3:Int):Option (List av3):=ay (!(decide (v3<((l.length:Nat):Int)))||aM v3 l.length)<|cond (cond (decide (v3<((l.length:Nat):Int))) (Op.bytesLess (av6 l v3) k) false) (ak (av5 (v3+1))) (Z7 n l k v3)
def RW(n:Nat)(l:List av3)(k:av3):Nat→Int→Option (List av3)
 | 0=>λ_=>none
 |m+1=>Z8 n l k (RW n l k m)
def Z9(l:List av3)(k:av3):Option (List av3):=RW n l k n 0
def RX(v:bH):av7:=(uw n v).bind λr1=>some r1
def RY(n:Nat):av7:=some true
def J5(floor:Int)(last:Int)(ah:Row)(ak:Int→av7)(v9:Int):av7:=cond (decide (v9<((ah.bp.length:Nat):Int))) (ay (aM v9 ah.bp.length)<|(RX n (⟨((av6 ah.bp v9).bk).Kind,((av6 ah.bp v9).bk).N,((av6 ah.bp v9).bk).S⟩:bH)).bind λb4=>cond (cond (cond (!b4) true (decide ((av6 ah.bp v9).bN<floor))) true (decide (last<(av6 ah.bp v9).bN))) (some false) (ay (!(decide (0<v9))||aM (av5 (v9-1)) ah.bp.length)<|ay (!(decide (0<v9))||((decide ((av6 ah.bp v9).bN≤(av6 ah.bp (av5 (v9-1))).bN))||aM (av5 (v9-1)) ah.bp.length))<|cond (cond (decide (0<v9)) (cond (decide ((av6 ah.bp v9).bN≤(av6 ah.bp (av5 (v9-1))).bN)) true ((decide (((av6 ah.bp v9).bk).Kind=((av6 ah.bp (av5 (v9-1))).bk).Kind))&&((decide (((av6 ah.bp v9).bk).N=((av6 ah.bp (av5 (v9-1))).bk).N))&&((decide (((av6 ah.bp v9).bk).S=((av6 ah.bp (av5 (v9-1))).bk).S))&&true)))) false) (some false) (ak (av5 (v9+1))))) (RY n)
def Aj(n:Nat)(floor:Int)(last:Int)(ah:Row):Nat→Int→av7
 | 0=>λ_=>none
 |m+1=>J5 n floor last ah (Aj n floor last ah m)
def J6(ah:Row)(floor:Int)(last:Int):av7:=(xb n ah.Key).bind λr1=>ay ((cond (!r1) true (decide (((ah.bp.length:Nat):Int)=0)))||aM 0 ah.bp.length)<|cond (cond (cond (!r1) true (decide (((ah.bp.length:Nat):Int)=0))) true (decide (((ah.bp.getD 0 default).bk).Kind=0))) (some false) (Aj n floor last ah n 0)
def RZ(n:Nat):av7:=some true
def J7(s:aq)(ak:Int→av7)(bD:Int):av7:=cond (decide (bD<((s.Rows.length:Nat):Int))) (ay (aM bD s.Rows.length)<|(J6 n (av6 s.Rows bD) s.bx s.br).bind λcM=>ay ((!cM)||(!(decide (0<bD))||aM (av5 (bD-1)) s.Rows.length))<|ay ((!cM)||(!(decide (0<bD))||aM bD s.Rows.length))<|cond (cond (!cM) true (cond (decide (0<bD)) (!(Op.bytesLess ((av6 s.Rows (av5 (bD-1))).Key) ((av6 s.Rows bD).Key))) false)) (some false) (ak (av5 (bD+1)))) (RZ n)
def Ak(n:Nat)(s:aq):Nat→Int→av7
 | 0=>λ_=>none
 |m+1=>J7 n s (Ak n s m)
def xd(s:aq):av7:=cond (cond (cond (decide (s.bx<0)) true (decide (s.br<s.bx))) true (decide (1099511627776<s.br))) (some false) (Ak n s n 0)
def Z'(n:Nat)(key:av3):Option Row:=some (⟨key,[]⟩:Row)
def Z_(key:av3)(s:aq)(ak:Int→Option Row)(v4:Int):Option Row:=cond (decide (v4<((s.Rows.length:Nat):Int))) (ay (aM v4 s.Rows.length)<|cond (decide (((av6 s.Rows v4).Key)=key)) (ay (aM v4 s.Rows.length)<|some (av6 s.Rows v4)) (ak (av5 (v4+1)))) (Z' n key)
def R0(n:Nat)(key:av3)(s:aq):Nat→Int→Option Row
 | 0=>λ_=>none
 |m+1=>Z_ n key s (R0 n key s m)
def aaa(s:aq)(key:av3):Option Row:=R0 n key s n 0
def R1(n:Nat)(v23:Int)(v24:Int)(v25:av3):Option bH:=some (⟨v23,v24,v25⟩:bH)
def J8(n:Nat)(ak:Int→Int→av3→Int→Option bH)(at_:Int)(cr:Int)(ah:Row)(dv:Int)(a1:Int)(cj:av3):Option bH:=ak dv a1 cj (av5 (cr+1))
def R2(at_:Int)(ah:Row)(ak:Int→Int→av3→Int→Option bH)(v10:Int)(v11:Int)(v12:av3)(cr:Int):Option bH:=cond (decide (cr<((ah.bp.length:Nat):Int))) (ay (aM cr ah.bp.length)<|cond (decide ((av6 ah.bp cr).bN≤at_)) (ay (aM cr ah.bp.length)<|J8 n ak at_ cr ah (((av6 ah.bp cr).bk).Kind) (((av6 ah.bp cr).bk).N) (((av6 ah.bp cr).bk).S)) (J8 n ak at_ cr ah v10 v11 v12)) (R1 n v10 v11 v12)
def Ek(n:Nat)(at_:Int)(ah:Row):Nat→Int→Int→av3→Int→Option bH
 | 0=>λ_ _ _ _=>none
 |m+1=>R2 n at_ ah (Ek n at_ ah m)
def El(ah:Row)(at_:Int):Option bH:=Ek n at_ ah n 0 0 ([]:av3) 0
def aab(n:Nat)(s:aq)(at_:Int)(J9:List Row):Option (aq×Int):=some ((⟨s.bx,at_,J9⟩:aq),0)
def R3(n:Nat)(d_:(List Row)→Int→Option (aq×Int))(at_:Int)(writes:List aU)(v26:List av3)(h6:Int)(s:aq)(J':List Row):Option (aq×Int):=d_ J' (av5 (h6+1))
def aac(d_:(List Row)→Int→Option (aq×Int))(at_:Int)(writes:List aU)(v26:List av3)(h6:Int)(s:aq)(v53:List Row)(fl:Row)(v76:List Version):Option (aq×Int):=cond (decide (0<((v76.length:Nat):Int))) (ay (room (v53.length+([(⟨fl.Key,v76⟩:Row)]:List Row).length) 40)<|R3 n d_ at_ writes v26 h6 s (v53++([(⟨fl.Key,v76⟩:Row)]:List Row))) (R3 n d_ at_ writes v26 h6 s v53)
def R4(n:Nat)(ux:(List Version)→Int→Option (aq×Int))(d_:(List Row)→Int→Option (aq×Int))(at_:Int)(writes:List aU)(v26:List av3)(h6:Int)(gD:Int)(s:aq)(v53:List Row)(fl:Row)(J_:List Version):Option (aq×Int):=ux J_ (av5 (gD+1))
def aad(d_:(List Row)→Int→Option (aq×Int))(at_:Int)(writes:List aU)(v26:List av3)(h6:Int)(s:aq)(v53:List Row)(fl:Row)(ux:(List Version)→Int→Option (aq×Int))(sW:List Version)(gD:Int):Option (aq×Int):=cond (decide (gD<((writes.length:Nat):Int))) (ay (aM gD writes.length)<|ay (!(decide (((av6 writes gD).Key)=fl.Key))||aM gD writes.length)<|Option.bind (cond (decide (((av6 writes gD).Key)=fl.Key)) (El n fl s.br) (some default)) λna=>cond (cond (decide (((av6 writes gD).Key)=fl.Key)) (!((decide (((av6 writes gD).bk).Kind=na.Kind))&&((decide (((av6 writes gD).bk).N=na.N))&&((decide (((av6 writes gD).bk).S=na.S))&&true)))) false) (ay (aM gD writes.length)<|ay (room (sW.length+([(⟨at_,⟨((av6 writes gD).bk).Kind,((av6 writes gD).bk).N,((av6 writes gD).bk).S⟩⟩:Version)]:List Version).length) 40)<|R4 n ux d_ at_ writes v26 h6 gD s v53 fl (sW++([(⟨at_,⟨((av6 writes gD).bk).Kind,((av6 writes gD).bk).N,((av6 writes gD).bk).S⟩⟩:Version)]:List Version))) (R4 n ux d_ at_ writes v26 h6 gD s v53 fl sW)) (aac n d_ at_ writes v26 h6 s v53 fl sW)
def R5(n:Nat)(d_:(List Row)→Int→Option (aq×Int))(at_:Int)(writes:List aU)(v26:List av3)(h6:Int)(s:aq)(v53:List Row)(fl:Row):Nat→(List Version)→Int→Option (aq×Int)
 | 0=>λ_ _=>none
 |m+1=>aad n d_ at_ writes v26 h6 s v53 fl (R5 n d_ at_ writes v26 h6 s v53 fl m)
def aae(at_:Int)(writes:List aU)(v26:List av3)(s:aq)(d_:(List Row)→Int→Option (aq×Int))(v53:List Row)(h6:Int):Option (aq×Int):=cond (decide (h6<((v26.length:Nat):Int))) (ay (aM h6 v26.length)<|(aaa n s (av6 v26 h6)).bind λfl=>ay (room (([]:List Version).length+fl.bp.length) 40)<|R5 n d_ at_ writes v26 h6 s v53 fl n (([]:List Version)++fl.bp) 0) (aab n s at_ v53)
def R6(n:Nat)(at_:Int)(writes:List aU)(v26:List av3)(s:aq):Nat→(List Row)→Int→Option (aq×Int)
 | 0=>λ_ _=>none
 |m+1=>aae n at_ writes v26 s (R6 n at_ writes v26 s m)
def aaf(at_:Int)(writes:List aU)(s:aq)(v26:List av3):Option (aq×Int):=R6 n at_ writes v26 s n ([]:List Row) 0
def aag(at_:Int)(writes:List aU)(s:aq)(aah:Int→(List av3)→Option (aq×Int))(v20:Int)(v21:List av3):Option (aq×Int):=cond (decide (v20<((writes.length:Nat):Int))) (ay (aM v20 writes.length)<|(Z9 n v21 ((av6 writes v20).Key)).bind λfj=>aah (av5 (v20+1)) fj) (aaf n at_ writes s v21)
def R7(n:Nat)(at_:Int)(writes:List aU)(s:aq):Nat→Int→(List av3)→Option (aq×Int)
 | 0=>λ_ _=>none
 |m+1=>aag n at_ writes s (R7 n at_ writes s m)
def aai(at_:Int)(writes:List aU)(s:aq)(bF:List av3):Option (aq×Int):=R7 n at_ writes s n 0 bF
def aaj(at_:Int)(writes:List aU)(s:aq)(aak:(List av3)→Int→Option (aq×Int))(v9:List av3)(v10:Int):Option (aq×Int):=cond (decide (v10<((s.Rows.length:Nat):Int))) (ay (aM v10 s.Rows.length)<|ay (room (v9.length+([(av6 s.Rows v10).Key]:List av3).length) 16)<|aak (v9++([(av6 s.Rows v10).Key]:List av3)) (av5 (v10+1))) (aai n at_ writes s v9)
def R8(n:Nat)(at_:Int)(writes:List aU)(s:aq):Nat→(List av3)→Int→Option (aq×Int)
 | 0=>λ_ _=>none
 |m+1=>aaj n at_ writes s (R8 n at_ writes s m)
def aal(s:aq)(at_:Int)(writes:List aU):Option (aq×Int):=(xd n s).bind λr1=>Option.bind (cond (!(!r1)) (Ej n writes) (some default)) λr2=>cond (cond (!r1) true (!r2)) (some ((⟨0,0,[]⟩:aq),1)) (cond (cond (decide (at_≤s.br)) true (decide (1099511627776<at_))) (some ((⟨0,0,[]⟩:aq),16)) (R8 n at_ writes s n ([]:List av3) 0))
def R9(n:Nat)(nN:Expr→Expr→av7):av7:=some true
def R'(nN:Expr→Expr→av7)(a:Expr)(b:Expr)(ak:Int→av7)(v6:Int):av7:=cond (decide (v6<((a.ax.length:Nat):Int))) (ay (aM v6 a.ax.length)<|ay (aM v6 b.ax.length)<|(nN (av6 a.ax v6) (av6 b.ax v6)).bind λcM=>cond (!cM) (some false) (ak (av5 (v6+1)))) (R9 n nN)
def Em(n:Nat)(nN:Expr→Expr→av7)(a:Expr)(b:Expr):Nat→Int→av7
 | 0=>λ_=>none
 |m+1=>R' n nN a b (Em n nN a b m)
def R_(nN:Expr→Expr→av7)(a:Expr)(b:Expr):av7:=cond (cond (cond (cond (!decide (a.Op=b.Op)) true (!decide (a.N=b.N))) true (!(decide (a.S=b.S)))) true (!decide (((a.ax.length:Nat):Int)=((b.ax.length:Nat):Int)))) (some false) (Em n nN a b n 0)
def xe:Nat→Expr→Expr→av7
 | 0=>λ_ _=>none
 |m+1=>R_ m (xe m)
def Sa(n:Nat)(nc:(List Stmt)→(List Stmt)→av7):av7:=some true
def Sb(nc:(List Stmt)→(List Stmt)→av7)(a:List Stmt)(b:List Stmt)(ak:Int→av7)(v9:Int):av7:=cond (decide (v9<((a.length:Nat):Int))) (ay (aM v9 a.length)<|ay (aM v9 b.length)<|Option.bind (cond (!(cond (cond (!decide ((av6 a v9).Op=(av6 b v9).Op)) true (!(decide (((av6 a v9).Name)=((av6 b v9).Name))))) true (!decide ((av6 a v9).Max=(av6 b v9).Max)))) (xe n (⟨((av6 a v9).A).Op,((av6 a v9).A).N,((av6 a v9).A).S,((av6 a v9).A).ax⟩:Expr) (⟨((av6 b v9).A).Op,((av6 b v9).A).N,((av6 b v9).A).S,((av6 b v9).A).ax⟩:Expr)) (some default)) λeJ=>Option.bind (cond (!(cond (cond (cond (!decide ((av6 a v9).Op=(av6 b v9).Op)) true (!(decide (((av6 a v9).Name)=((av6 b v9).Name))))) true (!decide ((av6 a v9).Max=(av6 b v9).Max))) true (!eJ))) (xe n (⟨((av6 a v9).B).Op,((av6 a v9).B).N,((av6 a v9).B).S,((av6 a v9).B).ax⟩:Expr) (⟨((av6 b v9).B).Op,((av6 b v9).B).N,((av6 b v9).B).S,((av6 b v9).B).ax⟩:Expr)) (some default)) λdX=>Option.bind (cond (!(cond (cond (cond (cond (!decide ((av6 a v9).Op=(av6 b v9).Op)) true (!(decide (((av6 a v9).Name)=((av6 b v9).Name))))) true (!decide ((av6 a v9).Max=(av6 b v9).Max))) true (!eJ)) true (!dX))) (nc ((av6 a v9).Body) ((av6 b v9).Body)) (some default)) λeQ=>Option.bind (cond (!(cond (cond (cond (cond (cond (!decide ((av6 a v9).Op=(av6 b v9).Op)) true (!(decide (((av6 a v9).Name)=((av6 b v9).Name))))) true (!decide ((av6 a v9).Max=(av6 b v9).Max))) true (!eJ)) true (!dX)) true (!eQ))) (nc ((av6 a v9).bB) ((av6 b v9).bB)) (some default)) λdY=>cond (cond (cond (cond (cond (cond (cond (!decide ((av6 a v9).Op=(av6 b v9).Op)) true (!(decide (((av6 a v9).Name)=((av6 b v9).Name))))) true (!decide ((av6 a v9).Max=(av6 b v9).Max))) true (!eJ)) true (!dX)) true (!eQ)) true (!dY)) (some false) (ak (av5 (v9+1)))) (Sa n nc)
def En(n:Nat)(nc:(List Stmt)→(List Stmt)→av7)(a:List Stmt)(b:List Stmt):Nat→Int→av7
 | 0=>λ_=>none
 |m+1=>Sb n nc a b (En n nc a b m)
def Sc(nc:(List Stmt)→(List Stmt)→av7)(a:List Stmt)(b:List Stmt):av7:=cond (!decide (((a.length:Nat):Int)=((b.length:Nat):Int))) (some false) (En n nc a b n 0)
def Al:Nat→(List Stmt)→(List Stmt)→av7
 | 0=>λ_ _=>none
 |m+1=>Sc m (Al m)
def Sd(a:bg)(b:bg):av7:=(Al n a.Body b.Body).bind λcM=>some cM
def Se(a:bg)(b:bg)(ak:Int→av7)(v5:Int):av7:=cond (decide (v5<((a.Params.length:Nat):Int))) (ay (aM v5 a.Params.length)<|ay (aM v5 b.Params.length)<|cond (!((decide ((av6 a.Params v5).Name=(av6 b.Params v5).Name))&&((decide ((av6 a.Params v5).fy=(av6 b.Params v5).fy))&&true))) (some false) (ak (av5 (v5+1)))) (Sd n a b)
def Eo(n:Nat)(a:bg)(b:bg):Nat→Int→av7
 | 0=>λ_=>none
 |m+1=>Se n a b (Eo n a b m)
def Ka(a:bg)(b:bg):av7:=cond (cond (!(decide (a.Name=b.Name))) true (!decide (((a.Params.length:Nat):Int)=((b.Params.length:Nat):Int)))) (some false) (Eo n a b n 0)
def Sf(n:Nat):av7:=some true
def Kb(a:List bg)(b:List bg)(ak:Int→av7)(v6:Int):av7:=cond (decide (v6<((a.length:Nat):Int))) (ay (aM v6 a.length)<|ay (aM v6 b.length)<|(Ka n (av6 a v6) (av6 b v6)).bind λcM=>cond (!cM) (some false) (ak (av5 (v6+1)))) (Sf n)
def Am(n:Nat)(a:List bg)(b:List bg):Nat→Int→av7
 | 0=>λ_=>none
 |m+1=>Kb n a b (Am n a b m)
def Kc(a:List bg)(b:List bg):av7:=cond (!decide (((a.length:Nat):Int)=((b.length:Nat):Int))) (some false) (Am n a b n 0)
def Sg(n:Nat):av7:=some true
def Sh(n:Nat)(ak:Int→av7)(v12:Int)(a:aq)(b:aq):av7:=ak (av5 (v12+1))
def Kd(ak:Int→av7)(v12:Int)(a:aq)(b:aq)(d_:Int→av7)(cj:Int):av7:=cond (decide (cj<((((av6 a.Rows v12).bp).length:Nat):Int))) (ay (aM cj ((av6 a.Rows v12).bp).length)<|ay (aM cj ((av6 b.Rows v12).bp).length)<|cond (!((decide ((((av6 a.Rows v12).bp).getD (cj).toNat default).bN=(((av6 b.Rows v12).bp).getD (cj).toNat default).bN))&&((decide (((((av6 a.Rows v12).bp).getD (cj).toNat default).bk).Kind=((((av6 b.Rows v12).bp).getD (cj).toNat default).bk).Kind))&&((decide (((((av6 a.Rows v12).bp).getD (cj).toNat default).bk).N=((((av6 b.Rows v12).bp).getD (cj).toNat default).bk).N))&&((decide (((((av6 a.Rows v12).bp).getD (cj).toNat default).bk).S=((((av6 b.Rows v12).bp).getD (cj).toNat default).bk).S))&&true))))) (some false) (d_ (av5 (cj+1)))) (Sh n ak v12 a b)
def An(n:Nat)(ak:Int→av7)(v12:Int)(a:aq)(b:aq):Nat→Int→av7
 | 0=>λ_=>none
 |m+1=>Kd n ak v12 a b (An n ak v12 a b m)
def Ke(a:aq)(b:aq)(ak:Int→av7)(v12:Int):av7:=cond (decide (v12<((a.Rows.length:Nat):Int))) (ay (aM v12 a.Rows.length)<|ay (aM v12 b.Rows.length)<|cond (cond (!(decide (((av6 a.Rows v12).Key)=((av6 b.Rows v12).Key)))) true (!decide (((((av6 a.Rows v12).bp).length:Nat):Int)=((((av6 b.Rows v12).bp).length:Nat):Int)))) (some false) (An n ak v12 a b n 0)) (Sg n)
def uy(n:Nat)(a:aq)(b:aq):Nat→Int→av7
 | 0=>λ_=>none
 |m+1=>Ke n a b (uy n a b m)
def Kf(a:aq)(b:aq):av7:=cond (cond (cond (!decide (a.bx=b.bx)) true (!decide (a.br=b.br))) true (!decide (((a.Rows.length:Nat):Int)=((b.Rows.length:Nat):Int)))) (some false) (uy n a b n 0)
def Si(n:Nat):av7:=some true
def Kg(a:b8)(b:b8)(ak:Int→av7)(v5:Int):av7:=cond (decide (v5<((a.aE.length:Nat):Int))) (ay (aM v5 a.aE.length)<|ay (aM v5 b.aE.length)<|cond (!((decide ((av6 a.aE v5).Id=(av6 b.aE v5).Id))&&((decide ((av6 a.aE v5).dR=(av6 b.aE v5).dR))&&((decide ((av6 a.aE v5).Node=(av6 b.aE v5).Node))&&((decide ((av6 a.aE v5).fH=(av6 b.aE v5).fH))&&((decide ((av6 a.aE v5).dI=(av6 b.aE v5).dI))&&true)))))) (some false) (ak (av5 (v5+1)))) (Si n)
def Ao(n:Nat)(a:b8)(b:b8):Nat→Int→av7
 | 0=>λ_=>none
 |m+1=>Kg n a b (Ao n a b m)
def Kh(a:b8)(b:b8):av7:=cond (cond (!decide (a.Version=b.Version)) true (!decide (((a.aE.length:Nat):Int)=((b.aE.length:Nat):Int)))) (some false) (Ao n a b n 0)
def Sj(n:Nat):av7:=some true
def Ki(a:List bc)(b:List bc)(ak:Int→av7)(v5:Int):av7:=cond (decide (v5<((a.length:Nat):Int))) (ay (aM v5 a.length)<|ay (aM v5 b.length)<|cond (!((decide ((av6 a v5).Key=(av6 b v5).Key))&&((decide ((av6 a v5).Count=(av6 b v5).Count))&&true))) (some false) (ak (av5 (v5+1)))) (Sj n)
def Ap(n:Nat)(a:List bc)(b:List bc):Nat→Int→av7
 | 0=>λ_=>none
 |m+1=>Ki n a b (Ap n a b m)
def Kj(a:List bc)(b:List bc):av7:=cond (!decide (((a.length:Nat):Int)=((b.length:Nat):Int))) (some false) (Ap n a b n 0)
def Sk(a:fz)(b:fz):av7:=Option.bind (cond (a.ek == b.ek) (xc n a.Reads b.Reads) (some default)) λr1=>Option.bind (cond (cond (a.ek == b.ek) r1 false) (xc n a.cA b.cA) (some default)) λr2=>some (cond (cond (a.ek == b.ek) r1 false) r2 false)
def Sl(n:Nat):av7:=some true
def Kk(a:Request)(b:Request)(ak:Int→av7)(v6:Int):av7:=cond (decide (v6<((a.ax.length:Nat):Int))) (ay (aM v6 a.ax.length)<|ay (aM v6 b.ax.length)<|cond (!((decide ((av6 a.ax v6).Kind=(av6 b.ax v6).Kind))&&((decide ((av6 a.ax v6).N=(av6 b.ax v6).N))&&((decide ((av6 a.ax v6).S=(av6 b.ax v6).S))&&true)))) (some false) (ak (av5 (v6+1)))) (Sl n)
def Aq(n:Nat)(a:Request)(b:Request):Nat→Int→av7
 | 0=>λ_=>none
 |m+1=>Kk n a b (Aq n a b m)
def Kl(a:Request)(b:Request):av7:=Option.bind (cond (!(cond (cond (cond (cond (!decide (a.Client=b.Client)) true (!decide (a.Seq=b.Seq))) true (!(decide (a.bg=b.bg)))) true (!(a.eS == b.eS))) true (!decide (((a.ax.length:Nat):Int)=((b.ax.length:Nat):Int))))) (Sk n a.bv b.bv) (some default)) λr1=>cond (cond (cond (cond (cond (cond (!decide (a.Client=b.Client)) true (!decide (a.Seq=b.Seq))) true (!(decide (a.bg=b.bg)))) true (!(a.eS == b.eS))) true (!decide (((a.ax.length:Nat):Int)=((b.ax.length:Nat):Int)))) true (!r1)) (some false) (Aq n a b n 0)
def Sm(n:Nat):av7:=some true
def Km(a:Outcome)(b:Outcome)(ak:Int→av7)(v5:Int):av7:=cond (decide (v5<((a.Out.length:Nat):Int))) (ay (aM v5 a.Out.length)<|ay (aM v5 b.Out.length)<|cond (!((decide ((av6 a.Out v5).Kind=(av6 b.Out v5).Kind))&&((decide ((av6 a.Out v5).N=(av6 b.Out v5).N))&&((decide ((av6 a.Out v5).S=(av6 b.Out v5).S))&&true)))) (some false) (ak (av5 (v5+1)))) (Sm n)
def Ar(n:Nat)(a:Outcome)(b:Outcome):Nat→Int→av7
 | 0=>λ_=>none
 |m+1=>Km n a b (Ar n a b m)
def Ep(a:Outcome)(b:Outcome):av7:=cond (cond (cond (!decide (a.Status=b.Status)) true (!decide (a.Code=b.Code))) true (!decide (((a.Out.length:Nat):Int)=((b.Out.length:Nat):Int)))) (some false) (Ar n a b n 0)
def Sn(a:e_)(b:e_):av7:=Option.bind (cond (cond (decide (a.Client=b.Client)) (decide (a.Seq=b.Seq)) false) (Ep n a.Outcome b.Outcome) (some default)) λr1=>some (cond (cond (decide (a.Client=b.Client)) (decide (a.Seq=b.Seq)) false) r1 false)
def So(n:Nat):av7:=some true
def Kn(a:List e_)(b:List e_)(ak:Int→av7)(v6:Int):av7:=cond (decide (v6<((a.length:Nat):Int))) (ay (aM v6 a.length)<|ay (aM v6 b.length)<|(Sn n (av6 a v6) (av6 b v6)).bind λcM=>cond (!cM) (some false) (ak (av5 (v6+1)))) (So n)
def As(n:Nat)(a:List e_)(b:List e_):Nat→Int→av7
 | 0=>λ_=>none
 |m+1=>Kn n a b (As n a b m)
def Ko(a:List e_)(b:List e_):av7:=cond (!decide (((a.length:Nat):Int)=((b.length:Nat):Int))) (some false) (As n a b n 0)
def Sp(n:Nat):av7:=some true
def Kp(a:List b0)(b:List b0)(ak:Int→av7)(v10:Int):av7:=cond (decide (v10<((a.length:Nat):Int))) (ay (aM v10 a.length)<|ay (aM v10 b.length)<|ay ((!decide ((av6 a v10).Client=(av6 b v10).Client))||aM v10 a.length)<|ay ((!decide ((av6 a v10).Client=(av6 b v10).Client))||aM v10 b.length)<|ay ((cond (!decide ((av6 a v10).Client=(av6 b v10).Client)) true (!decide ((av6 a v10).Next=(av6 b v10).Next)))||aM v10 a.length)<|ay ((cond (!decide ((av6 a v10).Client=(av6 b v10).Client)) true (!decide ((av6 a v10).Next=(av6 b v10).Next)))||aM v10 b.length)<|Option.bind (cond (!(cond (!decide ((av6 a v10).Client=(av6 b v10).Client)) true (!decide ((av6 a v10).Next=(av6 b v10).Next)))) (Ko n ((av6 a v10).b') ((av6 b v10).b')) (some default)) λfk=>cond (cond (cond (!decide ((av6 a v10).Client=(av6 b v10).Client)) true (!decide ((av6 a v10).Next=(av6 b v10).Next))) true (!fk)) (some false) (ak (av5 (v10+1)))) (Sp n)
def At(n:Nat)(a:List b0)(b:List b0):Nat→Int→av7
 | 0=>λ_=>none
 |m+1=>Kp n a b (At n a b m)
def Kq(a:List b0)(b:List b0):av7:=cond (!decide (((a.length:Nat):Int)=((b.length:Nat):Int))) (some false) (At n a b n 0)
def Sq(n:Nat):av7:=some true
def Kr(a:bC)(b:bC)(ak:Int→av7)(v11:Int):av7:=cond (decide (v11<((a.Queue.length:Nat):Int))) (ay (aM v11 a.Queue.length)<|ay (aM v11 b.Queue.length)<|(Kl n (av6 a.Queue v11) (av6 b.Queue v11)).bind λeQ=>cond (!eQ) (some false) (ak (av5 (v11+1)))) (Sq n)
def Au(n:Nat)(a:bC)(b:bC):Nat→Int→av7
 | 0=>λ_=>none
 |m+1=>Kr n a b (Au n a b m)
def Av(a:bC)(b:bC):av7:=Option.bind (cond (!(cond (!decide (a.Pos=b.Pos)) true (!decide (a.cg=b.cg)))) (Kf n a.aq b.aq) (some default)) λr1=>Option.bind (cond (!(cond (cond (!decide (a.Pos=b.Pos)) true (!decide (a.cg=b.cg))) true (!r1))) (Kc n a.bP b.bP) (some default)) λr2=>Option.bind (cond (!(cond (cond (cond (!decide (a.Pos=b.Pos)) true (!decide (a.cg=b.cg))) true (!r1)) true (!r2))) (Kq n a.bU b.bU) (some default)) λr3=>Option.bind (cond (!(cond (cond (cond (cond (!decide (a.Pos=b.Pos)) true (!decide (a.cg=b.cg))) true (!r1)) true (!r2)) true (!r3))) (Kh n a.Place b.Place) (some default)) λaR=>Option.bind (cond (!(cond (cond (cond (cond (cond (!decide (a.Pos=b.Pos)) true (!decide (a.cg=b.cg))) true (!r1)) true (!r2)) true (!r3)) true (!aR))) (Kj n a.bc b.bc) (some default)) λbZ=>cond (cond (cond (cond (cond (cond (cond (cond (!decide (a.Pos=b.Pos)) true (!decide (a.cg=b.cg))) true (!r1)) true (!r2)) true (!r3)) true (!aR)) true (!bZ)) true (!decide (((a.Queue.length:Nat):Int)=((b.Queue.length:Nat):Int)))) (some false) (Au n a b n 0)
def Sr(n:Nat)(a1:List aU):Option (List aU):=some a1
def Er(n:Nat)(ak:(List aU)→Int→Option (List aU))(at_:Int)(v9:Int)(s:aq)(bR:List aU):Option (List aU):=ak bR (av5 (v9+1))
def Ss(at_:Int)(s:aq)(ak:(List aU)→Int→Option (List aU))(bE:List aU)(v9:Int):Option (List aU):=cond (decide (v9<((s.Rows.length:Nat):Int))) (ay (aM v9 s.Rows.length)<|(El n (av6 s.Rows v9) at_).bind λb4=>cond (!decide (b4.Kind=0)) (ay (aM v9 s.Rows.length)<|ay (room (bE.length+([(⟨(av6 s.Rows v9).Key,b4⟩:aU)]:List aU).length) 48)<|Er n ak at_ v9 s (bE++([(⟨(av6 s.Rows v9).Key,b4⟩:aU)]:List aU))) (Er n ak at_ v9 s bE)) (Sr n bE)
def Aw(n:Nat)(at_:Int)(s:aq):Nat→(List aU)→Int→Option (List aU)
 | 0=>λ_ _=>none
 |m+1=>Ss n at_ s (Aw n at_ s m)
def St(s:aq)(at_:Int):Option (List aU):=Aw n at_ s n ([]:List aU) 0
def Ks(s:aq)(at_:Int):Option ((List aU)×Int):=(xd n s).bind λr1=>cond (!r1) (some (([]:List aU),1)) (cond (cond (decide (at_<s.bx)) true (decide (s.br<at_))) (some (([]:List aU),15)) ((St n s at_).bind λaR=>some (aR,0)))
def Su(n:Nat):av7:=some true
def Kt(s:av3)(ak:Int→av7)(v5:Int):av7:=cond (decide (v5<((s.length:Nat):Int))) (ay (aM v5 s.length)<|ay ((decide ((((s.getD (v5).toNat 0).toNat:Nat):Int)<33))||aM v5 s.length)<|cond (cond (decide ((((s.getD (v5).toNat 0).toNat:Nat):Int)<33)) true (decide (126<(((s.getD (v5).toNat 0).toNat:Nat):Int)))) (some false) (ak (av5 (v5+1)))) (Su n)
def Ax(n:Nat)(s:av3):Nat→Int→av7
 | 0=>λ_=>none
 |m+1=>Kt n s (Ax n s m)
def Es(s:av3):av7:=cond (decide (24<((s.length:Nat):Int))) (some false) (Ax n s n 0)
def Ku(x:Part)(next:av3)(last:Bool):av7:=cond (decide (x.fH=0)) (some (decide (x.dI=([]:av3)))) (Option.bind (cond (cond (cond (decide (1≤x.fH)) (decide (x.fH≤16)) false) (!decide (x.fH=x.Node)) false) (Es n x.dI) (some default)) λr2=>some (cond (cond (cond (cond (cond (decide (1≤x.fH)) (decide (x.fH≤16)) false) (!decide (x.fH=x.Node)) false) r2 false) (!(Op.bytesLess x.dI x.dR)) false) (cond last true (Op.bytesLess x.dI next)) false))
def Sv(n:Nat):av7:=some true
def Sw(n:Nat)(ak:Int→av7)(p:b8)(bF:Int):av7:=ak (av5 (bF+1))
def Kv(ak:Int→av7)(p:b8)(bF:Int)(sV:Int→av7)(v24:Int):av7:=cond (decide (v24<bF)) (ay (aM v24 p.aE.length)<|cond (decide ((av6 p.aE v24).Id=(av6 p.aE bF).Id)) (some false) (sV (av5 (v24+1)))) (Sw n ak p bF)
def xf(n:Nat)(ak:Int→av7)(p:b8)(bF:Int):Nat→Int→av7
 | 0=>λ_=>none
 |m+1=>Kv n ak p bF (xf n ak p bF m)
def Et(ak:Int→av7)(p:b8)(bF:Int)(cj:av3):av7:=(Es n ((av6 p.aE bF).dR)).bind λfa=>ay ((!fa)||(!(decide (0<bF))||aM (av5 (bF-1)) p.aE.length))<|Option.bind (cond (!(cond (cond (cond (cond (cond (!fa) true (cond (decide (0<bF)) ((Op.bytesLess ((av6 p.aE bF).dR) ((av6 p.aE (av5 (bF-1))).dR))||(decide (((av6 p.aE bF).dR)=((av6 p.aE (av5 (bF-1))).dR)))) false)) true (decide ((av6 p.aE bF).Id<1))) true (decide (1099511627776<(av6 p.aE bF).Id))) true (decide ((av6 p.aE bF).Node<1))) true (decide (16<(av6 p.aE bF).Node)))) (Ku n (av6 p.aE bF) cj (decide ((av5 (bF+1))=((p.aE.length:Nat):Int)))) (some default)) λfw=>cond (cond (cond (cond (cond (cond (cond (!fa) true (cond (decide (0<bF)) ((Op.bytesLess ((av6 p.aE bF).dR) ((av6 p.aE (av5 (bF-1))).dR))||(decide (((av6 p.aE bF).dR)=((av6 p.aE (av5 (bF-1))).dR)))) false)) true (decide ((av6 p.aE bF).Id<1))) true (decide (1099511627776<(av6 p.aE bF).Id))) true (decide ((av6 p.aE bF).Node<1))) true (decide (16<(av6 p.aE bF).Node))) true (!fw)) (some false) (xf n ak p bF n 0)
def Kw(p:b8)(ak:Int→av7)(bF:Int):av7:=cond (decide (bF<((p.aE.length:Nat):Int))) (ay (aM bF p.aE.length)<|cond (decide ((av5 (bF+1))<((p.aE.length:Nat):Int))) (ay (aM (av5 (bF+1)) p.aE.length)<|Et n ak p bF ((av6 p.aE (av5 (bF+1))).dR)) (Et n ak p bF ([]:av3))) (Sv n)
def Ay(n:Nat)(p:b8):Nat→Int→av7
 | 0=>λ_=>none
 |m+1=>Kw n p (Ay n p m)
def Kx(p:b8):av7:=ay ((cond (cond (cond (decide (p.Version<0)) true (decide (1099511627776<p.Version))) true (decide (((p.aE.length:Nat):Int)<1))) true (decide (16<((p.aE.length:Nat):Int))))||aM 0 p.aE.length)<|cond (cond (cond (cond (cond (decide (p.Version<0)) true (decide (1099511627776<p.Version))) true (decide (((p.aE.length:Nat):Int)<1))) true (decide (16<((p.aE.length:Nat):Int)))) true (!(decide (((p.aE.getD 0 default).dR)=([]:av3))))) (some false) (Ay n p n 0)
def Sx(n:Nat)(l:List bc):av7:=some (decide (((l.length:Nat):Int)≤32))
def Ky(l:List bc)(ak:Int→av7)(bE:Int):av7:=cond (decide (bE<((l.length:Nat):Int))) (ay (aM bE l.length)<|(xb n ((av6 l bE).Key)).bind λdx=>ay ((!dx)||aM bE l.length)<|ay ((cond (!dx) true (decide ((av6 l bE).Count<1)))||aM bE l.length)<|ay ((cond (cond (!dx) true (decide ((av6 l bE).Count<1))) true (decide (1099511627776<(av6 l bE).Count)))||(!(decide (0<bE))||aM bE l.length))<|ay ((cond (cond (!dx) true (decide ((av6 l bE).Count<1))) true (decide (1099511627776<(av6 l bE).Count)))||(!(decide (0<bE))||aM (av5 (bE-1)) l.length))<|cond (cond (cond (cond (!dx) true (decide ((av6 l bE).Count<1))) true (decide (1099511627776<(av6 l bE).Count))) true (cond (decide (0<bE)) ((Op.bytesLess ((av6 l bE).Key) ((av6 l (av5 (bE-1))).Key))||(decide (((av6 l bE).Key)=((av6 l (av5 (bE-1))).Key)))) false)) (some false) (ak (av5 (bE+1)))) (Sx n l)
def Az(n:Nat)(l:List bc):Nat→Int→av7
 | 0=>λ_=>none
 |m+1=>Ky n l (Az n l m)
def Kz(l:List bc):av7:=Az n l n 0
def Sy(n:Nat)(l:List bH):av7:=some (decide (((l.length:Nat):Int)≤16))
def KA(l:List bH)(ak:Int→av7)(v5:Int):av7:=cond (decide (v5<((l.length:Nat):Int))) (ay (aM v5 l.length)<|(uw n (av6 l v5)).bind λcC=>ay ((!cC)||aM v5 l.length)<|cond (cond (!cC) true (decide ((av6 l v5).Kind=0))) (some false) (ak (av5 (v5+1)))) (Sy n l)
def xg(n:Nat)(l:List bH):Nat→Int→av7
 | 0=>λ_=>none
 |m+1=>KA n l (xg n l m)
def Sz(l:List bH):av7:=xg n l n 0
def Eu(o:Outcome):av7:=cond (decide (o.Status=1)) (Option.bind (cond (decide (o.Code=0)) (Sz n o.Out) (some default)) λr2=>some (cond (decide (o.Code=0)) r2 false)) (some (cond (cond (cond (decide (o.Status=2)) (decide (0≤o.Code)) false) (decide (o.Code≤1009)) false) (decide (((o.Out.length:Nat):Int)=0)) false))
def SA(n:Nat)(next:Int):av8:=some (cond (decide ((av5 (next-1))<8)) (av5 (next-1)) 8)
def SB(n:Nat):av7:=some true
def KB(s:b0)(ak:Int→av7)(v6:Int):av7:=cond (decide (v6<((s.b'.length:Nat):Int))) (ay (aM v6 s.b'.length)<|Option.bind (cond (!(cond (!decide ((av6 s.b' v6).Client=s.Client)) true (!decide ((av6 s.b' v6).Seq=(av5 (s.Next-(av5 (((s.b'.length:Nat):Int)-v6)))))))) (Eu n (⟨((av6 s.b' v6).Outcome).Status,((av6 s.b' v6).Outcome).Code,((av6 s.b' v6).Outcome).Out⟩:Outcome)) (some default)) λcv=>cond (cond (cond (!decide ((av6 s.b' v6).Client=s.Client)) true (!decide ((av6 s.b' v6).Seq=(av5 (s.Next-(av5 (((s.b'.length:Nat):Int)-v6))))))) true (!cv)) (some false) (ak (av5 (v6+1)))) (SB n)
def AA(n:Nat)(s:b0):Nat→Int→av7
 | 0=>λ_=>none
 |m+1=>KB n s (AA n s m)
def KC(s:b0):av7:=Option.bind (cond (!(cond (cond (cond (decide (s.Client<1)) true (decide (32<s.Client))) true (decide (s.Next<1))) true (decide (1099511627776<s.Next)))) (SA n s.Next) (some default)) λr1=>cond (cond (cond (cond (cond (decide (s.Client<1)) true (decide (32<s.Client))) true (decide (s.Next<1))) true (decide (1099511627776<s.Next))) true (!decide (((s.b'.length:Nat):Int)=r1))) (some false) (AA n s n 0)
def SC(n:Nat):av7:=some true
def KD(l:List b0)(ak:Int→av7)(v6:Int):av7:=cond (decide (v6<((l.length:Nat):Int))) (ay (aM v6 l.length)<|(KC n (av6 l v6)).bind λcv=>ay ((!cv)||(!(decide (0<v6))||aM v6 l.length))<|ay ((!cv)||(!(decide (0<v6))||aM (av5 (v6-1)) l.length))<|cond (cond (!cv) true (cond (decide (0<v6)) (decide ((av6 l v6).Client≤(av6 l (av5 (v6-1))).Client)) false)) (some false) (ak (av5 (v6+1)))) (SC n)
def AB(n:Nat)(l:List b0):Nat→Int→av7
 | 0=>λ_=>none
 |m+1=>KD n l (AB n l m)
def KE(l:List b0):av7:=AB n l n 0
def SD(n:Nat):Option (List av3):=some ([([112,114,111,99]:av3),([108,101,116]:av3),([112,117,116]:av3),([100,101,108,101,116,101]:av3),([105,102]:av3),([101,108,115,101]:av3),([102,111,114]:av3),([116,111]:av3),([109,97,120]:av3),([101,109,105,116]:av3),([97,98,111,114,116]:av3),([110,111,116]:av3),([97,110,100]:av3),([111,114]:av3),([105,110,116]:av3),([115,116,114]:av3),([98,111,111,108]:av3),([116,101,120,116]:av3),([108,101,110]:av3),([103,101,116,105,110,116]:av3),([103,101,116,115,116,114]:av3),([104,97,115]:av3),([110,111,119]:av3),([114,97,110,100,111,109]:av3),([110,111,100,101]:av3)]:List av3)
def SE(n:Nat):av7:=some false
def SF(l:List av3)(s:av3)(ak:Int→av7)(v3:Int):av7:=cond (decide (v3<((l.length:Nat):Int))) (ay (aM v3 l.length)<|cond (decide ((av6 l v3)=s)) (some true) (ak (av5 (v3+1)))) (SE n)
def Ev(n:Nat)(l:List av3)(s:av3):Nat→Int→av7
 | 0=>λ_=>none
 |m+1=>SF n l s (Ev n l s m)
def SG(l:List av3)(s:av3):av7:=Ev n l s n 0
def Ew(s:av3):av7:=(SD n).bind λr1=>(SG n r1 s).bind λr2=>some r2
def AC(n:Nat)(c:Int):av7:=some (cond (decide (97≤c)) (decide (c≤122)) false)
def SH(n:Nat)(c:Int):av7:=some (cond (decide (48≤c)) (decide (c≤57)) false)
def Ex(c:Int):av7:=(AC n c).bind λr1=>Option.bind (cond (!r1) (SH n c) (some default)) λr2=>some (cond (cond r1 true r2) true (decide (c=95)))
def SI(n:Nat)(bE:Int):av8:=some bE
def SJ(s:av3)(ak:Int→av8)(v4:Int):av8:=ay (!(decide (v4<((s.length:Nat):Int)))||aM v4 s.length)<|Option.bind (cond (decide (v4<((s.length:Nat):Int))) (Ex n (((s.getD (v4).toNat 0).toNat:Nat):Int)) (some default)) λbj=>cond (cond (decide (v4<((s.length:Nat):Int))) bj false) (ak (av5 (v4+1))) (SI n v4)
def Ey(n:Nat)(s:av3):Nat→Int→av8
 | 0=>λ_=>none
 |m+1=>SJ n s (Ey n s m)
def KF(s:av3)(at_:Int):av8:=Ey n s n at_
def sX(s:av3):av7:=ay (!(cond (decide (1≤((s.length:Nat):Int))) (decide (((s.length:Nat):Int)≤16)) false)||aM 0 s.length)<|Option.bind (cond (cond (decide (1≤((s.length:Nat):Int))) (decide (((s.length:Nat):Int)≤16)) false) (AC n (((s.getD 0 0).toNat:Nat):Int)) (some default)) λr2=>Option.bind (cond (cond (cond (decide (1≤((s.length:Nat):Int))) (decide (((s.length:Nat):Int)≤16)) false) r2 false) (KF n s 0) (some default)) λr3=>Option.bind (cond (cond (cond (cond (decide (1≤((s.length:Nat):Int))) (decide (((s.length:Nat):Int)≤16)) false) r2 false) (decide (r3=((s.length:Nat):Int))) false) (Ew n s) (some default)) λaR=>some (cond (cond (cond (cond (decide (1≤((s.length:Nat):Int))) (decide (((s.length:Nat):Int)≤16)) false) r2 false) (decide (r3=((s.length:Nat):Int))) false) (!aR) false)
def sY(n:Nat)(e:Expr):av7:=some (cond (cond (cond (decide (e.Op=0)) (decide (e.N=0)) false) (decide (e.S=([]:av3))) false) (decide (((e.ax.length:Nat):Int)=0)) false)
def SK(n:Nat)(nO:(List cD)→Expr→Bool→Option (List cD))(cr:List cD):Option (List cD):=some cr
def SL(nO:(List cD)→Expr→Bool→Option (List cD))(e:Expr)(ak:(List cD)→Int→Option (List cD))(bD:List cD)(bE:Int):Option (List cD):=cond (cond (decide (bE<((e.ax.length:Nat):Int))) (decide (((bD.length:Nat):Int)≤400)) false) (ay (aM bE e.ax.length)<|(nO bD (av6 e.ax bE) false).bind λdx=>ak dx (av5 (bE+1))) (SK n nO bD)
def Ez(n:Nat)(nO:(List cD)→Expr→Bool→Option (List cD))(e:Expr):Nat→(List cD)→Int→Option (List cD)
 | 0=>λ_ _=>none
 |m+1=>SL n nO e (Ez n nO e m)
def SM(nO:(List cD)→Expr→Bool→Option (List cD))(out:List cD)(e:Expr)(root:Bool):Option (List cD):=cond (decide (400<((out.length:Nat):Int))) (some out) (ay (room (out.length+([(⟨false,⟨0,[],0,⟨0,0,[],[]⟩,⟨0,0,[],[]⟩,[],[]⟩,0,e,root⟩:cD)]:List cD).length) 272)<|Ez n nO e n (out++([(⟨false,⟨0,[],0,⟨0,0,[],[]⟩,⟨0,0,[],[]⟩,[],[]⟩,0,e,root⟩:cD)]:List cD)) 0)
def sZ:Nat→(List cD)→Expr→Bool→Option (List cD)
 | 0=>λ_ _ _=>none
 |m+1=>SM m (sZ m)
def SN(n:Nat)(iJ:(List cD)→(List Stmt)→Int→Option (List cD))(kv:List cD):Option (List cD):=some kv
def SO(n:Nat)(iJ:(List cD)→(List Stmt)→Int→Option (List cD))(ak:(List cD)→Int→Option (List cD))(l:List Stmt)(depth:Int)(v21:Int)(iI:List cD):Option (List cD):=ak iI (av5 (v21+1))
def KG(iJ:(List cD)→(List Stmt)→Int→Option (List cD))(ak:(List cD)→Int→Option (List cD))(l:List Stmt)(depth:Int)(v21:Int)(sK:List cD):Option (List cD):=ay (aM v21 l.length)<|(iJ sK ((av6 l v21).Body) (av5 (depth+1))).bind λld=>ay (aM v21 l.length)<|(iJ ld ((av6 l v21).bB) (av5 (depth+1))).bind λoG=>SO n iJ ak l depth v21 oG
def KH(iJ:(List cD)→(List Stmt)→Int→Option (List cD))(ak:(List cD)→Int→Option (List cD))(l:List Stmt)(depth:Int)(v21:Int)(v28:List cD):Option (List cD):=ay (aM v21 l.length)<|(sY n ((av6 l v21).B)).bind λiy=>cond (!iy) (ay (aM v21 l.length)<|(sZ n v28 ((av6 l v21).B) true).bind λmC=>KG n iJ ak l depth v21 mC) (KG n iJ ak l depth v21 v28)
def SP(iJ:(List cD)→(List Stmt)→Int→Option (List cD))(l:List Stmt)(depth:Int)(ak:(List cD)→Int→Option (List cD))(v20:List cD)(v21:Int):Option (List cD):=cond (cond (decide (v21<((l.length:Nat):Int))) (decide (((v20.length:Nat):Int)≤400)) false) (ay (aM v21 l.length)<|ay (room (v20.length+([(⟨true,⟨(av6 l v21).Op,(av6 l v21).Name,(av6 l v21).Max,⟨((av6 l v21).A).Op,((av6 l v21).A).N,((av6 l v21).A).S,((av6 l v21).A).ax⟩,⟨((av6 l v21).B).Op,((av6 l v21).B).N,((av6 l v21).B).S,((av6 l v21).B).ax⟩,(av6 l v21).Body,(av6 l v21).bB⟩,depth,⟨0,0,[],[]⟩,false⟩:cD)]:List cD).length) 272)<|ay (aM v21 l.length)<|(sY n ((av6 l v21).A)).bind λfM=>cond (!fM) (ay (aM v21 l.length)<|(sZ n (v20++([(⟨true,⟨(av6 l v21).Op,(av6 l v21).Name,(av6 l v21).Max,⟨((av6 l v21).A).Op,((av6 l v21).A).N,((av6 l v21).A).S,((av6 l v21).A).ax⟩,⟨((av6 l v21).B).Op,((av6 l v21).B).N,((av6 l v21).B).S,((av6 l v21).B).ax⟩,(av6 l v21).Body,(av6 l v21).bB⟩,depth,⟨0,0,[],[]⟩,false⟩:cD)]:List cD)) ((av6 l v21).A) true).bind λr27=>KH n iJ ak l depth v21 r27) (KH n iJ ak l depth v21 (v20++([(⟨true,⟨(av6 l v21).Op,(av6 l v21).Name,(av6 l v21).Max,⟨((av6 l v21).A).Op,((av6 l v21).A).N,((av6 l v21).A).S,((av6 l v21).A).ax⟩,⟨((av6 l v21).B).Op,((av6 l v21).B).N,((av6 l v21).B).S,((av6 l v21).B).ax⟩,(av6 l v21).Body,(av6 l v21).bB⟩,depth,⟨0,0,[],[]⟩,false⟩:cD)]:List cD)))) (SN n iJ v20)
def uz(n:Nat)(iJ:(List cD)→(List Stmt)→Int→Option (List cD))(l:List Stmt)(depth:Int):Nat→(List cD)→Int→Option (List cD)
 | 0=>λ_ _=>none
 |m+1=>SP n iJ l depth (uz n iJ l depth m)
def SQ(iJ:(List cD)→(List Stmt)→Int→Option (List cD))(out:List cD)(l:List Stmt)(depth:Int):Option (List cD):=uz n iJ l depth n out 0
def nd:Nat→(List cD)→(List Stmt)→Int→Option (List cD)
 | 0=>λ_ _ _=>none
 |m+1=>SQ m (nd m)
def SR(p:bg):Option (List cD):=(nd n ([]:List cD) p.Body 1).bind λr1=>some r1
def SS(n:Nat):av8:=some 0
def ST(n:Nat)(ak:Int→av8)(l:List Param)(bR:Int):av8:=ak (av5 (bR+1))
def SU(ak:Int→av8)(l:List Param)(bR:Int)(d_:Int→av8)(v22:Int):av8:=cond (decide (v22<bR)) (ay (aM v22 l.length)<|ay (aM bR l.length)<|cond (decide (((av6 l v22).Name)=((av6 l bR).Name))) (some 8) (d_ (av5 (v22+1)))) (ST n ak l bR)
def AD(n:Nat)(ak:Int→av8)(l:List Param)(bR:Int):Nat→Int→av8
 | 0=>λ_=>none
 |m+1=>SU n ak l bR (AD n ak l bR m)
def SV(l:List Param)(ak:Int→av8)(bR:Int):av8:=cond (decide (bR<((l.length:Nat):Int))) (ay (aM bR l.length)<|(sX n ((av6 l bR).Name)).bind λdT=>cond (!dT) (some 7) (ay (aM bR l.length)<|ay ((decide ((av6 l bR).fy<1))||aM bR l.length)<|cond (cond (decide ((av6 l bR).fy<1)) true (decide (3<(av6 l bR).fy))) (some 10) (AD n ak l bR n 0))) (SS n)
def uA(n:Nat)(l:List Param):Nat→Int→av8
 | 0=>λ_=>none
 |m+1=>SV n l (uA n l m)
def KI(l:List Param):av8:=cond (decide (6<((l.length:Nat):Int))) (some 2) (uA n l n 0)
def SW(n:Nat)(op:Int):av8:=cond (cond (decide (4≤op)) (decide (op≤19)) false) (some 2) (some (-1))
def s0(op:Int)(v2:Bool):av8:=cond v2 (some 1) (SW n op)
def uB(op:Int)(v1:Bool):av8:=cond v1 (some 0) (cond (decide (op=9)) (s0 n op (decide (op=9))) (cond (decide (op=18)) (s0 n op (decide (op=18))) (cond (decide (op=20)) (s0 n op (decide (op=20))) (cond (decide (op=21)) (s0 n op (decide (op=21))) (cond (decide (op=22)) (s0 n op (decide (op=22))) (cond (decide (op=23)) (s0 n op (decide (op=23))) (s0 n op (decide (op=24)))))))))
def EA(op:Int):av8:=cond (decide (op=1)) (uB n op (decide (op=1))) (cond (decide (op=2)) (uB n op (decide (op=2))) (cond (decide (op=3)) (uB n op (decide (op=3))) (cond (decide (op=25)) (uB n op (decide (op=25))) (cond (decide (op=26)) (uB n op (decide (op=26))) (uB n op (decide (op=27)))))))
def SX(n:Nat):av7:=some true
def SY(s:av3)(ak:Int→av7)(v5:Int):av7:=cond (decide (v5<((s.length:Nat):Int))) (ay (aM v5 s.length)<|ay ((decide ((((s.getD (v5).toNat 0).toNat:Nat):Int)<32))||aM v5 s.length)<|cond (cond (decide ((((s.getD (v5).toNat 0).toNat:Nat):Int)<32)) true (decide (126<(((s.getD (v5).toNat 0).toNat:Nat):Int)))) (some false) (ak (av5 (v5+1)))) (SX n)
def EB(n:Nat)(s:av3):Nat→Int→av7
 | 0=>λ_=>none
 |m+1=>SY n s (EB n s m)
def KJ(s:av3):av7:=cond (decide (64<((s.length:Nat):Int))) (some false) (EB n s n 0)
def KK(e:Expr)(depth:Int):av8:=(EA n e.Op).bind λr1=>cond (cond (cond (decide (r1<0)) true (cond (!decide (e.Op=1)) (!decide (e.N=0)) false)) true (cond (cond (!decide (e.Op=2)) (!decide (e.Op=3)) false) (!(decide (e.S=([]:av3)))) false)) (some 1) (Option.bind (cond (decide (e.Op=3)) (sX n e.S) (some default)) λr3=>cond (cond (decide (e.Op=3)) (!r3) false) (some 7) (Option.bind (cond ((!(decide (e.N<0)))&&(decide (e.Op=2))) (KJ n e.S) (some default)) λbZ=>Option.bind (cond (!(cond (decide (e.N<0)) true (cond (decide (e.Op=2)) (!bZ) false))) (EA n e.Op) (some default)) λbj=>cond (cond (cond (decide (e.N<0)) true (cond (decide (e.Op=2)) (!bZ) false)) true (!decide (((e.ax.length:Nat):Int)=bj))) (some 1) (cond (decide (12<depth)) (some 2) (some 0))))
def SZ(n:Nat)(nP:Expr→Int→av8):av8:=some 0
def S0(nP:Expr→Int→av8)(depth:Int)(e:Expr)(ak:Int→av8)(v6:Int):av8:=cond (decide (v6<((e.ax.length:Nat):Int))) (ay (aM v6 e.ax.length)<|(nP (av6 e.ax v6) (av5 (depth+1))).bind λcv=>cond (!decide (cv=0)) (some cv) (ak (av5 (v6+1)))) (SZ n nP)
def EC(n:Nat)(nP:Expr→Int→av8)(depth:Int)(e:Expr):Nat→Int→av8
 | 0=>λ_=>none
 |m+1=>S0 n nP depth e (EC n nP depth e m)
def S1(nP:Expr→Int→av8)(e:Expr)(depth:Int):av8:=(KK n e depth).bind λr1=>cond (!decide (r1=0)) (some r1) (EC n nP depth e n 0)
def AE:Nat→Expr→Int→av8
 | 0=>λ_ _=>none
 |m+1=>S1 m (AE m)
def ED(e:Expr):av8:=(AE n e 1).bind λr1=>some r1
def S2(n:Nat):Option (Bool×Bool×Bool×Bool×Bool×Bool):=some (false,true,false,false,false,false)
def KL(op:Int)(v2:Bool):Option (Bool×Bool×Bool×Bool×Bool×Bool):=cond v2 (some (false,false,true,false,false,false)) (cond (decide (op=5)) (some (false,false,true,false,true,true)) (cond (decide (op=6)) (some (true,true,true,true,true,false)) (S2 n)))
def KM(op:Int)(v1:Bool):Option (Bool×Bool×Bool×Bool×Bool×Bool):=cond v1 (some (true,false,true,false,false,false)) (cond (decide (op=3)) (some (false,false,true,true,false,false)) (cond (decide (op=4)) (KL n op (decide (op=4))) (KL n op (decide (op=7)))))
def EE(op:Int):Option (Bool×Bool×Bool×Bool×Bool×Bool):=cond (decide (op=1)) (KM n op (decide (op=1))) (KM n op (decide (op=2)))
def KN(n:Nat)(depth:Int):av8:=cond (decide (12<depth)) (some 2) (some 0)
def KO(depth:Int)(r1:Bool×Bool×Bool×Bool×Bool×Bool)(s:Stmt):av8:=cond r1.2.2.2.1 ((ED n (⟨s.B.Op,s.B.N,s.B.S,s.B.ax⟩:Expr)).bind λcM=>cond (!decide (cM=0)) (some cM) (KN n depth)) (KN n depth)
def KP(s:Stmt)(depth:Int):av8:=(EE n s.Op).bind λr1=>Option.bind (cond ((!(cond (cond (cond (decide (s.Op<1)) true (decide (8<s.Op))) true (cond (!r1.1) (!(decide (s.Name=([]:av3)))) false)) true (cond (!r1.2.1) (!decide (s.Max=0)) false)))&&(!r1.2.2.1)) (sY n (⟨s.A.Op,s.A.N,s.A.S,s.A.ax⟩:Expr)) (some default)) λr2=>Option.bind (cond ((!(cond (cond (cond (cond (decide (s.Op<1)) true (decide (8<s.Op))) true (cond (!r1.1) (!(decide (s.Name=([]:av3)))) false)) true (cond (!r1.2.1) (!decide (s.Max=0)) false)) true (cond (!r1.2.2.1) (!r2) false)))&&(!r1.2.2.2.1)) (sY n (⟨s.B.Op,s.B.N,s.B.S,s.B.ax⟩:Expr)) (some default)) λr3=>cond (cond (cond (cond (cond (cond (cond (cond (decide (s.Op<1)) true (decide (8<s.Op))) true (cond (!r1.1) (!(decide (s.Name=([]:av3)))) false)) true (cond (!r1.2.1) (!decide (s.Max=0)) false)) true (cond (!r1.2.2.1) (!r2) false)) true (cond (!r1.2.2.2.1) (!r3) false)) true (cond (!r1.2.2.2.2.1) (decide (0<((s.Body.length:Nat):Int))) false)) true (cond (!r1.2.2.2.2.2) (decide (0<((s.bB.length:Nat):Int))) false)) (some 1) (cond (cond (cond (decide (s.Op=6)) (cond (decide (s.Max<1)) true (decide (16<s.Max))) false) true (cond (decide (s.Op=8)) (cond (decide (s.Max<0)) true (decide (999<s.Max))) false)) (some 1) (Option.bind (cond r1.1 (sX n s.Name) (some default)) λbj=>cond (cond r1.1 (!bj) false) (some 7) (cond r1.2.2.1 ((ED n (⟨s.A.Op,s.A.N,s.A.S,s.A.ax⟩:Expr)).bind λcv=>cond (!decide (cv=0)) (some cv) (KO n depth r1 s)) (KO n depth r1 s))))
def S3(n:Nat)(bZ:(List cD)):av8:=cond (decide (400<((bZ.length:Nat):Int))) (some 2) (some 0)
def KQ(n:Nat)(ak:Int→av8)(bZ:(List cD))(v11:Int):av8:=ak (av5 (v11+1))
def S4(bZ:(List cD))(ak:Int→av8)(v11:Int):av8:=cond (decide (v11<((bZ.length:Nat):Int))) (ay (aM v11 bZ.length)<|cond ((av6 bZ v11).qa) (ay (aM v11 bZ.length)<|ay (aM v11 bZ.length)<|(KP n ((av6 bZ v11).Stmt) ((av6 bZ v11).CX)).bind λdY=>cond (!decide (dY=0)) (some dY) (KQ n ak bZ v11)) (KQ n ak bZ v11)) (S3 n bZ)
def AF(n:Nat)(bZ:(List cD)):Nat→Int→av8
 | 0=>λ_=>none
 |m+1=>S4 n bZ (AF n bZ m)
def KR(p:bg):av8:=(sX n p.Name).bind λr1=>cond (!r1) (some 7) ((KI n p.Params).bind λr3=>cond (!decide (r3=0)) (some r3) ((SR n p).bind λbZ=>AF n bZ n 0))
def S5(n:Nat)(a:Int):av8:=cond (decide (a<0)) (some (IntKind.u64.wrap (0-(IntKind.u64.wrap a)))) (some (IntKind.u64.wrap a))
def EF(n:Nat)(eW:Int)(v12:av3):Option av3:=cond (decide (eW<0)) (ay (b3 (([45]:av3).length+v12.length))<|some (([45]:av3)++v12)) (some v12)
def s2(eW:Int)(ak:Int→av3→Option av3)(v6:Int)(bD:av3):Option av3:=cond (cond (decide (0<v6)) true (decide (bD=([]:av3)))) (ay (nB ([(IntKind.u8.wrap (IntKind.u64.wrap (48+(Int.tmod v6 10))))]:List Int))<|ay (b3 ((jX ([(IntKind.u8.wrap (IntKind.u64.wrap (48+(Int.tmod v6 10))))]:List Int)).length+bD.length))<|ak (IntKind.u64.wrap (Int.tdiv v6 10)) ((jX ([(IntKind.u8.wrap (IntKind.u64.wrap (48+(Int.tmod v6 10))))]:List Int))++bD)) (EF n eW bD)
def qj(n:Nat)(eW:Int):Nat→Int→av3→Option av3
 | 0=>λ_ _=>none
 |m+1=>s2 n eW (qj n eW m)
def xh(eW:Int):Option av3:=(S5 n eW).bind λr1=>qj n eW n r1 ([]:av3)
def S6(n:Nat)(v9:av3):Option av3:=some v9
def S7(depth:Int)(ak:av3→Int→Option av3)(v4:av3)(v5:Int):Option av3:=cond (decide (v5<depth)) (ay (b3 (v4.length+([32,32,32,32]:av3).length))<|ak (v4++([32,32,32,32]:av3)) (av5 (v5+1))) (S6 n v4)
def EG(n:Nat)(depth:Int):Nat→av3→Int→Option av3
 | 0=>λ_ _=>none
 |m+1=>S7 n depth (EG n depth m)
def S8(depth:Int):Option av3:=EG n depth n ([]:av3) 0
def S9(n:Nat):av7:=some true
def S'(s:av3)(ak:Int→av7)(v4:Int):av7:=cond (decide (v4<((s.length:Nat):Int))) (ay (aM v4 s.length)<|ay ((decide ((((s.getD (v4).toNat 0).toNat:Nat):Int)<32))||aM v4 s.length)<|cond (cond (decide ((((s.getD (v4).toNat 0).toNat:Nat):Int)<32)) true (decide (126<(((s.getD (v4).toNat 0).toNat:Nat):Int)))) (some false) (ak (av5 (v4+1)))) (S9 n)
def AG(n:Nat)(s:av3):Nat→Int→av7
 | 0=>λ_=>none
 |m+1=>S' n s (AG n s m)
def S_(s:av3):av7:=AG n s n 0
def Ta(n:Nat)(v24:av3):Option (av3×Int):=ay (b3 (v24.length+([34]:av3).length))<|some ((v24++([34]:av3)),0)
def Tb(n:Nat)(ak:av3→Int→Option (av3×Int))(s:av3)(bR:Int)(v21:av3):Option (av3×Int):=ak v21 (av5 (bR+1))
def KS(ak:av3→Int→Option (av3×Int))(s:av3)(bR:Int)(cj:av3):Option (av3×Int):=ay (l5 bR (av5 (bR+1)) s.length)<|ay (b3 (cj.length+((s.take ((av5 (bR+1))).toNat).drop (bR).toNat).length))<|Tb n ak s bR (cj++((s.take ((av5 (bR+1))).toNat).drop (bR).toNat))
def Tc(s:av3)(ak:av3→Int→Option (av3×Int))(cr:av3)(bR:Int):Option (av3×Int):=cond (decide (bR<((s.length:Nat):Int))) (ay (aM bR s.length)<|ay ((decide ((((s.getD (bR).toNat 0).toNat:Nat):Int)=34))||aM bR s.length)<|cond (cond (decide ((((s.getD (bR).toNat 0).toNat:Nat):Int)=34)) true (decide ((((s.getD (bR).toNat 0).toNat:Nat):Int)=92))) (ay (b3 (cr.length+([92]:av3).length))<|KS n ak s bR (cr++([92]:av3))) (KS n ak s bR cr)) (Ta n cr)
def EH(n:Nat)(s:av3):Nat→av3→Int→Option (av3×Int)
 | 0=>λ_ _=>none
 |m+1=>Tc n s (EH n s m)
def KT(s:av3):Option (av3×Int):=cond (decide (64<((s.length:Nat):Int))) (some (([]:av3),2)) ((S_ n s).bind λr2=>cond (!r2) (some (([]:av3),1)) (EH n s n ([34]:av3) 0))
def aam(n:Nat):av8:=some 9
def KU(op:Int)(v3:Bool):av8:=cond v3 (some 7) (cond (decide (op=9)) (some 8) (aam n))
def Td(op:Int)(v2:Bool):av8:=cond v2 (some 6) (cond (decide (op=6)) (KU n op (decide (op=6))) (cond (decide (op=7)) (KU n op (decide (op=7))) (KU n op (decide (op=8)))))
def xi(op:Int)(v1:Bool):av8:=cond v1 (some 4) (cond (decide (op=19)) (some 5) (cond (decide (op=4)) (Td n op (decide (op=4))) (Td n op (decide (op=5)))))
def KV(op:Int):av8:=cond (decide (op=17)) (some 1) (cond (decide (op=16)) (some 2) (cond (decide (op=18)) (some 3) (cond (decide (op=10)) (xi n op (decide (op=10))) (cond (decide (op=11)) (xi n op (decide (op=11))) (cond (decide (op=12)) (xi n op (decide (op=12))) (cond (decide (op=13)) (xi n op (decide (op=13))) (cond (decide (op=14)) (xi n op (decide (op=14))) (xi n op (decide (op=15))))))))))
def KW(n:Nat)(op:Int):Option av3:=cond (decide (op=17)) (some ([111,114]:av3)) (cond (decide (op=16)) (some ([97,110,100]:av3)) (cond (decide (op=10)) (some ([61,61]:av3)) (cond (decide (op=11)) (some ([33,61]:av3)) (cond (decide (op=12)) (some ([60]:av3)) (cond (decide (op=13)) (some ([60,61]:av3)) (cond (decide (op=14)) (some ([62]:av3)) (cond (decide (op=15)) (some ([62,61]:av3)) (cond (decide (op=19)) (some ([43,43]:av3)) (cond (decide (op=4)) (some ([43]:av3)) (cond (decide (op=5)) (some ([45]:av3)) (cond (decide (op=6)) (some ([42]:av3)) (cond (decide (op=7)) (some ([47]:av3)) (some ([37]:av3))))))))))))))
def KX(n:Nat)(op:Int):Option av3:=cond (decide (op=20)) (some ([116,101,120,116]:av3)) (cond (decide (op=21)) (some ([108,101,110]:av3)) (cond (decide (op=22)) (some ([103,101,116,105,110,116]:av3)) (cond (decide (op=23)) (some ([103,101,116,115,116,114]:av3)) (cond (decide (op=24)) (some ([104,97,115]:av3)) (cond (decide (op=25)) (some ([110,111,119]:av3)) (cond (decide (op=26)) (some ([114,97,110,100,111,109]:av3)) (some ([110,111,100,101]:av3))))))))
def KY(rA:Expr→Option av3)(oH:Expr→Int→Option av3)(e:Expr):Option av3:=(KV n e.Op).bind λr1=>cond (decide (e.Op=1)) ((xh n e.N).bind λr3=>some r3) (cond (decide (e.Op=2)) ((KT n e.S).bind λbZ=>some bZ.1) (cond (decide (e.Op=3)) (some e.S) (cond (decide (e.Op=18)) (ay (aM 0 e.ax.length)<|(oH (e.ax.getD 0 default) r1).bind λcM=>ay (b3 (([110,111,116,32]:av3).length+cM.length))<|some (([110,111,116,32]:av3)++cM)) (cond (decide (e.Op=9)) (ay (aM 0 e.ax.length)<|(oH (e.ax.getD 0 default) r1).bind λdX=>ay (b3 (([45]:av3).length+dX.length))<|some (([45]:av3)++dX)) (cond (cond (decide (r1=9)) (decide (((e.ax.length:Nat):Int)=0)) false) ((KX n e.Op).bind λdT=>ay (b3 (dT.length+([40,41]:av3).length))<|some (dT++([40,41]:av3))) (cond (decide (r1=9)) ((KX n e.Op).bind λfa=>ay (b3 (fa.length+([40]:av3).length))<|ay (aM 0 e.ax.length)<|(rA (e.ax.getD 0 default)).bind λew=>ay (b3 ((fa++([40]:av3)).length+ew.length))<|ay (b3 (((fa++([40]:av3))++ew).length+([41]:av3).length))<|some (((fa++([40]:av3))++ew)++([41]:av3))) (cond (decide (r1=4)) (ay (aM 0 e.ax.length)<|(oH (e.ax.getD 0 default) 5).bind λr27=>ay (b3 (r27.length+([32]:av3).length))<|(KW n e.Op).bind λfO=>ay (b3 ((r27++([32]:av3)).length+fO.length))<|ay (b3 (((r27++([32]:av3))++fO).length+([32]:av3).length))<|ay (aM 1 e.ax.length)<|(oH (e.ax.getD 1 default) 5).bind λpi=>ay (b3 ((((r27++([32]:av3))++fO)++([32]:av3)).length+pi.length))<|some ((((r27++([32]:av3))++fO)++([32]:av3))++pi)) (ay (aM 0 e.ax.length)<|(oH (e.ax.getD 0 default) r1).bind λoB=>ay (b3 (oB.length+([32]:av3).length))<|(KW n e.Op).bind λqd=>ay (b3 ((oB++([32]:av3)).length+qd.length))<|ay (b3 (((oB++([32]:av3))++qd).length+([32]:av3).length))<|ay (aM 1 e.ax.length)<|(oH (e.ax.getD 1 default) (av5 (r1+1))).bind λhS=>ay (b3 ((((oB++([32]:av3))++qd)++([32]:av3)).length+hS.length))<|some ((((oB++([32]:av3))++qd)++([32]:av3))++hS)))))))))
def KZ(rA:Expr→Option av3)(oH:Expr→Int→Option av3)(e:Expr)(least:Int):Option av3:=(KV n e.Op).bind λr1=>cond (decide (r1<least)) ((rA e).bind λr3=>ay (b3 (([40]:av3).length+r3.length))<|ay (b3 ((([40]:av3)++r3).length+([41]:av3).length))<|some ((([40]:av3)++r3)++([41]:av3))) ((rA e).bind λbj=>some bj)
def AH:Nat→(Expr→Option av3)×(Expr→Int→Option av3)
 | 0=>(λ_=>none,λ_ _=>none)
 |m+1=>(KY m ((AH m).1) ((AH m).2),KZ m ((AH m).1) ((AH m).2))
def lf:Expr→Option av3:=(AH n).1
def xj:Expr→Int→Option av3:=(AH n).2
def Te(n:Nat)(js:(List Stmt)→Int→Option av3)(jY:Stmt→Int→Option av3)(cr:av3):Option av3:=some cr
def Tf(js:(List Stmt)→Int→Option av3)(jY:Stmt→Int→Option av3)(l:List Stmt)(depth:Int)(ak:av3→Int→Option av3)(v6:av3)(bD:Int):Option av3:=cond (decide (bD<((l.length:Nat):Int))) (ay (aM bD l.length)<|(jY (av6 l bD) depth).bind λcM=>ay (b3 (v6.length+cM.length))<|ak (v6++cM) (av5 (bD+1))) (Te n js jY v6)
def EI(n:Nat)(js:(List Stmt)→Int→Option av3)(jY:Stmt→Int→Option av3)(l:List Stmt)(depth:Int):Nat→av3→Int→Option av3
 | 0=>λ_ _=>none
 |m+1=>Tf n js jY l depth (EI n js jY l depth m)
def K0(js:(List Stmt)→Int→Option av3)(jY:Stmt→Int→Option av3)(l:List Stmt)(depth:Int):Option av3:=EI n js jY l depth n ([]:av3) 0
def EJ(n:Nat)(js:(List Stmt)→Int→Option av3)(jY:Stmt→Int→Option av3)(EK:av3):Option av3:=ay (b3 (EK.length+([10]:av3).length))<|some (EK++([10]:av3))
def K1(js:(List Stmt)→Int→Option av3)(jY:Stmt→Int→Option av3)(x:Stmt)(depth:Int):Option av3:=(S8 n depth).bind λr1=>cond (decide (x.Op=1)) (ay (b3 (r1.length+([108,101,116,32]:av3).length))<|ay (b3 ((r1++([108,101,116,32]:av3)).length+x.Name.length))<|ay (b3 (((r1++([108,101,116,32]:av3))++x.Name).length+([32,61,32]:av3).length))<|(lf n (⟨x.A.Op,x.A.N,x.A.S,x.A.ax⟩:Expr)).bind λbj=>ay (b3 ((((r1++([108,101,116,32]:av3))++x.Name)++([32,61,32]:av3)).length+bj.length))<|ay (b3 (((((r1++([108,101,116,32]:av3))++x.Name)++([32,61,32]:av3))++bj).length+([59,10]:av3).length))<|some (((((r1++([108,101,116,32]:av3))++x.Name)++([32,61,32]:av3))++bj)++([59,10]:av3))) (cond (decide (x.Op=2)) (ay (b3 (r1.length+x.Name.length))<|ay (b3 ((r1++x.Name).length+([32,61,32]:av3).length))<|(lf n (⟨x.A.Op,x.A.N,x.A.S,x.A.ax⟩:Expr)).bind λeJ=>ay (b3 (((r1++x.Name)++([32,61,32]:av3)).length+eJ.length))<|ay (b3 ((((r1++x.Name)++([32,61,32]:av3))++eJ).length+([59,10]:av3).length))<|some ((((r1++x.Name)++([32,61,32]:av3))++eJ)++([59,10]:av3))) (cond (decide (x.Op=3)) (ay (b3 (r1.length+([112,117,116,32]:av3).length))<|(lf n (⟨x.A.Op,x.A.N,x.A.S,x.A.ax⟩:Expr)).bind λfk=>ay (b3 ((r1++([112,117,116,32]:av3)).length+fk.length))<|ay (b3 (((r1++([112,117,116,32]:av3))++fk).length+([32,61,32]:av3).length))<|(lf n (⟨x.B.Op,x.B.N,x.B.S,x.B.ax⟩:Expr)).bind λet=>ay (b3 ((((r1++([112,117,116,32]:av3))++fk)++([32,61,32]:av3)).length+et.length))<|ay (b3 (((((r1++([112,117,116,32]:av3))++fk)++([32,61,32]:av3))++et).length+([59,10]:av3).length))<|some (((((r1++([112,117,116,32]:av3))++fk)++([32,61,32]:av3))++et)++([59,10]:av3))) (cond (decide (x.Op=4)) (ay (b3 (r1.length+([100,101,108,101,116,101,32]:av3).length))<|(lf n (⟨x.A.Op,x.A.N,x.A.S,x.A.ax⟩:Expr)).bind λfM=>ay (b3 ((r1++([100,101,108,101,116,101,32]:av3)).length+fM.length))<|ay (b3 (((r1++([100,101,108,101,116,101,32]:av3))++fM).length+([59,10]:av3).length))<|some (((r1++([100,101,108,101,116,101,32]:av3))++fM)++([59,10]:av3))) (cond (decide (x.Op=7)) (ay (b3 (r1.length+([101,109,105,116,32]:av3).length))<|(lf n (⟨x.A.Op,x.A.N,x.A.S,x.A.ax⟩:Expr)).bind λiy=>ay (b3 ((r1++([101,109,105,116,32]:av3)).length+iy.length))<|ay (b3 (((r1++([101,109,105,116,32]:av3))++iy).length+([59,10]:av3).length))<|some (((r1++([101,109,105,116,32]:av3))++iy)++([59,10]:av3))) (cond (decide (x.Op=8)) (ay (b3 (r1.length+([97,98,111,114,116,32]:av3).length))<|(xh n x.Max).bind λld=>ay (b3 ((r1++([97,98,111,114,116,32]:av3)).length+ld.length))<|ay (b3 (((r1++([97,98,111,114,116,32]:av3))++ld).length+([59,10]:av3).length))<|some (((r1++([97,98,111,114,116,32]:av3))++ld)++([59,10]:av3))) (cond (decide (x.Op=6)) (ay (b3 (r1.length+([102,111,114,32]:av3).length))<|ay (b3 ((r1++([102,111,114,32]:av3)).length+x.Name.length))<|ay (b3 (((r1++([102,111,114,32]:av3))++x.Name).length+([32,61,32]:av3).length))<|(lf n (⟨x.A.Op,x.A.N,x.A.S,x.A.ax⟩:Expr)).bind λhS=>ay (b3 ((((r1++([102,111,114,32]:av3))++x.Name)++([32,61,32]:av3)).length+hS.length))<|ay (b3 (((((r1++([102,111,114,32]:av3))++x.Name)++([32,61,32]:av3))++hS).length+([32,116,111,32]:av3).length))<|(lf n (⟨x.B.Op,x.B.N,x.B.S,x.B.ax⟩:Expr)).bind λjr=>ay (b3 ((((((r1++([102,111,114,32]:av3))++x.Name)++([32,61,32]:av3))++hS)++([32,116,111,32]:av3)).length+jr.length))<|ay (b3 (((((((r1++([102,111,114,32]:av3))++x.Name)++([32,61,32]:av3))++hS)++([32,116,111,32]:av3))++jr).length+([32,109,97,120,32]:av3).length))<|(xh n x.Max).bind λrr=>ay (b3 ((((((((r1++([102,111,114,32]:av3))++x.Name)++([32,61,32]:av3))++hS)++([32,116,111,32]:av3))++jr)++([32,109,97,120,32]:av3)).length+rr.length))<|ay (b3 (((((((((r1++([102,111,114,32]:av3))++x.Name)++([32,61,32]:av3))++hS)++([32,116,111,32]:av3))++jr)++([32,109,97,120,32]:av3))++rr).length+([32,123,10]:av3).length))<|(js x.Body (av5 (depth+1))).bind λqi=>ay (b3 ((((((((((r1++([102,111,114,32]:av3))++x.Name)++([32,61,32]:av3))++hS)++([32,116,111,32]:av3))++jr)++([32,109,97,120,32]:av3))++rr)++([32,123,10]:av3)).length+qi.length))<|ay (b3 (((((((((((r1++([102,111,114,32]:av3))++x.Name)++([32,61,32]:av3))++hS)++([32,116,111,32]:av3))++jr)++([32,109,97,120,32]:av3))++rr)++([32,123,10]:av3))++qi).length+r1.length))<|ay (b3 ((((((((((((r1++([102,111,114,32]:av3))++x.Name)++([32,61,32]:av3))++hS)++([32,116,111,32]:av3))++jr)++([32,109,97,120,32]:av3))++rr)++([32,123,10]:av3))++qi)++r1).length+([125,10]:av3).length))<|some ((((((((((((r1++([102,111,114,32]:av3))++x.Name)++([32,61,32]:av3))++hS)++([32,116,111,32]:av3))++jr)++([32,109,97,120,32]:av3))++rr)++([32,123,10]:av3))++qi)++r1)++([125,10]:av3))) (ay (b3 (r1.length+([105,102,32]:av3).length))<|(lf n (⟨x.A.Op,x.A.N,x.A.S,x.A.ax⟩:Expr)).bind λfl=>ay (b3 ((r1++([105,102,32]:av3)).length+fl.length))<|ay (b3 (((r1++([105,102,32]:av3))++fl).length+([32,123,10]:av3).length))<|(js x.Body (av5 (depth+1))).bind λpo=>ay (b3 ((((r1++([105,102,32]:av3))++fl)++([32,123,10]:av3)).length+po.length))<|ay (b3 (((((r1++([105,102,32]:av3))++fl)++([32,123,10]:av3))++po).length+r1.length))<|ay (b3 ((((((r1++([105,102,32]:av3))++fl)++([32,123,10]:av3))++po)++r1).length+([125]:av3).length))<|cond (decide (0<((x.bB.length:Nat):Int))) (ay (b3 (((((((r1++([105,102,32]:av3))++fl)++([32,123,10]:av3))++po)++r1)++([125]:av3)).length+([32,101,108,115,101,32,123,10]:av3).length))<|(js x.bB (av5 (depth+1))).bind λkR=>ay (b3 ((((((((r1++([105,102,32]:av3))++fl)++([32,123,10]:av3))++po)++r1)++([125]:av3))++([32,101,108,115,101,32,123,10]:av3)).length+kR.length))<|ay (b3 (((((((((r1++([105,102,32]:av3))++fl)++([32,123,10]:av3))++po)++r1)++([125]:av3))++([32,101,108,115,101,32,123,10]:av3))++kR).length+r1.length))<|ay (b3 ((((((((((r1++([105,102,32]:av3))++fl)++([32,123,10]:av3))++po)++r1)++([125]:av3))++([32,101,108,115,101,32,123,10]:av3))++kR)++r1).length+([125]:av3).length))<|EJ n js jY ((((((((((r1++([105,102,32]:av3))++fl)++([32,123,10]:av3))++po)++r1)++([125]:av3))++([32,101,108,115,101,32,123,10]:av3))++kR)++r1)++([125]:av3))) (EJ n js jY ((((((r1++([105,102,32]:av3))++fl)++([32,123,10]:av3))++po)++r1)++([125]:av3))))))))))
def AI:Nat→((List Stmt)→Int→Option av3)×(Stmt→Int→Option av3)
 | 0=>(λ_ _=>none,λ_ _=>none)
 |m+1=>(K0 m ((AI m).1) ((AI m).2),K1 m ((AI m).1) ((AI m).2))
def rB:(List Stmt)→Int→Option av3:=(AI n).1
def AJ:Stmt→Int→Option av3:=(AI n).2
def Tg(n:Nat)(ty:Int):Option av3:=cond (decide (ty=1)) (some ([105,110,116]:av3)) (cond (decide (ty=2)) (some ([115,116,114]:av3)) (some ([98,111,111,108]:av3)))
def Th(p:bg)(hR:av3):Option av3:=ay (b3 (hR.length+([41,32,123,10]:av3).length))<|(rB n p.Body 1).bind λgC=>ay (b3 ((hR++([41,32,123,10]:av3)).length+gC.length))<|ay (b3 (((hR++([41,32,123,10]:av3))++gC).length+([125,10]:av3).length))<|some (((hR++([41,32,123,10]:av3))++gC)++([125,10]:av3))
def Ti(n:Nat)(ak:av3→Int→Option av3)(a1:Int)(p:bg)(v26:av3):Option av3:=ak v26 (av5 (a1+1))
def K2(ak:av3→Int→Option av3)(a1:Int)(p:bg)(c6:av3):Option av3:=ay (aM a1 p.Params.length)<|ay (b3 (c6.length+((av6 p.Params a1).Name).length))<|ay (b3 ((c6++((av6 p.Params a1).Name)).length+([58,32]:av3).length))<|ay (aM a1 p.Params.length)<|(Tg n ((av6 p.Params a1).fy)).bind λr24=>ay (b3 (((c6++((av6 p.Params a1).Name))++([58,32]:av3)).length+r24.length))<|Ti n ak a1 p (((c6++((av6 p.Params a1).Name))++([58,32]:av3))++r24)
def Tj(p:bg)(ak:av3→Int→Option av3)(dv:av3)(a1:Int):Option av3:=cond (decide (a1<((p.Params.length:Nat):Int))) (cond (decide (0<a1)) (ay (b3 (dv.length+([44,32]:av3).length))<|K2 n ak a1 p (dv++([44,32]:av3))) (K2 n ak a1 p dv)) (Th n p dv)
def EL(n:Nat)(p:bg):Nat→av3→Int→Option av3
 | 0=>λ_ _=>none
 |m+1=>Tj n p (EL n p m)
def AK(p:bg):Option av3:=(KR n p).bind λr1=>cond (!decide (r1=0)) (some ([]:av3)) (ay (b3 (([112,114,111,99,32]:av3).length+p.Name.length))<|ay (b3 ((([112,114,111,99,32]:av3)++p.Name).length+([40]:av3).length))<|EL n p n ((([112,114,111,99,32]:av3)++p.Name)++([40]:av3)) 0)
def Tk(n:Nat)(l:List bg):av7:=some (decide (((l.length:Nat):Int)≤16))
def K3(l:List bg)(ak:Int→av7)(v6:Int):av7:=cond (decide (v6<((l.length:Nat):Int))) (ay (aM v6 l.length)<|(AK n (av6 l v6)).bind λcv=>ay ((cond (decide (cv=([]:av3))) true (decide (16384<((cv.length:Nat):Int))))||(!(decide (0<v6))||aM (av5 (v6-1)) l.length))<|ay ((cond (decide (cv=([]:av3))) true (decide (16384<((cv.length:Nat):Int))))||(!(decide (0<v6))||aM v6 l.length))<|cond (cond (cond (decide (cv=([]:av3))) true (decide (16384<((cv.length:Nat):Int)))) true (cond (decide (0<v6)) (!(Op.bytesLess ((av6 l (av5 (v6-1))).Name) ((av6 l v6).Name))) false)) (some false) (ak (av5 (v6+1)))) (Tk n l)
def AL(n:Nat)(l:List bg):Nat→Int→av7
 | 0=>λ_=>none
 |m+1=>K3 n l (AL n l m)
def K4(l:List bg):av7:=AL n l n 0
def Tl(n:Nat):av7:=some true
def K5(l:List av3)(ak:Int→av7)(v6:Int):av7:=cond (decide (v6<((l.length:Nat):Int))) (ay (aM v6 l.length)<|(xb n (av6 l v6)).bind λcv=>ay ((!cv)||(!(decide (0<v6))||aM (av5 (v6-1)) l.length))<|ay ((!cv)||(!(decide (0<v6))||aM v6 l.length))<|cond (cond (!cv) true (cond (decide (0<v6)) (!(Op.bytesLess (av6 l (av5 (v6-1))) (av6 l v6))) false)) (some false) (ak (av5 (v6+1)))) (Tl n)
def AM(n:Nat)(l:List av3):Nat→Int→av7
 | 0=>λ_=>none
 |m+1=>K5 n l (AM n l m)
def EM(l:List av3):av7:=AM n l n 0
def EN(f:fz):av7:=cond f.ek (some (cond (decide (((f.Reads.length:Nat):Int)=0)) (decide (((f.cA.length:Nat):Int)=0)) false)) (Option.bind (cond (cond (decide (((f.Reads.length:Nat):Int)≤64)) (decide (((f.cA.length:Nat):Int)≤64)) false) (EM n f.Reads) (some default)) λr2=>Option.bind (cond (cond (cond (decide (((f.Reads.length:Nat):Int)≤64)) (decide (((f.cA.length:Nat):Int)≤64)) false) r2 false) (EM n f.cA) (some default)) λr3=>some (cond (cond (cond (decide (((f.Reads.length:Nat):Int)≤64)) (decide (((f.cA.length:Nat):Int)≤64)) false) r2 false) r3 false))
def Tm(ah:Request):av8:=(EN n ah.bv).bind λeQ=>cond (cond (cond (!eQ) true ah.bv.ek) true (cond (!ah.eS) (decide (0<(av5 (((ah.bv.Reads.length:Nat):Int)+((ah.bv.cA.length:Nat):Int))))) false)) (some 1) (some 0)
def K6(ah:Request)(ak:Int→av8)(v9:Int):av8:=cond (decide (v9<((ah.ax.length:Nat):Int))) (ay (aM v9 ah.ax.length)<|(uw n (av6 ah.ax v9)).bind λb4=>ay ((!b4)||aM v9 ah.ax.length)<|cond (cond (!b4) true (decide ((av6 ah.ax v9).Kind=0))) (some 1) (ak (av5 (v9+1)))) (Tm n ah)
def xk(n:Nat)(ah:Request):Nat→Int→av8
 | 0=>λ_=>none
 |m+1=>K6 n ah (xk n ah m)
def K7(ah:Request):av8:=cond (cond (cond (cond (decide (ah.Client<1)) true (decide (32<ah.Client))) true (decide (ah.Seq<1))) true (decide (1099511627776<ah.Seq))) (some 1) ((sX n ah.bg).bind λr2=>cond (!r2) (some 7) (cond (decide (6<((ah.ax.length:Nat):Int))) (some 2) (xk n ah n 0)))
def Tn(n:Nat)(l:List Request):av7:=some (decide (((l.length:Nat):Int)≤64))
def K8(l:List Request)(ak:Int→av7)(v4:Int):av7:=cond (decide (v4<((l.length:Nat):Int))) (ay (aM v4 l.length)<|(K7 n (av6 l v4)).bind λbj=>cond (!decide (bj=0)) (some false) (ak (av5 (v4+1)))) (Tn n l)
def AN(n:Nat)(l:List Request):Nat→Int→av7
 | 0=>λ_=>none
 |m+1=>K8 n l (AN n l m)
def K9(l:List Request):av7:=AN n l n 0
def K'(ah:bC):av7:=Option.bind (cond (cond (decide (0≤ah.Pos)) (decide (ah.Pos≤1099511627776)) false) (xd n ah.aq) (some default)) λr1=>Option.bind (cond (cond (cond (cond (decide (0≤ah.Pos)) (decide (ah.Pos≤1099511627776)) false) r1 false) (decide (ah.aq.br=ah.Pos)) false) (K4 n ah.bP) (some default)) λr2=>Option.bind (cond (cond (cond (cond (cond (decide (0≤ah.Pos)) (decide (ah.Pos≤1099511627776)) false) r1 false) (decide (ah.aq.br=ah.Pos)) false) r2 false) (KE n ah.bU) (some default)) λr3=>Option.bind (cond (cond (cond (cond (cond (cond (decide (0≤ah.Pos)) (decide (ah.Pos≤1099511627776)) false) r1 false) (decide (ah.aq.br=ah.Pos)) false) r2 false) r3 false) (Kx n ah.Place) (some default)) λaR=>Option.bind (cond (cond (cond (cond (cond (cond (cond (decide (0≤ah.Pos)) (decide (ah.Pos≤1099511627776)) false) r1 false) (decide (ah.aq.br=ah.Pos)) false) r2 false) r3 false) aR false) (Kz n ah.bc) (some default)) λbZ=>Option.bind (cond (cond (cond (cond (cond (cond (cond (cond (decide (0≤ah.Pos)) (decide (ah.Pos≤1099511627776)) false) r1 false) (decide (ah.aq.br=ah.Pos)) false) r2 false) r3 false) aR false) bZ false) (K9 n ah.Queue) (some default)) λbj=>some (cond (cond (cond (cond (cond (cond (cond (cond (decide (0≤ah.Pos)) (decide (ah.Pos≤1099511627776)) false) r1 false) (decide (ah.aq.br=ah.Pos)) false) r2 false) r3 false) aR false) bZ false) bj false)
def AO(ah:bC):Option (bC×Int):=(K' n ah).bind λr1=>cond (!r1) (some ((⟨0,⟨0,0,[]⟩,[],[],⟨0,[]⟩,[],[],0⟩:bC),1)) ((Ks n ah.aq ah.Pos).bind λr3=>(Ah n r3.1 ah.Pos).bind λaR=>some ((⟨ah.Pos,aR.1,ah.bP,ah.bU,ah.Place,ah.bc,ah.Queue,ah.cg⟩:bC),0))
def aan(a:bC)(b:bC):av7:=(AO n a).bind λr1=>(AO n b).bind λr2=>Option.bind (cond (cond (decide (r1.2=0)) (decide (r2.2=0)) false) (Av n r1.1 r2.1) (some default)) λr3=>some (cond (cond (decide (r1.2=0)) (decide (r2.2=0)) false) r3 false)
def K_:av7:=(Z6 n).bind λr1=>(JJ n r1).bind λr2=>(RO n r2.1 r1.aq 2).bind λr3=>(aal n r1.aq 6 ([(⟨[99],⟨0,0,[]⟩⟩:aU)]:List aU)).bind λaR=>(ZS n r3.1 ([120]:av3)).bind λbZ=>(RO n bZ aR.1 2).bind λbj=>(RD n bj.1).bind λcC=>(ZW n cC.1).bind λcv=>(RD n r3.1).bind λcM=>cond (cond (cond (cond (cond (cond (!decide (r2.2=0)) true (!decide (r3.2=0))) true (!decide (bj.2=0))) true (!decide (cC.2.2=0))) true (!decide (cv.2.2=0))) true (!decide (cM.2.2=16))) (some false) (Option.bind (cond (cond (cond (cond (cond (cond (cond (cond (decide (r2.1.bN=5)) (decide (((r3.1.gd.length:Nat):Int)=2)) false) (decide (r3.1.Next=([99]:av3))) false) (!r3.1.dI) false) (decide (((bj.1.gd.length:Nat):Int)=3)) false) (decide (bj.1.Next=([]:av3))) false) bj.1.dI false) (decide (cC.2.1=6)) false) (aan n cv.1 r1) (some default)) λb4=>Option.bind (cond (cond (cond (cond (cond (cond (cond (cond (cond (decide (r2.1.bN=5)) (decide (((r3.1.gd.length:Nat):Int)=2)) false) (decide (r3.1.Next=([99]:av3))) false) (!r3.1.dI) false) (decide (((bj.1.gd.length:Nat):Int)=3)) false) (decide (bj.1.Next=([]:av3))) false) bj.1.dI false) (decide (cC.2.1=6)) false) b4 false) (xc n cv.2.1 ([([120]:av3)]:List av3)) (some default)) λeJ=>some (cond (cond (cond (cond (cond (cond (cond (cond (cond (decide (r2.1.bN=5)) (decide (((r3.1.gd.length:Nat):Int)=2)) false) (decide (r3.1.Next=([99]:av3))) false) (!r3.1.dI) false) (decide (((bj.1.gd.length:Nat):Int)=3)) false) (decide (bj.1.Next=([]:av3))) false) bj.1.dI false) (decide (cC.2.1=6)) false) b4 false) eJ false))
def To(ah:bC):Option (gc×Int):=(AO n ah).bind λr1=>cond (!decide (r1.2=0)) (some ((⟨0,⟨0,⟨0,0,[]⟩,[],[],⟨0,[]⟩,[],[],0⟩,[],false,[],[]⟩:gc),1)) (some ((⟨ah.Pos,⟨ah.Pos,⟨0,0,[]⟩,ah.bP,ah.bU,ah.Place,ah.bc,ah.Queue,ah.cg⟩,[],false,[],[]⟩:gc),0))
def aao(n:Nat):av7:=some true
def aap(a:List aU)(b:List aU)(ak:Int→av7)(v5:Int):av7:=cond (decide (v5<((a.length:Nat):Int))) (ay (aM v5 a.length)<|ay (aM v5 b.length)<|cond (!((decide ((av6 a v5).Key=(av6 b v5).Key))&&((decide (((av6 a v5).bk).Kind=((av6 b v5).bk).Kind))&&((decide (((av6 a v5).bk).N=((av6 b v5).bk).N))&&((decide (((av6 a v5).bk).S=((av6 b v5).bk).S))&&true))))) (some false) (ak (av5 (v5+1)))) (aao n)
def Tp(n:Nat)(a:List aU)(b:List aU):Nat→Int→av7
 | 0=>λ_=>none
 |m+1=>aap n a b (Tp n a b m)
def Tq(a:List aU)(b:List aU):av7:=cond (!decide (((a.length:Nat):Int)=((b.length:Nat):Int))) (some false) (Tp n a b n 0)
def Tr(a:List av3)(b:List av3):av7:=(xc n a b).bind λr1=>some r1
def AP(a:gc)(b:gc):av7:=Option.bind (cond (cond (cond (decide (a.bN=b.bN)) (decide (a.Next=b.Next)) false) (a.dI == b.dI) false) (Tq n a.gd b.gd) (some default)) λr1=>Option.bind (cond (cond (cond (cond (decide (a.bN=b.bN)) (decide (a.Next=b.Next)) false) (a.dI == b.dI) false) r1 false) (Tr n a.f9 b.f9) (some default)) λr2=>Option.bind (cond (cond (cond (cond (cond (decide (a.bN=b.bN)) (decide (a.Next=b.Next)) false) (a.dI == b.dI) false) r1 false) r2 false) (Av n a.Rest b.Rest) (some default)) λr3=>some (cond (cond (cond (cond (cond (decide (a.bN=b.bN)) (decide (a.Next=b.Next)) false) (a.dI == b.dI) false) r1 false) r2 false) r3 false)
def Ts(ah:bC):av7:=(Eh n ah).bind λr1=>cond (!r1) ((K_ n).bind λr3=>some r3) ((JJ n ah).bind λaR=>(To n ah).bind λbZ=>(AP n aR.1 bZ.1).bind λbj=>Option.bind (cond (cond bj (decide (aR.2=bZ.2)) false) (K_ n) (some default)) λcC=>some (cond (cond bj (decide (aR.2=bZ.2)) false) cC false))
def aaq(n:Nat)(v11:Int):av8:=some v11
def Tt(n:Nat)(ak:Int→Int→av8)(s:av3)(at_:Int)(v6:Int)(bE:Int):av8:=ak bE (av5 (v6+1))
def aar(s:av3)(at_:Int)(ak:Int→Int→av8)(v5:Int)(v6:Int):av8:=cond (decide (v6<at_)) (ay (aM v6 s.length)<|cond (decide ((((s.getD (v6).toNat 0).toNat:Nat):Int)=10)) (Tt n ak s at_ v6 (av5 (v5+1))) (Tt n ak s at_ v6 v5)) (aaq n v5)
def La(n:Nat)(s:av3)(at_:Int):Nat→Int→Int→av8
 | 0=>λ_ _=>none
 |m+1=>aar n s at_ (La n s at_ m)
def Tu(s:av3)(at_:Int):av8:=La n s at_ n 0 0
def aas(n:Nat)(v22:Int):av8:=some v22
def aat(n:Nat)(ak:Int→av8)(s:av3)(e':Int→av8)(bF:Int):av8:=ay (!(decide (bF<((s.length:Nat):Int)))||aM bF s.length)<|cond (cond (decide (bF<((s.length:Nat):Int))) (!decide ((((s.getD (bF).toNat 0).toNat:Nat):Int)=10)) false) (e' (av5 (bF+1))) (ak bF)
def Lb(n:Nat)(ak:Int→av8)(s:av3):Nat→Int→av8
 | 0=>λ_=>none
 |m+1=>aat n ak s (Lb n ak s m)
def aau(s:av3)(ak:Int→av8)(v11:Int):av8:=cond (decide (v11<((s.length:Nat):Int))) (ay (aM v11 s.length)<|cond (decide ((((s.getD (v11).toNat 0).toNat:Nat):Int)=35)) (Lb n ak s n v11) (ay (aM v11 s.length)<|ay ((decide ((((s.getD (v11).toNat 0).toNat:Nat):Int)=32))||aM v11 s.length)<|ay ((cond (decide ((((s.getD (v11).toNat 0).toNat:Nat):Int)=32)) true (decide ((((s.getD (v11).toNat 0).toNat:Nat):Int)=9)))||aM v11 s.length)<|cond (cond (cond (decide ((((s.getD (v11).toNat 0).toNat:Nat):Int)=32)) true (decide ((((s.getD (v11).toNat 0).toNat:Nat):Int)=9))) true (decide ((((s.getD (v11).toNat 0).toNat:Nat):Int)=10))) (ak (av5 (v11+1))) (some v11))) (aas n v11)
def Lc(n:Nat)(s:av3):Nat→Int→av8
 | 0=>λ_=>none
 |m+1=>aau n s (Lc n s m)
def Ld(s:av3)(at_:Int):av8:=Lc n s n at_
def aav(n:Nat):Option (List av3):=some ([([61,61]:av3),([33,61]:av3),([60,61]:av3),([62,61]:av3),([43,43]:av3),([40]:av3),([41]:av3),([123]:av3),([125]:av3),([44]:av3),([59]:av3),([58]:av3),([61]:av3),([60]:av3),([62]:av3),([43]:av3),([45]:av3),([42]:av3),([47]:av3),([37]:av3)]:List av3)
def aaw(n:Nat)(s:av3):av7:=ay (!(decide (0<((s.length:Nat):Int)))||aM 0 s.length)<|some (cond (decide (0<((s.length:Nat):Int))) (cond (!decide ((((s.getD 0 0).toNat:Nat):Int)=48)) true (decide (((s.length:Nat):Int)=1))) false)
def aax(s:av3)(ak:Int→av7)(v4:Int):av7:=cond (decide (v4<((s.length:Nat):Int))) (ay (aM v4 s.length)<|ay ((decide ((((s.getD (v4).toNat 0).toNat:Nat):Int)<48))||aM v4 s.length)<|cond (cond (decide ((((s.getD (v4).toNat 0).toNat:Nat):Int)<48)) true (decide (57<(((s.getD (v4).toNat 0).toNat:Nat):Int)))) (some false) (ak (av5 (v4+1)))) (aaw n s)
def EO(n:Nat)(s:av3):Nat→Int→av7
 | 0=>λ_=>none
 |m+1=>aax n s (EO n s m)
def aay(s:av3):av7:=EO n s n 0
def aaz(n:Nat)(s:av3)(bF:Int):Option (Int×Int):=cond (cond (decide (0<((s.length:Nat):Int))) (decide ((((s.getD 0 0).toNat:Nat):Int)=45)) false) (some ((av5 (IntKind.u64.wrap (0-bF))),0)) (some ((av5 bF),0))
def aaA(s:av3)(v3:av3)(v4:Int)(e':Int→Int→Option (Int×Int))(v10:Int)(v11:Int):Option (Int×Int):=cond (decide (v11<((v3.length:Nat):Int))) (ay (aM v11 v3.length)<|cond (decide ((IntKind.u64.wrap (Int.tdiv (IntKind.u64.wrap (v4-(IntKind.u64.wrap (IntKind.u8.wrap ((((v3.getD (v11).toNat 0).toNat:Nat):Int)-48))))) 10))<v10)) (some (0,3)) (e' (IntKind.u64.wrap ((IntKind.u64.wrap (v10*10))+(IntKind.u64.wrap (IntKind.u8.wrap ((((v3.getD (v11).toNat 0).toNat:Nat):Int)-48))))) (av5 (v11+1)))) (aaz n s v10)
def Le(n:Nat)(s:av3)(v3:av3)(v4:Int):Nat→Int→Int→Option (Int×Int)
 | 0=>λ_ _=>none
 |m+1=>aaA n s v3 v4 (Le n s v3 v4 m)
def Tv(s:av3)(v3:av3)(v4:Int):Option (Int×Int):=(aay n v3).bind λbZ=>cond (cond (!bZ) true (cond (cond (decide (0<((s.length:Nat):Int))) (decide ((((s.getD 0 0).toNat:Nat):Int)=45)) false) (decide (v3=([48]:av3))) false)) (some (0,5)) (Le n s v3 v4 n 0 0)
def Tw(s:av3):Option (Int×Int):=ay (!(decide (0<((s.length:Nat):Int)))||aM 0 s.length)<|cond (cond (decide (0<((s.length:Nat):Int))) (decide ((((s.getD 0 0).toNat:Nat):Int)=45)) false) (ay (gV 1 s.length)<|Tv n s (s.drop 1) 9223372036854775808) (Tv n s s 9223372036854775807)
def Tx(w:av3):Option (Token×Int):=ay (aM 0 w.length)<|(AC n (((w.getD 0 0).toNat:Nat):Int)).bind λr2=>cond r2 ((Ew n w).bind λaR=>cond aR (some ((⟨2,w,0,0⟩:Token),0)) ((sX n w).bind λbj=>cond bj (some ((⟨1,w,0,0⟩:Token),0)) (some ((⟨0,[],0,0⟩:Token),2)))) ((Tw n w).bind λcv=>cond (!decide (cv.2=0)) (some ((⟨0,[],0,0⟩:Token),cv.2)) (some ((⟨3,[],cv.1,0⟩:Token),0)))
def aaB(n:Nat)(c6:Int):Option (av3×Int×Int):=some (([]:av3),c6,6)
def Ty(n:Nat)(ak:Int→av3→Option (av3×Int×Int))(s:av3)(v10:av3)(bR:Int):Option (av3×Int×Int):=cond (decide (((v10.length:Nat):Int)=64)) (some (([]:av3),bR,2)) (ay (l5 bR (av5 (bR+1)) s.length)<|ay (b3 (v10.length+((s.take ((av5 (bR+1))).toNat).drop (bR).toNat).length))<|ak (av5 (bR+1)) (v10++((s.take ((av5 (bR+1))).toNat).drop (bR).toNat)))
def aaC(s:av3)(ak:Int→av3→Option (av3×Int×Int))(v9:Int)(v10:av3):Option (av3×Int×Int):=cond (decide (v9<((s.length:Nat):Int))) (ay (aM v9 s.length)<|cond (decide ((((s.getD (v9).toNat 0).toNat:Nat):Int)=34)) (some (v10,(av5 (v9+1)),0)) (cond (decide ((((s.getD (v9).toNat 0).toNat:Nat):Int)=92)) (cond (decide ((av5 (v9+1))=((s.length:Nat):Int))) (some (([]:av3),(av5 (v9+1)),6)) (ay (aM (av5 (v9+1)) s.length)<|ay (!(!decide ((((s.getD ((av5 (v9+1))).toNat 0).toNat:Nat):Int)=34))||aM (av5 (v9+1)) s.length)<|cond (cond (!decide ((((s.getD ((av5 (v9+1))).toNat 0).toNat:Nat):Int)=34)) (!decide ((((s.getD ((av5 (v9+1))).toNat 0).toNat:Nat):Int)=92)) false) (some (([]:av3),(av5 (v9+1)),5)) (Ty n ak s v10 (av5 (v9+1))))) (cond (cond (decide ((((s.getD (v9).toNat 0).toNat:Nat):Int)<32)) true (decide (126<(((s.getD (v9).toNat 0).toNat:Nat):Int)))) (some (([]:av3),v9,5)) (Ty n ak s v10 v9)))) (aaB n v9)
def Lf(n:Nat)(s:av3):Nat→Int→av3→Option (av3×Int×Int)
 | 0=>λ_ _=>none
 |m+1=>aaC n s (Lf n s m)
def aaD(s:av3)(at_:Int):Option (av3×Int×Int):=Lf n s n (av5 (at_+1)) ([]:av3)
def aaE(n:Nat)(at_:Int):Option (Token×Int×Int):=some ((⟨0,[],0,0⟩:Token),at_,5)
def aaF(s:av3)(at_:Int)(dx:(List av3))(ak:Int→Option (Token×Int×Int))(cj:Int):Option (Token×Int×Int):=cond (decide (cj<((dx.length:Nat):Int))) (ay (aM cj dx.length)<|ay (!(decide ((av5 (at_+(((av6 dx cj).length:Nat):Int)))≤((s.length:Nat):Int)))||aM cj dx.length)<|ay (!(decide ((av5 (at_+(((av6 dx cj).length:Nat):Int)))≤((s.length:Nat):Int)))||l5 at_ (av5 (at_+(((av6 dx cj).length:Nat):Int))) s.length)<|ay (!(decide ((av5 (at_+(((av6 dx cj).length:Nat):Int)))≤((s.length:Nat):Int)))||aM cj dx.length)<|cond (cond (decide ((av5 (at_+(((av6 dx cj).length:Nat):Int)))≤((s.length:Nat):Int))) (decide (((s.take ((av5 (at_+(((av6 dx cj).length:Nat):Int)))).toNat).drop (at_).toNat)=(av6 dx cj))) false) (ay (aM cj dx.length)<|ay (aM cj dx.length)<|some ((⟨5,(av6 dx cj),0,0⟩:Token),(av5 (at_+(((av6 dx cj).length:Nat):Int))),0)) (ak (av5 (cj+1)))) (aaE n at_)
def EP(n:Nat)(s:av3)(at_:Int)(dx:(List av3)):Nat→Int→Option (Token×Int×Int)
 | 0=>λ_=>none
 |m+1=>aaF n s at_ dx (EP n s at_ dx m)
def Tz(s:av3)(at_:Int):Option (Token×Int×Int):=ay (aM at_ s.length)<|cond (decide ((((s.getD (at_).toNat 0).toNat:Nat):Int)=34)) ((aaD n s at_).bind λr3=>some ((⟨4,r3.1,0,0⟩:Token),r3.2.1,r3.2.2)) (ay (aM at_ s.length)<|(Ex n (((s.getD (at_).toNat 0).toNat:Nat):Int)).bind λbZ=>cond bZ ((KF n s at_).bind λcC=>ay (l5 at_ cC s.length)<|(Tx n ((s.take (cC).toNat).drop (at_).toNat)).bind λcM=>some (cM.1,cC,cM.2)) ((aav n).bind λdx=>EP n s at_ dx n 0))
def aaG(n:Nat)(a1:List Token):Option ((List Token)×Int×Int):=some (a1,0,0)
def TA(src:av3)(ak:(List Token)→Int→Option ((List Token)×Int×Int))(v9:List Token)(v10:Int):Option ((List Token)×Int×Int):=cond (decide (v10<((src.length:Nat):Int))) ((Tu n src v10).bind λb4=>(Tz n src v10).bind λeJ=>cond (!decide (eJ.2.2=0)) (some (([]:List Token),(av5 (b4+1)),eJ.2.2)) (ay (room (v9.length+([(⟨eJ.1.Kind,eJ.1.Text,eJ.1.N,(av5 (b4+1))⟩:Token)]:List Token).length) 40)<|(Ld n src eJ.2.1).bind λeQ=>ak (v9++([(⟨eJ.1.Kind,eJ.1.Text,eJ.1.N,(av5 (b4+1))⟩:Token)]:List Token)) eQ)) (aaG n v9)
def EQ(n:Nat)(src:av3):Nat→(List Token)→Int→Option ((List Token)×Int×Int)
 | 0=>λ_ _=>none
 |m+1=>TA n src (EQ n src m)
def aaH(src:av3):Option ((List Token)×Int×Int):=cond (decide (16384<((src.length:Nat):Int))) (some (([]:List Token),0,2)) ((Ld n src 0).bind λr2=>EQ n src n ([]:List Token) r2)
end Go.Ab.Y

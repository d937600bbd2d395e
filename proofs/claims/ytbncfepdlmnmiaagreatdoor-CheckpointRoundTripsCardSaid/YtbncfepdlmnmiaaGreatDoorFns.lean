/- What each function computes, over plain data, with fuel. Printed by a program. -/
import Derived.Test.YtbncfepdlmnmiaaGreatDoorHand
set_option linter.all false
namespace Go.Ab.Y
open Go Go.Ab Go.Proofs
variable (n:Nat)
def OA(n:Nat)(c:Int):avc:=some (cond (cond (cond (cond (cond (cond (decide (97≤c)) (decide (c≤122)) false) true (cond (decide (48≤c)) (decide (c≤57)) false)) true (decide (c=47))) true (decide (c=46))) true (decide (c=95))) true (decide (c=45)))
def OB(n:Nat):avc:=some true
def HG(s:au')(aj:Int→avc)(v5:Int):avc:=cond (decide (v5<((s.length:Nat):Int))) (av (aI v5 s.length)<|(OA n (((s.getD (v5).toNat 0).toNat:Nat):Int)).bind λbO=>cond (!bO) (some false) (aj (ava (v5+1)))) (OB n)
def y'(n:Nat)(s:au'):Nat→Int→avc
 | 0=>λ_=>none
 |m+1=>HG n s (y' n s m)
def HH(s:au'):avc:=cond (decide (24<((s.length:Nat):Int))) (some false) (y' n s n 0)
def wJ(k:au'):avc:=Option.bind (cond (!(decide (k=([]:au')))) (HH n k) (some default)) λr1=>some (cond (!(decide (k=([]:au')))) r1 false)
def OC(n:Nat)(l:List au'):avc:=some (decide (((l.length:Nat):Int)≤64))
def HI(l:List au')(aj:Int→avc)(v5:Int):avc:=cond (decide (v5<((l.length:Nat):Int))) (av (aI v5 l.length)<|(wJ n (avb l v5)).bind λbO=>av ((!bO)||(!(decide (0<v5))||aI (ava (v5-1)) l.length))<|cond (cond (!bO) true (cond (decide (0<v5)) ((Op.bytesLess (avb l v5) (avb l (ava (v5-1))))||(decide ((avb l v5)=(avb l (ava (v5-1)))))) false)) (some false) (aj (ava (v5+1)))) (OC n l)
def y_(n:Nat)(l:List au'):Nat→Int→avc
 | 0=>λ_=>none
 |m+1=>HI n l (y_ n l m)
def CG(l:List au'):avc:=y_ n l n 0
def CH(f:gP):avc:=cond f.fh (some (cond (decide (((f.Reads.length:Nat):Int)=0)) (decide (((f.dI.length:Nat):Int)=0)) false)) ((CG n f.Reads).bind λr2=>Option.bind (cond r2 (CG n f.dI) (some default)) λr3=>some (cond r2 r3 false))
def OD(n:Nat):avc:=some false
def iD(v1:Bool):avc:=cond v1 (some true) (OD n)
def CI(s:au'):avc:=cond (decide (s=([112,114,111,99]:au'))) (iD n (decide (s=([112,114,111,99]:au')))) (cond (decide (s=([108,101,116]:au'))) (iD n (decide (s=([108,101,116]:au')))) (cond (decide (s=([112,117,116]:au'))) (iD n (decide (s=([112,117,116]:au')))) (cond (decide (s=([100,101,108,101,116,101]:au'))) (iD n (decide (s=([100,101,108,101,116,101]:au')))) (cond (decide (s=([105,102]:au'))) (iD n (decide (s=([105,102]:au')))) (cond (decide (s=([101,108,115,101]:au'))) (iD n (decide (s=([101,108,115,101]:au')))) (cond (decide (s=([102,111,114]:au'))) (iD n (decide (s=([102,111,114]:au')))) (cond (decide (s=([116,111]:au'))) (iD n (decide (s=([116,111]:au')))) (cond (decide (s=([109,97,120]:au'))) (iD n (decide (s=([109,97,120]:au')))) (cond (decide (s=([101,109,105,116]:au'))) (iD n (decide (s=([101,109,105,116]:au')))) (cond (decide (s=([97,98,111,114,116]:au'))) (iD n (decide (s=([97,98,111,114,116]:au')))) (cond (decide (s=([110,111,116]:au'))) (iD n (decide (s=([110,111,116]:au')))) (cond (decide (s=([97,110,100]:au'))) (iD n (decide (s=([97,110,100]:au')))) (cond (decide (s=([111,114]:au'))) (iD n (decide (s=([111,114]:au')))) (cond (decide (s=([105,110,116]:au'))) (iD n (decide (s=([105,110,116]:au')))) (cond (decide (s=([115,116,114]:au'))) (iD n (decide (s=([115,116,114]:au')))) (cond (decide (s=([98,111,111,108]:au'))) (iD n (decide (s=([98,111,111,108]:au')))) (cond (decide (s=([116,101,120,116]:au'))) (iD n (decide (s=([116,101,120,116]:au')))) (cond (decide (s=([108,101,110]:au'))) (iD n (decide (s=([108,101,110]:au')))) (cond (decide (s=([103,101,116,105,110,116]:au'))) (iD n (decide (s=([103,101,116,105,110,116]:au')))) (cond (decide (s=([103,101,116,115,116,114]:au'))) (iD n (decide (s=([103,101,116,115,116,114]:au')))) (cond (decide (s=([104,97,115]:au'))) (iD n (decide (s=([104,97,115]:au')))) (cond (decide (s=([110,111,119]:au'))) (iD n (decide (s=([110,111,119]:au')))) (cond (decide (s=([114,97,110,100,111,109]:au'))) (iD n (decide (s=([114,97,110,100,111,109]:au')))) (iD n (decide (s=([110,111,100,101]:au')))))))))))))))))))))))))))
def CJ(n:Nat)(c:Int):avc:=some (cond (decide (97≤c)) (decide (c≤122)) false)
def sK(s:au'):avc:=av (!(cond (!(decide (s=([]:au')))) (decide (((s.length:Nat):Int)≤16)) false)||aI 0 s.length)<|Option.bind (cond (cond (!(decide (s=([]:au')))) (decide (((s.length:Nat):Int)≤16)) false) (CJ n (IntKind.i32.wrap (((s.getD 0 0).toNat:Nat):Int))) (some default)) λr2=>Option.bind (cond (cond (cond (!(decide (s=([]:au')))) (decide (((s.length:Nat):Int)≤16)) false) r2 false) (y7 n s) (some default)) λr3=>Option.bind (cond (cond (cond (cond (!(decide (s=([]:au')))) (decide (((s.length:Nat):Int)≤16)) false) r2 false) (decide (r3=((s.length:Nat):Int))) false) (CI n s) (some default)) λaR=>some (cond (cond (cond (cond (!(decide (s=([]:au')))) (decide (((s.length:Nat):Int)≤16)) false) r2 false) (decide (r3=((s.length:Nat):Int))) false) (!aR) false)
def X8(n:Nat)(s:au'):avc:=some (decide (((s.length:Nat):Int)≤64))
def OE(s:au')(aj:Int→avc)(v4:Int):avc:=cond (decide (v4<((s.length:Nat):Int))) (av (aI v4 s.length)<|av ((decide ((((s.getD (v4).toNat 0).toNat:Nat):Int)<32))||aI v4 s.length)<|cond (cond (decide ((((s.getD (v4).toNat 0).toNat:Nat):Int)<32)) true (decide (126<(((s.getD (v4).toNat 0).toNat:Nat):Int)))) (some false) (aj (ava (v4+1)))) (X8 n s)
def CK(n:Nat)(s:au'):Nat→Int→avc
 | 0=>λ_=>none
 |m+1=>OE n s (CK n s m)
def CL(s:au'):avc:=CK n s n 0
def sL(v:bz):avc:=cond (decide (v.Kind=0)) (some ((decide (v.Kind=0))&&((decide (v.N=0))&&((decide (v.S=([]:au')))&&true)))) (cond (decide (v.Kind=1)) (some (decide (v.S=([]:au')))) (cond (decide (v.Kind=2)) (Option.bind (cond (decide (v.N=0)) (CL n v.S) (some default)) λaR=>some (cond (decide (v.N=0)) aR false)) (some false)))
def OF(v:bz):avc:=Option.bind (cond (!(decide (v.Kind=0))) (sL n v) (some default)) λr1=>some (cond (decide (v.Kind=0)) true (!r1))
def OG(n:Nat):avd:=some (-1)
def HJ(s:List bz)(aj:Int→avd)(v4:Int):avd:=cond (decide (v4<((s.length:Nat):Int))) (av (aI v4 s.length)<|(OF n (avb s v4)).bind λaT=>cond aT (some v4) (aj (ava (v4+1)))) (OG n)
def za(n:Nat)(s:List bz):Nat→Int→avd
 | 0=>λ_=>none
 |m+1=>HJ n s (za n s m)
def OH(s:List bz):avd:=za n s n 0
def OI(s:List bz):avc:=(OH n s).bind λr1=>some (decide (0≤r1))
def rx(ah:Request):avd:=cond (cond (cond (cond (decide (ah.Client<1)) true (decide (32<ah.Client))) true (decide (ah.Seq<1))) true (decide (1099511627776<ah.Seq))) (some 1) ((sK n ah.bb).bind λr2=>cond (!r2) (some 7) (cond (decide (6<((ah.ax.length:Nat):Int))) (some 2) ((OI n ah.ax).bind λbV=>cond bV (some 1) ((CH n ah.bU).bind λbO=>cond (cond (cond (!bO) true ah.bU.fh) true (cond (!ah.fE) (decide (0<(ava (((ah.bU.Reads.length:Nat):Int)+((ah.bU.dI.length:Nat):Int))))) false)) (some 1) (some 0)))))
def HK(n:Nat)(b:List Int)(c:Int):Option (List Int):=av (room (b.length+([c]:List Int).length) 1)<|some (b++([c]:List Int))
def OJ(v9:Int)(v10:List Int):Option au':=(HK n v10 (IntKind.u8.wrap v9)).bind λbx=>av (nC bx)<|some (kg bx)
def OK(aj:Int→(List Int)→Option au')(v4:Int)(v5:List Int):Option au':=cond (decide (128≤v4)) ((HK n v5 (qV .u8 (IntKind.u8.wrap v4) 128)).bind λaT=>aj (ns .u64 v4 7) aT) (OJ n v4 v5)
def CM(n:Nat):Nat→Int→(List Int)→Option au'
 | 0=>λ_ _=>none
 |m+1=>OK n (CM n m)
def hL(u:Int):Option au':=CM n n u ([]:List Int)
def oJ(s:au'):Option au':=(hL n (IntKind.u64.wrap ((s.length:Nat):Int))).bind λr1=>av (b5 (r1.length+s.length))<|some (r1++s)
def OL(n:Nat)(bL:au'):Option au':=some bL
def HL(l:List au')(aj:Int→au'→Option au')(bp:Int)(bm:au'):Option au':=cond (decide (bp<((l.length:Nat):Int))) (av (aI bp l.length)<|(oJ n (avb l bp)).bind λdj=>av (b5 (bm.length+dj.length))<|aj (ava (bp+1)) (bm++dj)) (OL n bm)
def zb(n:Nat)(l:List au'):Nat→Int→au'→Option au'
 | 0=>λ_ _=>none
 |m+1=>HL n l (zb n l m)
def CN(l:List au'):Option au':=(hL n (IntKind.u64.wrap ((l.length:Nat):Int))).bind λr1=>zb n l n 0 r1
def qq(dK:Int):Option au':=(hL n (mY .u64 (pf .u64 (IntKind.u64.wrap dK) 1) (IntKind.u64.wrap (ns .i64 dK 63)))).bind λr1=>some r1
def wK(v:bz):Option au':=cond (decide (v.Kind=1)) ((hL n 1).bind λr2=>(qq n v.N).bind λr3=>av (b5 (r2.length+r3.length))<|some (r2++r3)) (cond (decide (v.Kind=2)) ((hL n 2).bind λaT=>(oJ n v.S).bind λbO=>av (b5 (aT.length+bO.length))<|some (aT++bO)) ((hL n 0).bind λcd=>some cd))
def OM(n:Nat)(b:Bool):Option au':=cond b (some ([1]:au')) (some ([0]:au'))
def CO(n:Nat)(hT:au'):Option au':=some hT
def CP(ah:Request)(v22:au'):Option au':=(OM n ah.fE).bind λeo=>av (b5 (v22.length+eo.length))<|cond ah.fE ((CN n ah.bU.Reads).bind λfi=>(CN n ah.bU.dI).bind λr26=>av (b5 (fi.length+r26.length))<|av (b5 ((v22++eo).length+(fi++r26).length))<|CO n ((v22++eo)++(fi++r26))) (CO n (v22++eo))
def HM(ah:Request)(fp:au'→Int→Option au')(br:au')(cW:Int):Option au':=cond (decide (cW<((ah.ax.length:Nat):Int))) (av (aI cW ah.ax.length)<|(wK n (avb ah.ax cW)).bind λe9=>av (b5 (br.length+e9.length))<|fp (br++e9) (ava (cW+1))) (CP n ah br)
def zc(n:Nat)(ah:Request):Nat→au'→Int→Option au'
 | 0=>λ_ _=>none
 |m+1=>HM n ah (zc n ah m)
def HN(ah:Request):Option au':=(rx n ah).bind λr1=>cond (!decide (r1=0)) (some ([]:au')) ((hL n (IntKind.u64.wrap ah.Client)).bind λr3=>(hL n (IntKind.u64.wrap ah.Seq)).bind λaR=>av (b5 (r3.length+aR.length))<|(oJ n ah.bb).bind λaT=>av (b5 ((r3++aR).length+aT.length))<|(hL n (IntKind.u64.wrap ((ah.ax.length:Nat):Int))).bind λbH=>av (b5 (((r3++aR)++aT).length+bH.length))<|zc n ah n (((r3++aR)++aT)++bH) 0)
def ON(n:Nat)(aV:au'):Option au':=some aV
def HO(l:List Request)(aj:Int→au'→Option au')(v9:Int)(v10:au'):Option au':=cond (decide (v9<((l.length:Nat):Int))) (av (aI v9 l.length)<|(rx n (⟨(avb l v9).Client,(avb l v9).Seq,(avb l v9).bb,(avb l v9).ax,(avb l v9).fE,⟨((avb l v9).bU).fh,((avb l v9).bU).Reads,((avb l v9).bU).dI⟩⟩:Request)).bind λcq=>cond (!decide (cq=0)) (some ([]:au')) ((HN n (⟨(avb l v9).Client,(avb l v9).Seq,(avb l v9).bb,(avb l v9).ax,(avb l v9).fE,⟨((avb l v9).bU).fh,((avb l v9).bU).Reads,((avb l v9).bU).dI⟩⟩:Request)).bind λde=>av (b5 (v10.length+de.length))<|aj (ava (v9+1)) (v10++de))) (ON n v10)
def zd(n:Nat)(l:List Request):Nat→Int→au'→Option au'
 | 0=>λ_ _=>none
 |m+1=>HO n l (zd n l m)
def ze(l:List Request):Option au':=cond (decide (64<((l.length:Nat):Int))) (some ([]:au')) ((hL n (IntKind.u64.wrap ((l.length:Nat):Int))).bind λr2=>zd n l n 0 r2)
def OO(n:Nat):avc:=some true
def HP(floor:Int)(last:Int)(ah:Row)(aj:Int→avc)(bm:Int):avc:=cond (decide (bm<((ah.bA.length:Nat):Int))) (av (aI bm ah.bA.length)<|Option.bind (cond (!(cond (decide ((avb ah.bA bm).cg<floor)) true (decide (last<(avb ah.bA bm).cg)))) (sL n (⟨((avb ah.bA bm).bj).Kind,((avb ah.bA bm).bj).N,((avb ah.bA bm).bj).S⟩:bz)) (some default)) λdj=>cond (cond (cond (decide ((avb ah.bA bm).cg<floor)) true (decide (last<(avb ah.bA bm).cg))) true (!dj)) (some false) (av (!(decide (0<bm))||aI (ava (bm-1)) ah.bA.length)<|av (!(decide (0<bm))||((decide ((avb ah.bA bm).cg≤(avb ah.bA (ava (bm-1))).cg))||aI (ava (bm-1)) ah.bA.length))<|cond (cond (decide (0<bm)) (cond (decide ((avb ah.bA bm).cg≤(avb ah.bA (ava (bm-1))).cg)) true ((decide (((avb ah.bA bm).bj).Kind=((avb ah.bA (ava (bm-1))).bj).Kind))&&((decide (((avb ah.bA bm).bj).N=((avb ah.bA (ava (bm-1))).bj).N))&&((decide (((avb ah.bA bm).bj).S=((avb ah.bA (ava (bm-1))).bj).S))&&true)))) false) (some false) (aj (ava (bm+1))))) (OO n)
def zf(n:Nat)(floor:Int)(last:Int)(ah:Row):Nat→Int→avc
 | 0=>λ_=>none
 |m+1=>HP n floor last ah (zf n floor last ah m)
def HQ(ah:Row)(floor:Int)(last:Int):avc:=av ((decide (((ah.bA.length:Nat):Int)=0))||aI 0 ah.bA.length)<|cond (cond (decide (((ah.bA.length:Nat):Int)=0)) true (decide (((ah.bA.getD 0 default).bj).Kind=0))) (some false) (zf n floor last ah n 0)
def OP(n:Nat):avc:=some true
def HR(s:aw)(aj:Int→avc)(bp:Int):avc:=cond (decide (bp<((s.Rows.length:Nat):Int))) (av (aI bp s.Rows.length)<|(wJ n ((avb s.Rows bp).Key)).bind λcd=>av ((!cd)||(!(decide (0<bp))||aI (ava (bp-1)) s.Rows.length))<|Option.bind (cond (!(cond (!cd) true (cond (decide (0<bp)) ((Op.bytesLess ((avb s.Rows bp).Key) ((avb s.Rows (ava (bp-1))).Key))||(decide (((avb s.Rows bp).Key)=((avb s.Rows (ava (bp-1))).Key)))) false))) (HQ n (avb s.Rows bp) s.bB s.bv) (some default)) λbx=>cond (cond (cond (!cd) true (cond (decide (0<bp)) ((Op.bytesLess ((avb s.Rows bp).Key) ((avb s.Rows (ava (bp-1))).Key))||(decide (((avb s.Rows bp).Key)=((avb s.Rows (ava (bp-1))).Key)))) false)) true (!bx)) (some false) (aj (ava (bp+1)))) (OP n)
def zg(n:Nat)(s:aw):Nat→Int→avc
 | 0=>λ_=>none
 |m+1=>HR n s (zg n s m)
def uz(s:aw):avc:=cond (cond (cond (decide (s.bB<0)) true (decide (s.bv<s.bB))) true (decide (1099511627776<s.bv))) (some false) (zg n s n 0)
def CQ(n:Nat)(s:aw)(at_:Int):avd:=cond (cond (decide (at_<s.bB)) true (decide (s.bv<at_))) (some 15) (some 0)
def HS(n:Nat)(v6:Int):avd:=some v6
def HT(at_:Int)(ah:Row)(aj:Int→avd)(v3:Int):avd:=av (!(decide (v3<((ah.bA.length:Nat):Int)))||aI v3 ah.bA.length)<|cond (cond (decide (v3<((ah.bA.length:Nat):Int))) (decide ((avb ah.bA v3).cg≤at_)) false) (aj (ava (v3+1))) (HS n v3)
def wL(n:Nat)(at_:Int)(ah:Row):Nat→Int→avd
 | 0=>λ_=>none
 |m+1=>HT n at_ ah (wL n at_ ah m)
def HU(ah:Row)(at_:Int):avd:=wL n at_ ah n 0
def zh(ah:Row)(at_:Int):Option bz:=(HU n ah at_).bind λr1=>cond (decide (r1=0)) (some (⟨0,0,[]⟩:bz)) (av (aI (ava (r1-1)) ah.bA.length)<|some (⟨((avb ah.bA (ava (r1-1))).bj).Kind,((avb ah.bA (ava (r1-1))).bj).N,((avb ah.bA (ava (r1-1))).bj).S⟩:bz))
def HV(n:Nat)(bZ:List aU):Option ((List aU)×Int):=some (bZ,0)
def zi(n:Nat)(aj:Int→(List aU)→Option ((List aU)×Int))(at_:Int)(s:aw)(v11:Int)(cW:List aU):Option ((List aU)×Int):=aj (ava (v11+1)) cW
def HW(at_:Int)(s:aw)(aj:Int→(List aU)→Option ((List aU)×Int))(v11:Int)(v12:List aU):Option ((List aU)×Int):=cond (decide (v11<((s.Rows.length:Nat):Int))) (av (aI v11 s.Rows.length)<|(zh n (avb s.Rows v11) at_).bind λep=>cond (!decide (ep.Kind=0)) (av (room (v12.length+([(⟨(avb s.Rows v11).Key,ep⟩:aU)]:List aU).length) 48)<|zi n aj at_ s v11 (v12++([(⟨(avb s.Rows v11).Key,ep⟩:aU)]:List aU))) (zi n aj at_ s v11 v12)) (HV n v12)
def wM(n:Nat)(at_:Int)(s:aw):Nat→Int→(List aU)→Option ((List aU)×Int)
 | 0=>λ_ _=>none
 |m+1=>HW n at_ s (wM n at_ s m)
def uA(s:aw)(at_:Int):Option ((List aU)×Int):=(uz n s).bind λr1=>cond (!r1) (some (([]:List aU),1)) ((CQ n s at_).bind λr3=>cond (!decide (r3=0)) (some (([]:List aU),r3)) (wM n at_ s n 0 ([]:List aU)))
def OQ(n:Nat)(na:au'):Option au':=some na
def HX(p:cc)(aj:Int→au'→Option au')(aV:Int)(cl:au'):Option au':=cond (decide (aV<((p.aS.length:Nat):Int))) (av (aI aV p.aS.length)<|(qq n ((avb p.aS aV).Id)).bind λdW=>(oJ n ((avb p.aS aV).es)).bind λeT=>av (b5 (dW.length+eT.length))<|(qq n ((avb p.aS aV).Node)).bind λeo=>av (b5 ((dW++eT).length+eo.length))<|(qq n ((avb p.aS aV).gO)).bind λfi=>av (b5 (((dW++eT)++eo).length+fi.length))<|(oJ n ((avb p.aS aV).dQ)).bind λr27=>av (b5 ((((dW++eT)++eo)++fi).length+r27.length))<|av (b5 (cl.length+((((dW++eT)++eo)++fi)++r27).length))<|aj (ava (aV+1)) (cl++((((dW++eT)++eo)++fi)++r27))) (OQ n cl)
def zj(n:Nat)(p:cc):Nat→Int→au'→Option au'
 | 0=>λ_ _=>none
 |m+1=>HX n p (zj n p m)
def CR(p:cc):Option au':=(qq n p.Version).bind λr1=>(hL n (IntKind.u64.wrap ((p.aS.length:Nat):Int))).bind λr2=>av (b5 (r1.length+r2.length))<|zj n p n 0 (r1++r2)
def OR(n:Nat)(y:Param)(ae:Param):avc:=some (decide (y.Name=ae.Name))
def OS(n:Nat)(ae:Param):avd:=some (-1)
def OT(s:List Param)(ae:Param)(aj:Int→avd)(v4:Int):avd:=cond (decide (v4<((s.length:Nat):Int))) (av (aI v4 s.length)<|(OR n (avb s v4) ae).bind λaT=>cond aT (some v4) (aj (ava (v4+1)))) (OS n ae)
def zk(n:Nat)(s:List Param)(ae:Param):Nat→Int→avd
 | 0=>λ_=>none
 |m+1=>OT n s ae (zk n s ae m)
def OU(s:List Param)(ae:Param):avd:=zk n s ae n 0
def HY(s:List Param)(ae:Param):avc:=(OU n s ae).bind λr1=>some (decide (0≤r1))
def OV(n:Nat):avd:=some 0
def OW(l:List Param)(aj:Int→avd)(bp:Int):avd:=cond (decide (bp<((l.length:Nat):Int))) (av (aI bp l.length)<|(sK n ((avb l bp).Name)).bind λcd=>cond (!cd) (some 7) (cond (cond (decide ((avb l bp).fS<1)) true (decide (3<(avb l bp).fS))) (some 10) (av (gT bp l.length)<|(HY n (l.take (bp).toNat) (avb l bp)).bind λbx=>cond bx (some 8) (aj (ava (bp+1)))))) (OV n)
def zl(n:Nat)(l:List Param):Nat→Int→avd
 | 0=>λ_=>none
 |m+1=>OW n l (zl n l m)
def HZ(l:List Param):avd:=cond (decide (6<((l.length:Nat):Int))) (some 2) (zl n l n 0)
def H0(n:Nat)(op:Int):avd:=cond (cond (decide (op<1)) true (decide (27<op))) (some (-1)) (cond (cond (decide (op≤3)) true (decide (25≤op))) (some 0) (cond (cond (cond (decide (op=9)) true (decide (op=18))) true (decide (20≤op))) (some 1) (some 2)))
def OX(n:Nat)(s:au'):avc:=some (decide (((s.length:Nat):Int)≤64))
def OY(s:au')(aj:Int→avc)(v4:Int):avc:=cond (decide (v4<((s.length:Nat):Int))) (av (aI v4 s.length)<|av ((decide ((((s.getD (v4).toNat 0).toNat:Nat):Int)<32))||aI v4 s.length)<|cond (cond (decide ((((s.getD (v4).toNat 0).toNat:Nat):Int)<32)) true (decide (126<(((s.getD (v4).toNat 0).toNat:Nat):Int)))) (some false) (aj (ava (v4+1)))) (OX n s)
def zm(n:Nat)(s:au'):Nat→Int→avc
 | 0=>λ_=>none
 |m+1=>OY n s (zm n s m)
def OZ(s:au'):avc:=zm n s n 0
def H2(e:Expr)(depth:Int):avd:=(H0 n e.Op).bind λr1=>cond (cond (cond (decide (r1<0)) true (cond (!decide (e.Op=1)) (!decide (e.N=0)) false)) true (cond (cond (!decide (e.Op=2)) (!decide (e.Op=3)) false) (!(decide (e.S=([]:au')))) false)) (some 1) (Option.bind (cond (decide (e.Op=3)) (sK n e.S) (some default)) λr3=>cond (cond (decide (e.Op=3)) (!r3) false) (some 7) (Option.bind (cond ((!(cond (decide (e.Op=1)) (decide (e.N<0)) false))&&(decide (e.Op=2))) (OZ n e.S) (some default)) λbV=>cond (cond (cond (cond (decide (e.Op=1)) (decide (e.N<0)) false) true (cond (decide (e.Op=2)) (!bV) false)) true (!decide (((e.ax.length:Nat):Int)=r1))) (some 1) (cond (decide (12<depth)) (some 2) (some 0))))
def O0(n:Nat)(nH:Expr→Int→avd):avd:=some 0
def O1(nH:Expr→Int→avd)(depth:Int)(e:Expr)(aj:Int→avd)(v6:Int):avd:=cond (decide (v6<((e.ax.length:Nat):Int))) (av (aI v6 e.ax.length)<|(nH (avb e.ax v6) (ava (depth+1))).bind λbH=>cond (!decide (bH=0)) (some bH) (aj (ava (v6+1)))) (O0 n nH)
def CS(n:Nat)(nH:Expr→Int→avd)(depth:Int)(e:Expr):Nat→Int→avd
 | 0=>λ_=>none
 |m+1=>O1 n nH depth e (CS n nH depth e m)
def O2(nH:Expr→Int→avd)(e:Expr)(depth:Int):avd:=(H2 n e depth).bind λr1=>cond (!decide (r1=0)) (some r1) (CS n nH depth e n 0)
def zn:Nat→Expr→Int→avd
 | 0=>λ_ _=>none
 |m+1=>O2 m (zn m)
def CT(e:Expr):avd:=(zn n e 1).bind λr1=>some r1
def zo(n:Nat)(e:Expr):avc:=some (cond (cond (cond (decide (e.Op=0)) (decide (e.N=0)) false) (decide (e.S=([]:au'))) false) (decide (((e.ax.length:Nat):Int)=0)) false)
def H3(s:Stmt)(u:ls):avc:=Option.bind (cond ((!(cond (!u.name) (!(decide (s.Name=([]:au')))) false))&&(!u.a)) (zo n (⟨s.A.Op,s.A.N,s.A.S,s.A.ax⟩:Expr)) (some default)) λr1=>Option.bind (cond ((!(cond (cond (!u.name) (!(decide (s.Name=([]:au')))) false) true (cond (!u.a) (!r1) false)))&&(!u.b)) (zo n (⟨s.B.Op,s.B.N,s.B.S,s.B.ax⟩:Expr)) (some default)) λr2=>cond (cond (cond (cond (cond (cond (cond (!u.name) (!(decide (s.Name=([]:au')))) false) true (cond (!u.a) (!r1) false)) true (cond (!u.b) (!r2) false)) true (cond (!u.max) (!decide (s.Max=0)) false)) true (cond (!u.body) (decide (0<((s.Body.length:Nat):Int))) false)) true (cond (!u.other) (decide (0<((s.bM.length:Nat):Int))) false)) (some false) (cond (decide (s.Op=6)) (some (cond (decide (1≤s.Max)) (decide (s.Max≤16)) false)) (cond (decide (s.Op=8)) (some (cond (decide (0≤s.Max)) (decide (s.Max≤999)) false)) (some true)))
def O3(n:Nat):Option (ls×Bool):=some ((⟨false,false,false,false,false,false⟩:ls),false)
def H4(op:Int)(v2:Bool):Option (ls×Bool):=cond v2 (some ((⟨false,true,false,false,false,false⟩:ls),true)) (cond (decide (op=5)) (some ((⟨false,true,false,false,true,true⟩:ls),true)) (cond (decide (op=6)) (some ((⟨true,true,true,true,true,false⟩:ls),true)) (cond (decide (op=8)) (some ((⟨false,false,false,true,false,false⟩:ls),true)) (O3 n))))
def H5(op:Int)(v1:Bool):Option (ls×Bool):=cond v1 (some ((⟨true,true,false,false,false,false⟩:ls),true)) (cond (decide (op=3)) (some ((⟨false,true,true,false,false,false⟩:ls),true)) (cond (decide (op=4)) (H4 n op (decide (op=4))) (H4 n op (decide (op=7)))))
def H6(op:Int):Option (ls×Bool):=cond (decide (op=1)) (H5 n op (decide (op=1))) (H5 n op (decide (op=2)))
def H7(n:Nat)(depth:Int):avd:=cond (decide (12<depth)) (some 2) (some 0)
def H8(depth:Int)(s:Stmt)(r1:ls×Bool):avd:=cond r1.1.b ((CT n (⟨s.B.Op,s.B.N,s.B.S,s.B.ax⟩:Expr)).bind λbO=>cond (!decide (bO=0)) (some bO) (H7 n depth)) (H7 n depth)
def H9(s:Stmt)(depth:Int):avd:=(H6 n s.Op).bind λr1=>Option.bind (cond (!(!r1.2)) (H3 n (⟨s.Op,s.Name,s.Max,⟨s.A.Op,s.A.N,s.A.S,s.A.ax⟩,⟨s.B.Op,s.B.N,s.B.S,s.B.ax⟩,s.Body,s.bM⟩:Stmt) r1.1) (some default)) λr2=>cond (cond (!r1.2) true (!r2)) (some 1) (Option.bind (cond r1.1.name (sK n s.Name) (some default)) λaR=>cond (cond r1.1.name (!aR) false) (some 7) (cond r1.1.a ((CT n (⟨s.A.Op,s.A.N,s.A.S,s.A.ax⟩:Expr)).bind λaT=>cond (!decide (aT=0)) (some aT) (H8 n depth s r1)) (H8 n depth s r1)))
def H_(s:Stmt)(depth:Int)(ae:Int):avd:=cond (decide (ae=0)) ((H9 n (⟨s.Op,s.Name,s.Max,⟨s.A.Op,s.A.N,s.A.S,s.A.ax⟩,⟨s.B.Op,s.B.N,s.B.S,s.B.ax⟩,s.Body,s.bM⟩:Stmt) depth).bind λr2=>some r2) (some ae)
def O4(n:Nat)(a0:Expr):Option Unit:=some ()
def O5(n:Nat)(qr:Expr→Int→Int→avd)(e:Expr)(fM:Int)(dc:Int→Int→avd)(v6:Int)(bp:Int):avd:=cond (decide (bp<((e.ax.length:Nat):Int))) (av (aI bp e.ax.length)<|(qr (avb e.ax bp) v6 fM).bind λcd=>dc cd (ava (bp+1))) (some v6)
def CU(n:Nat)(qr:Expr→Int→Int→avd)(e:Expr)(fM:Int):Nat→Int→Int→avd
 | 0=>λ_ _=>none
 |m+1=>O5 n qr e fM (CU n qr e fM m)
def O6(qr:Expr→Int→Int→avd)(e:Expr)(jR:Int)(fM:Int):avd:=cond (decide (jR=0)) (some jR) (CU n qr e fM n (ava (jR-1)) 0)
def zp:Nat→Expr→Int→Int→avd
 | 0=>λ_ _ _=>none
 |m+1=>O6 m (zp m)
def CV(e:Expr)(jR:Int)(fM:Int):avd:=Option.bind (cond (!(decide (jR=0))) (zo n e) (some default)) λr1=>cond (cond (decide (jR=0)) true r1) (some jR) ((O4 n e).bind λr3=>(zp n e jR fM).bind λaR=>some aR)
def O7(pE:(List Stmt)→Int→Int→Int→Option (Int×Int))(depth:Int)(l:List Stmt)(dc:Int→Int→Int→Option (Int×Int))(v10:Int)(v11:Int)(v12:Int):Option (Int×Int):=cond (decide (v12<((l.length:Nat):Int))) (av (aI v12 l.length)<|cond (decide (v10=0)) (some (v10,v11)) ((H_ n (⟨(avb l v12).Op,(avb l v12).Name,(avb l v12).Max,⟨((avb l v12).A).Op,((avb l v12).A).N,((avb l v12).A).S,((avb l v12).A).ax⟩,⟨((avb l v12).B).Op,((avb l v12).B).N,((avb l v12).B).S,((avb l v12).B).ax⟩,(avb l v12).Body,(avb l v12).bM⟩:Stmt) depth v11).bind λep=>(CV n (⟨((avb l v12).A).Op,((avb l v12).A).N,((avb l v12).A).S,((avb l v12).A).ax⟩:Expr) (ava (v10-1)) ep).bind λdx=>(CV n (⟨((avb l v12).B).Op,((avb l v12).B).N,((avb l v12).B).S,((avb l v12).B).ax⟩:Expr) dx ep).bind λb8=>(pE ((avb l v12).Body) (ava (depth+1)) b8 ep).bind λdf=>(pE ((avb l v12).bM) (ava (depth+1)) df.1 df.2).bind λe9=>dc e9.1 e9.2 (ava (v12+1)))) (some (v10,v11))
def CW(n:Nat)(pE:(List Stmt)→Int→Int→Int→Option (Int×Int))(depth:Int)(l:List Stmt):Nat→Int→Int→Int→Option (Int×Int)
 | 0=>λ_ _ _=>none
 |m+1=>O7 n pE depth l (CW n pE depth l m)
def O8(pE:(List Stmt)→Int→Int→Int→Option (Int×Int))(l:List Stmt)(depth:Int)(jR:Int)(fM:Int):Option (Int×Int):=CW n pE depth l n jR fM 0
def wN:Nat→(List Stmt)→Int→Int→Int→Option (Int×Int)
 | 0=>λ_ _ _ _=>none
 |m+1=>O8 m (wN m)
def O9(p:bb)(ae:Int):Option (Int×Int):=(wN n p.Body 1 401 ae).bind λr1=>some ((ava (401-r1.1)),r1.2)
def CX(p:bb):avd:=(sK n p.Name).bind λr1=>cond (!r1) (some 7) ((HZ n p.Params).bind λr3=>cond (!decide (r3=0)) (some r3) ((O9 n p r3).bind λbV=>cond (cond (decide (bV.2=0)) (decide (400<bV.1)) false) (some 2) (some bV.2)))
def Ia(n:Nat)(ty:Int):Option au':=cond (decide (ty=1)) (some ([105,110,116]:au')) (cond (decide (ty=2)) (some ([115,116,114]:au')) (some ([98,111,111,108]:au')))
def ry(n:Nat)(op:Int):Option (Unit ⊕ Unit ⊕ Unit ⊕ Unit ⊕ Unit ⊕ Unit ⊕ Unit ⊕ Unit):=cond (decide (op=1)) (some (.inl ())) (cond (decide (op=2)) (some (.inr (.inl ()))) (cond (decide (op=3)) (some (.inr (.inr (.inl ())))) (cond (decide (op=4)) (some (.inr (.inr (.inr (.inl ()))))) (cond (decide (op=5)) (some (.inr (.inr (.inr (.inr (.inl ())))))) (cond (decide (op=6)) (some (.inr (.inr (.inr (.inr (.inr (.inl ()))))))) (cond (decide (op=7)) (some (.inr (.inr (.inr (.inr (.inr (.inr (.inl ())))))))) (some (.inr (.inr (.inr (.inr (.inr (.inr (.inr ()))))))))))))))
def wO(dK:Int):Option au':=(HD n dK 10).bind λr1=>some r1
def zq(n:Nat)(ca:List Int)(ci:Int):Option Unit:=some ()
def Ib(c:Int)(ca:List Int)(ci:Int):Option (List Int):=(zq n ca ci).bind λr1=>av (room (ca.length+([c]:List Int).length) 1)<|some (ca++([c]:List Int))
def CY(s:au')(ca:List Int)(ci:Int):Option (Int×(List Int)):=(zq n ca ci).bind λr1=>av (room (ca.length+s.length) 1)<|some (((s.length:Nat):Int),(ca++s.map λb=>(b.toNat:Int)))
def O'(ci:Int)(v20:List Int):Option (List Int):=(Ib n 10 v20 ci).bind λeT=>some eT
def O_(parts:List au')(ci:Int)(fp:(List Int)→Int→Option (List Int))(bL:List Int)(br:Int):Option (List Int):=cond (decide (br<((parts.length:Nat):Int))) (av (aI br parts.length)<|(CY n (avb parts br) bL ci).bind λdf=>fp df.2 (ava (br+1))) (O' n ci bL)
def CZ(n:Nat)(parts:List au')(ci:Int):Nat→(List Int)→Int→Option (List Int)
 | 0=>λ_ _=>none
 |m+1=>O_ n parts ci (CZ n parts ci m)
def Pa(parts:List au')(ci:Int)(v9:List Int):Option (List Int):=CZ n parts ci n v9 0
def Pb(parts:List au')(ci:Int)(eQ:(List Int)→Int→Option (List Int))(v4:List Int)(v5:Int):Option (List Int):=cond (decide (v5<ci)) ((CY n ([32,32,32,32]:au') v4 ci).bind λaT=>eQ aT.2 (ava (v5+1))) (Pa n parts ci v4)
def C0(n:Nat)(parts:List au')(ci:Int):Nat→(List Int)→Int→Option (List Int)
 | 0=>λ_ _=>none
 |m+1=>Pb n parts ci (C0 n parts ci m)
def mD(parts:List au')(ca:List Int)(ci:Int):Option (List Int):=C0 n parts ci n ca 0
def Pc(s:Stmt)(ca:List Int)(ci:Int):Option (List Int):=(wO n s.Max).bind λr1=>(mD n ([([97,98,111,114,116,32]:au'),r1,([59]:au')]:List au') ca ci).bind λr2=>some r2
def Pd(n:Nat):avc:=some true
def Pe(s:au')(aj:Int→avc)(v4:Int):avc:=cond (decide (v4<((s.length:Nat):Int))) (av (aI v4 s.length)<|av ((decide ((((s.getD (v4).toNat 0).toNat:Nat):Int)<32))||aI v4 s.length)<|cond (cond (decide ((((s.getD (v4).toNat 0).toNat:Nat):Int)<32)) true (decide (126<(((s.getD (v4).toNat 0).toNat:Nat):Int)))) (some false) (aj (ava (v4+1)))) (Pd n)
def C1(n:Nat)(s:au'):Nat→Int→avc
 | 0=>λ_=>none
 |m+1=>Pe n s (C1 n s m)
def Pf(s:au'):avc:=C1 n s n 0
def rz(n:Nat)(ca:List Int):Option (au'×(List Int)):=av (nC ca&&decide (ca.length≤9223372036854775807))<|some (kg ca,ca)
def zr(n:Nat)(ca:List Int):Option Unit:=some ()
def rA(c:Int)(ca:List Int):Option (List Int):=(zr n ca).bind λr1=>av (room (ca.length+([c]:List Int).length) 1)<|some (ca++([c]:List Int))
def Pg(v25:List Int):Option (au'×Int):=(rA n 34 v25).bind λr26=>(rz n r26).bind λr27=>some (r27.1,0)
def Ph(n:Nat)(aj:(List Int)→Int→Option (au'×Int))(s:au')(br:Int)(v22:List Int):Option (au'×Int):=aj v22 (ava (br+1))
def Ic(aj:(List Int)→Int→Option (au'×Int))(s:au')(br:Int)(bZ:List Int):Option (au'×Int):=av (aI br s.length)<|(rA n (((s.getD (br).toNat 0).toNat:Nat):Int) bZ).bind λeT=>Ph n aj s br eT
def Pi(s:au')(aj:(List Int)→Int→Option (au'×Int))(bL:List Int)(br:Int):Option (au'×Int):=cond (decide (br<((s.length:Nat):Int))) (av (aI br s.length)<|av ((decide ((((s.getD (br).toNat 0).toNat:Nat):Int)=34))||aI br s.length)<|cond (cond (decide ((((s.getD (br).toNat 0).toNat:Nat):Int)=34)) true (decide ((((s.getD (br).toNat 0).toNat:Nat):Int)=92))) ((rA n 92 bL).bind λe9=>Ic n aj s br e9) (Ic n aj s br bL)) (Pg n bL)
def C2(n:Nat)(s:au'):Nat→(List Int)→Int→Option (au'×Int)
 | 0=>λ_ _=>none
 |m+1=>Pi n s (C2 n s m)
def Ie(s:au'):Option (au'×Int):=cond (decide (64<((s.length:Nat):Int))) (some (([]:au'),2)) ((Pf n s).bind λr2=>cond (!r2) (some (([]:au'),1)) ((rA n 34 ([]:List Int)).bind λaR=>C2 n s n aR 0))
def Pj(n:Nat):avd:=some 9
def C3(op:Int)(v3:Bool):avd:=cond v3 (some 7) (cond (decide (op=9)) (some 8) (Pj n))
def If(op:Int)(v2:Bool):avd:=cond v2 (some 6) (cond (decide (op=6)) (C3 n op (decide (op=6))) (cond (decide (op=7)) (C3 n op (decide (op=7))) (C3 n op (decide (op=8)))))
def uB(op:Int)(v1:Bool):avd:=cond v1 (some 4) (cond (decide (op=19)) (some 5) (cond (decide (op=4)) (If n op (decide (op=4))) (If n op (decide (op=5)))))
def C4(op:Int):avd:=cond (decide (op=17)) (some 1) (cond (decide (op=16)) (some 2) (cond (decide (op=18)) (some 3) (cond (decide (op=10)) (uB n op (decide (op=10))) (cond (decide (op=11)) (uB n op (decide (op=11))) (cond (decide (op=12)) (uB n op (decide (op=12))) (cond (decide (op=13)) (uB n op (decide (op=13))) (cond (decide (op=14)) (uB n op (decide (op=14))) (uB n op (decide (op=15))))))))))
def Ig(n:Nat)(op:Int):Option au':=cond (decide (op=17)) (some ([111,114]:au')) (cond (decide (op=16)) (some ([97,110,100]:au')) (cond (decide (op=10)) (some ([61,61]:au')) (cond (decide (op=11)) (some ([33,61]:au')) (cond (decide (op=12)) (some ([60]:au')) (cond (decide (op=13)) (some ([60,61]:au')) (cond (decide (op=14)) (some ([62]:au')) (cond (decide (op=15)) (some ([62,61]:au')) (cond (decide (op=19)) (some ([43,43]:au')) (cond (decide (op=4)) (some ([43]:au')) (cond (decide (op=5)) (some ([45]:au')) (cond (decide (op=6)) (some ([42]:au')) (cond (decide (op=7)) (some ([47]:au')) (some ([37]:au'))))))))))))))
def Ih(n:Nat)(op:Int):Option au':=cond (decide (op=20)) (some ([116,101,120,116]:au')) (cond (decide (op=21)) (some ([108,101,110]:au')) (cond (decide (op=22)) (some ([103,101,116,105,110,116]:au')) (cond (decide (op=23)) (some ([103,101,116,115,116,114]:au')) (cond (decide (op=24)) (some ([104,97,115]:au')) (cond (decide (op=25)) (some ([110,111,119]:au')) (cond (decide (op=26)) (some ([114,97,110,100,111,109]:au')) (cond (decide (op=27)) (some ([110,111,100,101]:au')) (some ([]:au')))))))))
def Ii(rB:Expr→Option au')(oK:Expr→Int→Option au')(e:Expr):Option au':=(C4 n e.Op).bind λr1=>cond (decide (e.Op=1)) ((wO n e.N).bind λr3=>some r3) (cond (decide (e.Op=2)) ((Ie n e.S).bind λbV=>some bV.1) (cond (decide (e.Op=3)) (some e.S) (cond (decide (e.Op=18)) (av (aI 0 e.ax.length)<|(oK (e.ax.getD 0 default) r1).bind λcd=>av (b5 (([110,111,116,32]:au').length+cd.length))<|some (([110,111,116,32]:au')++cd)) (cond (decide (e.Op=9)) (av (aI 0 e.ax.length)<|(oK (e.ax.getD 0 default) r1).bind λde=>av (b5 (([45]:au').length+de.length))<|some (([45]:au')++de)) (cond (cond (decide (r1=9)) (decide (((e.ax.length:Nat):Int)=0)) false) ((Ih n e.Op).bind λb8=>av (b5 (b8.length+([40,41]:au').length))<|some (b8++([40,41]:au'))) (cond (decide (r1=9)) ((Ih n e.Op).bind λeW=>av (b5 (eW.length+([40]:au').length))<|av (aI 0 e.ax.length)<|(rB (e.ax.getD 0 default)).bind λdp=>av (b5 ((eW++([40]:au')).length+dp.length))<|av (b5 (((eW++([40]:au'))++dp).length+([41]:au').length))<|some (((eW++([40]:au'))++dp)++([41]:au'))) (cond (decide (r1=4)) (av (aI 0 e.ax.length)<|(oK (e.ax.getD 0 default) 5).bind λr27=>av (b5 (r27.length+([32]:au').length))<|(Ig n e.Op).bind λfF=>av (b5 ((r27++([32]:au')).length+fF.length))<|av (b5 (((r27++([32]:au'))++fF).length+([32]:au').length))<|av (aI 1 e.ax.length)<|(oK (e.ax.getD 1 default) 5).bind λnI=>av (b5 ((((r27++([32]:au'))++fF)++([32]:au')).length+nI.length))<|some ((((r27++([32]:au'))++fF)++([32]:au'))++nI)) (av (aI 0 e.ax.length)<|(oK (e.ax.getD 0 default) r1).bind λoL=>av (b5 (oL.length+([32]:au').length))<|(Ig n e.Op).bind λqs=>av (b5 ((oL++([32]:au')).length+qs.length))<|av (b5 (((oL++([32]:au'))++qs).length+([32]:au').length))<|av (aI 1 e.ax.length)<|(oK (e.ax.getD 1 default) (ava (r1+1))).bind λhU=>av (b5 ((((oL++([32]:au'))++qs)++([32]:au')).length+hU.length))<|some ((((oL++([32]:au'))++qs)++([32]:au'))++hU)))))))))
def Ij(rB:Expr→Option au')(oK:Expr→Int→Option au')(e:Expr)(least:Int):Option au':=(C4 n e.Op).bind λr1=>cond (decide (r1<least)) ((rB e).bind λr3=>av (b5 (([40]:au').length+r3.length))<|av (b5 ((([40]:au')++r3).length+([41]:au').length))<|some ((([40]:au')++r3)++([41]:au'))) ((rB e).bind λaT=>some aT)
def zt:Nat→(Expr→Option au')×(Expr→Int→Option au')
 | 0=>(λ_=>none,λ_ _=>none)
 |m+1=>(Ii m ((zt m).1) ((zt m).2),Ij m ((zt m).1) ((zt m).2))
def mg:Expr→Option au':=(zt n).1
def wP:Expr→Int→Option au':=(zt n).2
def Pk(s:Stmt)(ca:List Int)(ci:Int):Option (List Int):=(mg n (⟨s.A.Op,s.A.N,s.A.S,s.A.ax⟩:Expr)).bind λr1=>(mD n ([s.Name,([32,61,32]:au'),r1,([59]:au')]:List au') ca ci).bind λr2=>some r2
def Pl(s:Stmt)(ca:List Int)(ci:Int):Option (List Int):=(mg n (⟨s.A.Op,s.A.N,s.A.S,s.A.ax⟩:Expr)).bind λr1=>(mD n ([([108,101,116,32]:au'),s.Name,([32,61,32]:au'),r1,([59]:au')]:List au') ca ci).bind λr2=>some r2
def Pm(s:Stmt)(ca:List Int)(ci:Int):Option (List Int):=(mg n (⟨s.A.Op,s.A.N,s.A.S,s.A.ax⟩:Expr)).bind λr1=>(mD n ([([101,109,105,116,32]:au'),r1,([59]:au')]:List au') ca ci).bind λr2=>some r2
def Pn(s:Stmt)(ca:List Int)(ci:Int):Option (List Int):=(mg n (⟨s.A.Op,s.A.N,s.A.S,s.A.ax⟩:Expr)).bind λr1=>(mg n (⟨s.B.Op,s.B.N,s.B.S,s.B.ax⟩:Expr)).bind λr2=>(mD n ([([112,117,116,32]:au'),r1,([32,61,32]:au'),r2,([59]:au')]:List au') ca ci).bind λr3=>some r3
def Po(s:Stmt)(ca:List Int)(ci:Int):Option (List Int):=(mg n (⟨s.A.Op,s.A.N,s.A.S,s.A.ax⟩:Expr)).bind λr1=>(mD n ([([100,101,108,101,116,101,32]:au'),r1,([59]:au')]:List au') ca ci).bind λr2=>some r2
def Pp(n:Nat)(iq:(List Stmt)→(List Int)→Int→Option ((List Int)×Int))(iP:Stmt→(List Int)→Int→Option ((List Int)×Int))(iQ:Stmt→(List Int)→Int→Option ((List Int)×Int))(na:List Int)(sM:Int):Option ((List Int)×Int):=some (na,(ava (sM-1)))
def Pq(iq:(List Stmt)→(List Int)→Int→Option ((List Int)×Int))(iP:Stmt→(List Int)→Int→Option ((List Int)×Int))(iQ:Stmt→(List Int)→Int→Option ((List Int)×Int))(l:List Stmt)(aj:(List Int)→Int→Int→Option ((List Int)×Int))(br:List Int)(cW:Int)(aV:Int):Option ((List Int)×Int):=cond (decide (aV<((l.length:Nat):Int))) (av (aI aV l.length)<|(ry n ((avb l aV).Op)).bind λeW=>iA.on eW (λajh=>(Pl n (⟨(avb l aV).Op,(avb l aV).Name,(avb l aV).Max,⟨((avb l aV).A).Op,((avb l aV).A).N,((avb l aV).A).S,((avb l aV).A).ax⟩,⟨((avb l aV).B).Op,((avb l aV).B).N,((avb l aV).B).S,((avb l aV).B).ax⟩,(avb l aV).Body,(avb l aV).bM⟩:Stmt) br cW).bind λeT=>aj eT cW (ava (aV+1))) (λX9=>iA.on X9 (λaji=>(Pk n (⟨(avb l aV).Op,(avb l aV).Name,(avb l aV).Max,⟨((avb l aV).A).Op,((avb l aV).A).N,((avb l aV).A).S,((avb l aV).A).ax⟩,⟨((avb l aV).B).Op,((avb l aV).B).N,((avb l aV).B).S,((avb l aV).B).ax⟩,(avb l aV).Body,(avb l aV).bM⟩:Stmt) br cW).bind λdp=>aj dp cW (ava (aV+1))) (λX'=>iA.on X' (λajj=>(Pn n (⟨(avb l aV).Op,(avb l aV).Name,(avb l aV).Max,⟨((avb l aV).A).Op,((avb l aV).A).N,((avb l aV).A).S,((avb l aV).A).ax⟩,⟨((avb l aV).B).Op,((avb l aV).B).N,((avb l aV).B).S,((avb l aV).B).ax⟩,(avb l aV).Body,(avb l aV).bM⟩:Stmt) br cW).bind λeo=>aj eo cW (ava (aV+1))) (λX_=>iA.on X_ (λajk=>(Po n (⟨(avb l aV).Op,(avb l aV).Name,(avb l aV).Max,⟨((avb l aV).A).Op,((avb l aV).A).N,((avb l aV).A).S,((avb l aV).A).ax⟩,⟨((avb l aV).B).Op,((avb l aV).B).N,((avb l aV).B).S,((avb l aV).B).ax⟩,(avb l aV).Body,(avb l aV).bM⟩:Stmt) br cW).bind λr24=>aj r24 cW (ava (aV+1))) (λYa=>iA.on Ya (λajl=>(iP (⟨(avb l aV).Op,(avb l aV).Name,(avb l aV).Max,⟨((avb l aV).A).Op,((avb l aV).A).N,((avb l aV).A).S,((avb l aV).A).ax⟩,⟨((avb l aV).B).Op,((avb l aV).B).N,((avb l aV).B).S,((avb l aV).B).ax⟩,(avb l aV).Body,(avb l aV).bM⟩:Stmt) br cW).bind λfi=>aj fi.1 fi.2 (ava (aV+1))) (λYb=>iA.on Yb (λajm=>(iQ (⟨(avb l aV).Op,(avb l aV).Name,(avb l aV).Max,⟨((avb l aV).A).Op,((avb l aV).A).N,((avb l aV).A).S,((avb l aV).A).ax⟩,⟨((avb l aV).B).Op,((avb l aV).B).N,((avb l aV).B).S,((avb l aV).B).ax⟩,(avb l aV).Body,(avb l aV).bM⟩:Stmt) br cW).bind λr26=>aj r26.1 r26.2 (ava (aV+1))) (λYc=>iA.on Yc (λajn=>(Pm n (⟨(avb l aV).Op,(avb l aV).Name,(avb l aV).Max,⟨((avb l aV).A).Op,((avb l aV).A).N,((avb l aV).A).S,((avb l aV).A).ax⟩,⟨((avb l aV).B).Op,((avb l aV).B).N,((avb l aV).B).S,((avb l aV).B).ax⟩,(avb l aV).Body,(avb l aV).bM⟩:Stmt) br cW).bind λr27=>aj r27 cW (ava (aV+1))) (λajo=>(Pc n (⟨(avb l aV).Op,(avb l aV).Name,(avb l aV).Max,⟨((avb l aV).A).Op,((avb l aV).A).N,((avb l aV).A).S,((avb l aV).A).ax⟩,⟨((avb l aV).B).Op,((avb l aV).B).N,((avb l aV).B).S,((avb l aV).B).ax⟩,(avb l aV).Body,(avb l aV).bM⟩:Stmt) br cW).bind λnJ=>aj nJ cW (ava (aV+1)))))))))) (Pp n iq iP iQ br cW)
def C5(n:Nat)(iq:(List Stmt)→(List Int)→Int→Option ((List Int)×Int))(iP:Stmt→(List Int)→Int→Option ((List Int)×Int))(iQ:Stmt→(List Int)→Int→Option ((List Int)×Int))(l:List Stmt):Nat→(List Int)→Int→Int→Option ((List Int)×Int)
 | 0=>λ_ _ _=>none
 |m+1=>Pq n iq iP iQ l (C5 n iq iP iQ l m)
def Ik(iq:(List Stmt)→(List Int)→Int→Option ((List Int)×Int))(iP:Stmt→(List Int)→Int→Option ((List Int)×Int))(iQ:Stmt→(List Int)→Int→Option ((List Int)×Int))(l:List Stmt)(ca:List Int)(ci:Int):Option ((List Int)×Int):=C5 n iq iP iQ l n ca (ava (ci+1)) 0
def Il(iq:(List Stmt)→(List Int)→Int→Option ((List Int)×Int))(iP:Stmt→(List Int)→Int→Option ((List Int)×Int))(iQ:Stmt→(List Int)→Int→Option ((List Int)×Int))(v6:List Int)(bp:Int):Option ((List Int)×Int):=(mD n ([([125]:au')]:List au') v6 bp).bind λbH=>some (bH,bp)
def Im(iq:(List Stmt)→(List Int)→Int→Option ((List Int)×Int))(iP:Stmt→(List Int)→Int→Option ((List Int)×Int))(iQ:Stmt→(List Int)→Int→Option ((List Int)×Int))(s:Stmt)(ca:List Int)(ci:Int):Option ((List Int)×Int):=(mg n (⟨s.A.Op,s.A.N,s.A.S,s.A.ax⟩:Expr)).bind λr1=>(mD n ([([105,102,32]:au'),r1,([32,123]:au')]:List au') ca ci).bind λr2=>(iq s.Body r2 ci).bind λr3=>cond (decide (0<((s.bM.length:Nat):Int))) ((mD n ([([125,32,101,108,115,101,32,123]:au')]:List au') r3.1 r3.2).bind λaR=>(iq s.bM aR r3.2).bind λbV=>Il n iq iP iQ bV.1 bV.2) (Il n iq iP iQ r3.1 r3.2)
def In(iq:(List Stmt)→(List Int)→Int→Option ((List Int)×Int))(iP:Stmt→(List Int)→Int→Option ((List Int)×Int))(iQ:Stmt→(List Int)→Int→Option ((List Int)×Int))(s:Stmt)(ca:List Int)(ci:Int):Option ((List Int)×Int):=(mg n (⟨s.A.Op,s.A.N,s.A.S,s.A.ax⟩:Expr)).bind λr1=>(mg n (⟨s.B.Op,s.B.N,s.B.S,s.B.ax⟩:Expr)).bind λr2=>(wO n s.Max).bind λr3=>(mD n ([([102,111,114,32]:au'),s.Name,([32,61,32]:au'),r1,([32,116,111,32]:au'),r2,([32,109,97,120,32]:au'),r3,([32,123]:au')]:List au') ca ci).bind λaR=>(iq s.Body aR ci).bind λbV=>(mD n ([([125]:au')]:List au') bV.1 bV.2).bind λaT=>some (aT,bV.2)
def pF:Nat→((List Stmt)→(List Int)→Int→Option ((List Int)×Int))×(Stmt→(List Int)→Int→Option ((List Int)×Int))×(Stmt→(List Int)→Int→Option ((List Int)×Int))
 | 0=>(λ_ _ _=>none,λ_ _ _=>none,λ_ _ _=>none)
 |m+1=>(Ik m ((pF m).1) ((pF m).2.1) ((pF m).2.2),Im m ((pF m).1) ((pF m).2.1) ((pF m).2.2),In m ((pF m).1) ((pF m).2.1) ((pF m).2.2))
def rC:(List Stmt)→(List Int)→Int→Option ((List Int)×Int):=(pF n).1
def wQ:Stmt→(List Int)→Int→Option ((List Int)×Int):=(pF n).2.1
def wR:Stmt→(List Int)→Int→Option ((List Int)×Int):=(pF n).2.2
def Io(n:Nat)(ca:List Int)(ci:Int):Option (au'×(List Int)):=av (nC ca&&decide (ca.length≤9223372036854775807))<|some (kg ca,ca)
def Pr(p:bb)(bZ:List au'):Option au':=(HE n bZ ([44,32]:au')).bind λdW=>(mD n ([([112,114,111,99,32]:au'),p.Name,([40]:au'),dW,([41,32,123]:au')]:List au') ([]:List Int) 0).bind λeT=>(rC n p.Body eT 0).bind λdp=>(mD n ([([125]:au')]:List au') dp.1 dp.2).bind λeo=>(Io n eo dp.2).bind λr24=>some r24.1
def Ps(p:bb)(aj:Int→(List au')→Option au')(v10:Int)(v11:List au'):Option au':=cond (decide (v10<((p.Params.length:Nat):Int))) (av (aI v10 p.Params.length)<|av (b5 (((avb p.Params v10).Name).length+([58,32]:au').length))<|(Ia n ((avb p.Params v10).fS)).bind λep=>av (b5 ((((avb p.Params v10).Name)++([58,32]:au')).length+ep.length))<|av (room (v11.length+([((((avb p.Params v10).Name)++([58,32]:au'))++ep)]:List au').length) 16)<|aj (ava (v10+1)) (v11++([((((avb p.Params v10).Name)++([58,32]:au'))++ep)]:List au'))) (Pr n p v11)
def C6(n:Nat)(p:bb):Nat→Int→(List au')→Option au'
 | 0=>λ_ _=>none
 |m+1=>Ps n p (C6 n p m)
def uC(p:bb):Option au':=(CX n p).bind λr1=>cond (!decide (r1=0)) (some ([]:au')) (C6 n p n 0 ([]:List au'))
def C7(n:Nat)(next:Int):avd:=some (cond (decide ((ava (next-1))<8)) (ava (next-1)) 8)
def Pt(n:Nat):avc:=some false
def Pu(n:Nat):avc:=some true
def Ip(o:Outcome)(fp:Int→avc)(v4:Int):avc:=cond (decide (v4<((o.Out.length:Nat):Int))) (av (aI v4 o.Out.length)<|(sL n (avb o.Out v4)).bind λaT=>cond (cond (!aT) true (decide ((avb o.Out v4).Kind=0))) (some false) (fp (ava (v4+1)))) (Pu n)
def wS(n:Nat)(o:Outcome):Nat→Int→avc
 | 0=>λ_=>none
 |m+1=>Ip n o (wS n o m)
def C8(o:Outcome):avc:=cond (decide (o.Status=1)) (cond (cond (!decide (o.Code=0)) true (decide (16<((o.Out.length:Nat):Int)))) (some false) (wS n o n 0)) (cond (decide (o.Status=2)) (some (cond (cond (decide (0≤o.Code)) (decide (o.Code≤1009)) false) (decide (((o.Out.length:Nat):Int)=0)) false)) (Pt n))
def Pv(n:Nat):avc:=some true
def Iq(s:b_)(aj:Int→avc)(v6:Int):avc:=cond (decide (v6<((s.cZ.length:Nat):Int))) (av (aI v6 s.cZ.length)<|Option.bind (cond (!(!((decide ((avb s.cZ v6).Client=s.Client))&&((decide ((avb s.cZ v6).Seq=(ava ((ava (s.Next-((s.cZ.length:Nat):Int)))+v6))))&&true)))) (C8 n (⟨((avb s.cZ v6).Outcome).Status,((avb s.cZ v6).Outcome).Code,((avb s.cZ v6).Outcome).Out⟩:Outcome)) (some default)) λbH=>cond (cond (!((decide ((avb s.cZ v6).Client=s.Client))&&((decide ((avb s.cZ v6).Seq=(ava ((ava (s.Next-((s.cZ.length:Nat):Int)))+v6))))&&true))) true (!bH)) (some false) (aj (ava (v6+1)))) (Pv n)
def zu(n:Nat)(s:b_):Nat→Int→avc
 | 0=>λ_=>none
 |m+1=>Iq n s (zu n s m)
def Ir(s:b_):avc:=Option.bind (cond (!(cond (cond (cond (decide (s.Client<1)) true (decide (32<s.Client))) true (decide (s.Next<1))) true (decide (1099511627776<s.Next)))) (C7 n s.Next) (some default)) λr1=>cond (cond (cond (cond (cond (decide (s.Client<1)) true (decide (32<s.Client))) true (decide (s.Next<1))) true (decide (1099511627776<s.Next))) true (!decide (((s.cZ.length:Nat):Int)=r1))) (some false) (zu n s n 0)
def Pw(n:Nat):avc:=some true
def Is(l:List b_)(aj:Int→avc)(v5:Int):avc:=cond (decide (v5<((l.length:Nat):Int))) (av (aI v5 l.length)<|(Ir n (avb l v5)).bind λbO=>av ((!bO)||(!(decide (0<v5))||aI (ava (v5-1)) l.length))<|cond (cond (!bO) true (cond (decide (0<v5)) (decide ((avb l v5).Client≤(avb l (ava (v5-1))).Client)) false)) (some false) (aj (ava (v5+1)))) (Pw n)
def zv(n:Nat)(l:List b_):Nat→Int→avc
 | 0=>λ_=>none
 |m+1=>Is n l (zv n l m)
def uD(l:List b_):avc:=zv n l n 0
def jS(s:au')(ca:List Int):Option (Int×(List Int)):=(zr n ca).bind λr1=>av (room (ca.length+s.length) 1)<|some (((s.length:Nat):Int),(ca++s.map λb=>(b.toNat:Int)))
def Px(It:List Int):Option au':=(rz n It).bind λYd=>some Yd.1
def Py(n:Nat)(aj:(List Int)→Int→Option au')(l:List b_)(fs:Int)(Iu:List Int):Option au':=aj Iu (ava (fs+1))
def Pz(n:Nat)(eQ:(List Int)→Int→Option au')(aj:(List Int)→Int→Option au')(l:List b_)(fs:Int)(iR:Int)(v109:List Int):Option au':=eQ v109 (ava (iR+1))
def Iv(eQ:(List Int)→Int→Option au')(aj:(List Int)→Int→Option au')(l:List b_)(fs:Int)(iR:Int)(C9:(List Int)→Int→Option au')(C':List Int)(wT:Int):Option au':=cond (decide (wT<(((((((avb l fs).cZ).getD (iR).toNat default).Outcome).Out).length:Nat):Int))) (av (aI wT (((((avb l fs).cZ).getD (iR).toNat default).Outcome).Out).length)<|(wK n ((((((avb l fs).cZ).getD (iR).toNat default).Outcome).Out).getD (wT).toNat default)).bind λuE=>(jS n uE C').bind λYe=>C9 Ye.2 (ava (wT+1))) (Pz n eQ aj l fs iR C')
def wU(n:Nat)(eQ:(List Int)→Int→Option au')(aj:(List Int)→Int→Option au')(l:List b_)(fs:Int)(iR:Int):Nat→(List Int)→Int→Option au'
 | 0=>λ_ _=>none
 |m+1=>Iv n eQ aj l fs iR (wU n eQ aj l fs iR m)
def Iw(aj:(List Int)→Int→Option au')(l:List b_)(fs:Int)(eQ:(List Int)→Int→Option au')(C_:List Int)(iR:Int):Option au':=cond (decide (iR<((((avb l fs).cZ).length:Nat):Int))) (av (aI iR ((avb l fs).cZ).length)<|(hL n (IntKind.u64.wrap (((((avb l fs).cZ).getD (iR).toNat default).Outcome).Status))).bind λzw=>(hL n (IntKind.u64.wrap (((((avb l fs).cZ).getD (iR).toNat default).Outcome).Code))).bind λwV=>av (b5 (zw.length+wV.length))<|(hL n (IntKind.u64.wrap (((((((avb l fs).cZ).getD (iR).toNat default).Outcome).Out).length:Nat):Int))).bind λPA=>av (b5 ((zw++wV).length+PA.length))<|(jS n ((zw++wV)++PA) C_).bind λIx=>wU n eQ aj l fs iR n Ix.2 0) (Py n aj l fs C_)
def wW(n:Nat)(aj:(List Int)→Int→Option au')(l:List b_)(fs:Int):Nat→(List Int)→Int→Option au'
 | 0=>λ_ _=>none
 |m+1=>Iw n aj l fs (wW n aj l fs m)
def Iy(l:List b_)(aj:(List Int)→Int→Option au')(v59:List Int)(fs:Int):Option au':=cond (decide (fs<((l.length:Nat):Int))) (av (aI fs l.length)<|(hL n (IntKind.u64.wrap ((avb l fs).Client))).bind λPB=>(hL n (IntKind.u64.wrap ((avb l fs).Next))).bind λwX=>av (b5 (PB.length+wX.length))<|(jS n (PB++wX) v59).bind λuF=>wW n aj l fs n uF.2 0) (Px n v59)
def zx(n:Nat)(l:List b_):Nat→(List Int)→Int→Option au'
 | 0=>λ_ _=>none
 |m+1=>Iy n l (zx n l m)
def Da(l:List b_):Option au':=(uD n l).bind λr1=>cond (!r1) (some ([]:au')) ((hL n (IntKind.u64.wrap ((l.length:Nat):Int))).bind λr3=>(jS n r3 ([]:List Int)).bind λaR=>zx n l n aR.2 0)
def PC(bZ:List Int):Option au':=(rz n bZ).bind λdW=>some dW.1
def Iz(l:List aU)(aj:(List Int)→Int→Option au')(v10:List Int)(v11:Int):Option au':=cond (decide (v11<((l.length:Nat):Int))) (av (aI v11 l.length)<|(oJ n ((avb l v11).Key)).bind λde=>(jS n de v10).bind λep=>(wK n (⟨((avb l v11).bj).Kind,((avb l v11).bj).N,((avb l v11).bj).S⟩:bz)).bind λdx=>(jS n dx ep.2).bind λb8=>aj b8.2 (ava (v11+1))) (PC n v10)
def zy(n:Nat)(l:List aU):Nat→(List Int)→Int→Option au'
 | 0=>λ_ _=>none
 |m+1=>Iz n l (zy n l m)
def IA(l:List aU):Option au':=(hL n (IntKind.u64.wrap ((l.length:Nat):Int))).bind λr1=>(jS n r1 ([]:List Int)).bind λr2=>zy n l n r2.2 0
def Db(ah:bN)(IB:List Int):Option au':=(ze n ah.Queue).bind λDc=>(jS n Dc IB).bind λoM=>(hL n ah.cz).bind λrD=>(jS n rD oM.2).bind λIC=>(rz n IC.2).bind λDd=>some Dd.1
def ID(ah:bN)(fp:(List Int)→Int→Option au')(De:List Int)(v37:Int):Option au':=cond (decide (v37<((ah.bg.length:Nat):Int))) (av (aI v37 ah.bg.length)<|(oJ n ((avb ah.bg v37).Key)).bind λuG=>(jS n uG De).bind λsN=>(qq n ((avb ah.bg v37).Count)).bind λlP=>(jS n lP sN.2).bind λhU=>fp hU.2 (ava (v37+1))) (Db n ah De)
def zz(n:Nat)(ah:bN):Nat→(List Int)→Int→Option au'
 | 0=>λ_ _=>none
 |m+1=>ID n ah (zz n ah m)
def zA(ah:bN)(v22:List Int):Option au':=(Da n ah.cp).bind λeo=>(jS n eo v22).bind λr24=>(CR n ah.Place).bind λfi=>(jS n fi r24.2).bind λr26=>(hL n (IntKind.u64.wrap ((ah.bg.length:Nat):Int))).bind λr27=>(jS n r27 r26.2).bind λnJ=>zz n ah n nJ.2 0
def IE(ah:bN)(eQ:(List Int)→Int→Option au')(bL:List Int)(br:Int):Option au':=cond (decide (br<((ah.cj.length:Nat):Int))) (av (aI br ah.cj.length)<|(uC n (avb ah.cj br)).bind λdf=>(oJ n df).bind λe9=>(jS n e9 bL).bind λeW=>eQ eW.2 (ava (br+1))) (zA n ah bL)
def zB(n:Nat)(ah:bN):Nat→(List Int)→Int→Option au'
 | 0=>λ_ _=>none
 |m+1=>IE n ah (zB n ah m)
def Df(ah:bN):Option au':=(uA n ah.aw ah.Pos).bind λr1=>(qq n ah.Pos).bind λr2=>(jS n r2 ([]:List Int)).bind λr3=>(IA n r1.1).bind λaR=>(jS n aR r3.2).bind λbV=>(hL n (IntKind.u64.wrap ((ah.cj.length:Nat):Int))).bind λaT=>(jS n aT bV.2).bind λbO=>zB n ah n bO.2 0
def zC(n:Nat)(most:Int):avd:=some most
def PD(n:Nat)(p:aU):avc:=some (decide (p.bj.Kind=0))
def PE(n:Nat):avd:=some (-1)
def IF(s:List aU)(aj:Int→avd)(v4:Int):avd:=cond (decide (v4<((s.length:Nat):Int))) (av (aI v4 s.length)<|(PD n (avb s v4)).bind λaT=>cond aT (some v4) (aj (ava (v4+1)))) (PE n)
def zD(n:Nat)(s:List aU):Nat→Int→avd
 | 0=>λ_=>none
 |m+1=>IF n s (zD n s m)
def PF(s:List aU):avd:=zD n s n 0
def PG(s:List aU):avc:=(PF n s).bind λr1=>some (decide (0≤r1))
def PH(n:Nat):avc:=some true
def IG(l:List aU)(aj:Int→avc)(v6:Int):avc:=cond (decide (v6<((l.length:Nat):Int))) (av (aI v6 l.length)<|(wJ n ((avb l v6).Key)).bind λbH=>Option.bind (cond (!(!bH)) (sL n (⟨((avb l v6).bj).Kind,((avb l v6).bj).N,((avb l v6).bj).S⟩:bz)) (some default)) λcd=>av ((cond (!bH) true (!cd))||(!(decide (0<v6))||aI (ava (v6-1)) l.length))<|cond (cond (cond (!bH) true (!cd)) true (cond (decide (0<v6)) (!(Op.bytesLess ((avb l (ava (v6-1))).Key) ((avb l v6).Key))) false)) (some false) (aj (ava (v6+1)))) (PH n)
def zE(n:Nat)(l:List aU):Nat→Int→avc
 | 0=>λ_=>none
 |m+1=>IG n l (zE n l m)
def IH(l:List aU):avc:=zE n l n 0
def Dg(l:List aU):avc:=(IH n l).bind λr1=>Option.bind (cond r1 (PG n l) (some default)) λr2=>some (cond r1 (!r2) false)
def PI(n:Nat)(dK:Int):Option bz:=some (⟨1,dK,[]⟩:bz)
def Dh(n:Nat)(s:au')(at_:Int):avc:=some (cond (decide (at_<0)) true (decide (((s.length:Nat):Int)<at_)))
def Yf(n:Nat):Option (Int×Int×Int):=some (0,0,5)
def PJ(s:au')(at_:Int)(aj:Int→Int→Option (Int×Int×Int))(bp:Int)(bm:Int):Option (Int×Int×Int):=cond (decide (bp<10)) (cond (decide (((s.length:Nat):Int)≤(ava (at_+bp)))) (some (0,0,6)) (av (aI (ava (at_+bp)) s.length)<|cond (cond (cond (decide (bp=9)) (decide (1<(((s.getD ((ava (at_+bp))).toNat 0).toNat:Nat):Int))) false) true (cond (decide ((((s.getD ((ava (at_+bp))).toNat 0).toNat:Nat):Int)=0)) (decide (0<bp)) false)) (some (0,0,5)) (av (ol (ava (7*bp)))<|cond (decide ((((s.getD ((ava (at_+bp))).toNat 0).toNat:Nat):Int)<128)) (some ((qV .u64 bm (pf .u64 (IntKind.u64.wrap (p0 .u8 (((s.getD ((ava (at_+bp))).toNat 0).toNat:Nat):Int) 127)) (ava (7*bp)))),(ava ((ava (at_+bp))+1)),0)) (aj (ava (bp+1)) (qV .u64 bm (pf .u64 (IntKind.u64.wrap (p0 .u8 (((s.getD ((ava (at_+bp))).toNat 0).toNat:Nat):Int) 127)) (ava (7*bp)))))))) (Yf n)
def Di(n:Nat)(s:au')(at_:Int):Nat→Int→Int→Option (Int×Int×Int)
 | 0=>λ_ _=>none
 |m+1=>PJ n s at_ (Di n s at_ m)
def sO(s:au')(at_:Int):Option (Int×Int×Int):=(Dh n s at_).bind λr1=>cond r1 (some (0,0,1)) (Di n s at_ n 0 0)
def zF(s:au')(at_:Int):Option (Int×Int×Int):=(sO n s at_).bind λr1=>cond (!decide (r1.2.2=0)) (some (0,0,r1.2.2)) (some ((mY .i64 (ava (ns .u64 r1.1 1)) (ava (0-(ava (p0 .u64 r1.1 1))))),r1.2.1,0))
def oN(s:au')(at_:Int)(most:Int):Option (Int×Int×Int):=(sO n s at_).bind λr1=>cond (!decide (r1.2.2=0)) (some (0,0,r1.2.2)) (cond (cond (decide (most<0)) true (decide ((IntKind.u64.wrap most)<r1.1))) (some (0,0,2)) (cond (decide ((IntKind.u64.wrap (ava (((s.length:Nat):Int)-r1.2.1)))<r1.1)) (some (0,0,6)) (some ((ava r1.1),r1.2.1,0))))
def sP(s:au')(at_:Int)(most:Int):Option (au'×Int×Int):=(oN n s at_ most).bind λr1=>cond (!decide (r1.2.2=0)) (some (([]:au'),0,r1.2.2)) (av (l4 r1.2.1 (ava (r1.2.1+r1.1)) s.length)<|some (((s.take ((ava (r1.2.1+r1.1))).toNat).drop (r1.2.1).toNat),(ava (r1.2.1+r1.1)),0))
def Dj(n:Nat)(cd:au'×Int×Int)(v11:Int):Option (bz×Int×Int):=cond (!decide (v11=0)) (some ((⟨0,0,[]⟩:bz),0,v11)) (some ((⟨2,0,cd.1⟩:bz),cd.2.1,0))
def zG(s:au')(at_:Int):Option (bz×Int×Int):=(sO n s at_).bind λr1=>cond (!decide (r1.2.2=0)) (some ((⟨0,0,[]⟩:bz),0,r1.2.2)) (cond (decide (r1.1=0)) (some ((⟨0,0,[]⟩:bz),r1.2.1,0)) (cond (decide (r1.1=1)) ((zF n s r1.2.1).bind λbV=>cond (!decide (bV.2.2=0)) (some ((⟨0,0,[]⟩:bz),0,bV.2.2)) ((PI n bV.1).bind λbO=>some (bO,bV.2.1,0))) (cond (decide (r1.1=2)) ((sP n s r1.2.1 64).bind λcd=>Option.bind (cond (decide (cd.2.2=0)) (CL n cd.1) (some default)) λdj=>cond (cond (decide (cd.2.2=0)) (!dj) false) (Dj n cd 5) (Dj n cd cd.2.2)) (some ((⟨0,0,[]⟩:bz),0,5)))))
def II(cl:Int)(bZ:List aU):Option ((List aU)×Int×Int):=(Dg n bZ).bind λdW=>cond (!dW) (some (([]:List aU),0,5)) (some (bZ,cl,0))
def IJ(s:au')(r1:Int×Int×Int)(aj:Int→Int→(List aU)→Option ((List aU)×Int×Int))(v9:Int)(v10:Int)(v11:List aU):Option ((List aU)×Int×Int):=cond (decide (v10<r1.1)) ((sP n s v9 24).bind λcq=>cond (!decide (cq.2.2=0)) (some (([]:List aU),0,cq.2.2)) ((zG n s cq.2.1).bind λde=>cond (!decide (de.2.2=0)) (some (([]:List aU),0,de.2.2)) (av (room (v11.length+([(⟨cq.1,de.1⟩:aU)]:List aU).length) 48)<|aj de.2.1 (ava (v10+1)) (v11++([(⟨cq.1,de.1⟩:aU)]:List aU))))) (II n v9 v11)
def wY(n:Nat)(s:au')(r1:Int×Int×Int):Nat→Int→Int→(List aU)→Option ((List aU)×Int×Int)
 | 0=>λ_ _ _=>none
 |m+1=>IJ n s r1 (wY n s r1 m)
def IK(s:au')(at_:Int):Option ((List aU)×Int×Int):=(oN n s at_ 2147483647).bind λr1=>cond (!decide (r1.2.2=0)) (some (([]:List aU),0,r1.2.2)) (wY n s r1 n r1.2.1 0 ([]:List aU))
def zH(ae:fw):Option ((List aU)×Int×Int):=cond (!decide (ae.e=0)) (some (([]:List aU),ae.at_,ae.e)) ((IK n ae.s ae.at_).bind λr2=>cond (!decide (r2.2.2=0)) (some (([]:List aU),ae.at_,r2.2.2)) (some (r2.1,r2.2.1,r2.2.2)))
def PK(n:Nat)(s:au'):avc:=some (decide (((s.length:Nat):Int)≤24))
def IL(s:au')(aj:Int→avc)(v4:Int):avc:=cond (decide (v4<((s.length:Nat):Int))) (av (aI v4 s.length)<|av ((decide ((((s.getD (v4).toNat 0).toNat:Nat):Int)<33))||aI v4 s.length)<|cond (cond (decide ((((s.getD (v4).toNat 0).toNat:Nat):Int)<33)) true (decide (126<(((s.getD (v4).toNat 0).toNat:Nat):Int)))) (some false) (aj (ava (v4+1)))) (PK n s)
def zI(n:Nat)(s:au'):Nat→Int→avc
 | 0=>λ_=>none
 |m+1=>IL n s (zI n s m)
def Dk(s:au'):avc:=zI n s n 0
def PL(n:Nat)(x:Part)(ae:Int):avc:=some (decide (x.Id=ae))
def PM(n:Nat)(ae:Int):avd:=some (-1)
def IM(s:List Part)(ae:Int)(aj:Int→avd)(v4:Int):avd:=cond (decide (v4<((s.length:Nat):Int))) (av (aI v4 s.length)<|(PL n (avb s v4) ae).bind λaT=>cond aT (some v4) (aj (ava (v4+1)))) (PM n ae)
def zJ(n:Nat)(s:List Part)(ae:Int):Nat→Int→avd
 | 0=>λ_=>none
 |m+1=>IM n s ae (zJ n s ae m)
def PN(s:List Part)(ae:Int):avd:=zJ n s ae n 0
def PO(l:List Part)(id:Int):avd:=(PN n l id).bind λr1=>some r1
def Dl(n:Nat)(dK:Int):avc:=some (cond (decide (1≤dK)) (decide (dK≤16)) false)
def PP(n:Nat)(dK:Int):avc:=some (cond (decide (1≤dK)) (decide (dK≤1099511627776)) false)
def IN(l:List Part)(i:Int):avc:=av (aI i l.length)<|cond (decide ((avb l i).gO=0)) (some (decide (((avb l i).dQ)=([]:au')))) ((Dl n ((avb l i).gO)).bind λr3=>Option.bind (cond (cond r3 (!decide ((avb l i).gO=(avb l i).Node)) false) (Dk n ((avb l i).dQ)) (some default)) λaR=>av (!(cond (cond (cond r3 (!decide ((avb l i).gO=(avb l i).Node)) false) aR false) (!(Op.bytesLess ((avb l i).dQ) ((avb l i).es))) false)||((decide ((ava (i+1))=((l.length:Nat):Int)))||aI (ava (i+1)) l.length))<|some (cond (cond (cond (cond r3 (!decide ((avb l i).gO=(avb l i).Node)) false) aR false) (!(Op.bytesLess ((avb l i).dQ) ((avb l i).es))) false) (cond (decide ((ava (i+1))=((l.length:Nat):Int))) true (Op.bytesLess ((avb l i).dQ) ((avb l (ava (i+1))).es))) false))
def PQ(n:Nat):avc:=some true
def IP(p:cc)(aj:Int→avc)(v12:Int):avc:=cond (decide (v12<((p.aS.length:Nat):Int))) (av (aI v12 p.aS.length)<|Option.bind (cond (decide (0<v12)) (Dk n ((avb p.aS v12).es)) (some default)) λep=>av (!(decide (0<v12))||((!ep)||aI (ava (v12-1)) p.aS.length))<|cond (cond (decide (0<v12)) (cond (!ep) true ((Op.bytesLess ((avb p.aS v12).es) ((avb p.aS (ava (v12-1))).es))||(decide (((avb p.aS v12).es)=((avb p.aS (ava (v12-1))).es))))) false) (some false) ((PP n ((avb p.aS v12).Id)).bind λb8=>Option.bind (cond (!(!b8)) (Dl n ((avb p.aS v12).Node)) (some default)) λdf=>Option.bind (cond (!(cond (!b8) true (!df))) (IN n p.aS v12) (some default)) λe9=>av ((cond (cond (!b8) true (!df)) true (!e9))||gT v12 p.aS.length)<|Option.bind (cond (!(cond (cond (!b8) true (!df)) true (!e9))) (PO n (p.aS.take (v12).toNat) ((avb p.aS v12).Id)) (some default)) λdW=>cond (cond (cond (cond (!b8) true (!df)) true (!e9)) true (decide (0≤dW))) (some false) (aj (ava (v12+1))))) (PQ n)
def wZ(n:Nat)(p:cc):Nat→Int→avc
 | 0=>λ_=>none
 |m+1=>IP n p (wZ n p m)
def Dm(p:cc):avc:=av ((cond (cond (cond (decide (p.Version<0)) true (decide (1099511627776<p.Version))) true (decide (((p.aS.length:Nat):Int)<1))) true (decide (16<((p.aS.length:Nat):Int))))||aI 0 p.aS.length)<|cond (cond (cond (cond (cond (decide (p.Version<0)) true (decide (1099511627776<p.Version))) true (decide (((p.aS.length:Nat):Int)<1))) true (decide (16<((p.aS.length:Nat):Int)))) true (!(decide (((p.aS.getD 0 default).es)=([]:au'))))) (some false) (wZ n p n 0)
def sQ(ae:pD):Option (Int×Int×Int):=cond (!decide (ae.e=0)) (some (0,ae.at_,ae.e)) ((zF n ae.s ae.at_).bind λr2=>some (r2.1,r2.2.1,r2.2.2))
def w0(ae:pD):Option (au'×Int×Int):=cond (!decide (ae.e=0)) (some (([]:au'),ae.at_,ae.e)) ((sP n ae.s ae.at_ 24).bind λr2=>some (r2.1,r2.2.1,r2.2.2))
def IQ(n:Nat)(s:au')(v28:Int)(r1:Int×Int×Int)(v30:List Part)(na:Int):Option (cc×Int×Int):=cond (!decide (na=0)) (some ((⟨0,[]⟩:cc),0,na)) (some ((⟨r1.1,v30⟩:cc),v28,0))
def Dn(s:au')(r1:Int×Int×Int)(v28:Int)(hT:Int)(v30:List Part):Option (cc×Int×Int):=Option.bind (cond (decide (hT=0)) (Dm n (⟨r1.1,v30⟩:cc)) (some default)) λfN=>cond (cond (decide (hT=0)) (!fN) false) (IQ n s v28 r1 v30 5) (IQ n s v28 r1 v30 hT)
def zK(r3:Int×Int×Int)(s:au')(r1:Int×Int×Int)(fp:Int→Int→(List Part)→Int→Option (cc×Int×Int))(bL:Int)(br:Int)(cW:List Part)(aV:Int):Option (cc×Int×Int):=cond (decide (aV<r3.1)) ((sQ n (⟨s,bL,br⟩:pD)).bind λe9=>(w0 n (⟨s,e9.2.1,e9.2.2⟩:pD)).bind λeW=>(sQ n (⟨s,eW.2.1,eW.2.2⟩:pD)).bind λdW=>(sQ n (⟨s,dW.2.1,dW.2.2⟩:pD)).bind λeT=>(w0 n (⟨s,eT.2.1,eT.2.2⟩:pD)).bind λdp=>av (room (cW.length+([(⟨e9.1,eW.1,dW.1,eT.1,dp.1⟩:Part)]:List Part).length) 56)<|fp dp.2.1 dp.2.2 (cW++([(⟨e9.1,eW.1,dW.1,eT.1,dp.1⟩:Part)]:List Part)) (ava (aV+1))) (Dn n s r1 bL br cW)
def sR(n:Nat)(r3:Int×Int×Int)(s:au')(r1:Int×Int×Int):Nat→Int→Int→(List Part)→Int→Option (cc×Int×Int)
 | 0=>λ_ _ _ _=>none
 |m+1=>zK n r3 s r1 (sR n r3 s r1 m)
def IR(s:au')(at_:Int):Option (cc×Int×Int):=(sQ n (⟨s,at_,0⟩:pD)).bind λr1=>cond (!decide (r1.2.2=0)) (some ((⟨0,[]⟩:cc),0,r1.2.2)) ((oN n s r1.2.1 16).bind λr3=>sR n r3 s r1 n r3.2.1 r3.2.2 ([]:List Part) 0)
def zL(ae:fw):Option (cc×Int×Int):=cond (!decide (ae.e=0)) (some ((⟨0,[]⟩:cc),ae.at_,ae.e)) ((IR n ae.s ae.at_).bind λr2=>cond (!decide (r2.2.2=0)) (some ((⟨0,[]⟩:cc),ae.at_,r2.2.2)) (some (r2.1,r2.2.1,r2.2.2)))
def qt(n:Nat)(next:Int)(e:Int)(ae:h8):Option (Int×Int):=some (next,e)
def w1(most:Int)(ae:h8):Option (Int×Int×Int):=cond (!decide (ae.e=0)) (some (0,ae.at_,ae.e)) ((oN n ae.s ae.at_ most).bind λr2=>(qt n r2.2.1 r2.2.2 ae).bind λr3=>some (r2.1,r3.1,r3.2))
def IS(s:au')(at_:Int):Option (Bool×Int×Int):=(Dh n s at_).bind λr1=>cond r1 (some (false,0,1)) (cond (decide (at_=((s.length:Nat):Int))) (some (false,0,6)) (av (aI at_ s.length)<|cond (decide (1<(((s.getD (at_).toNat 0).toNat:Nat):Int))) (some (false,0,5)) (av (aI at_ s.length)<|some ((decide ((((s.getD (at_).toNat 0).toNat:Nat):Int)=1)),(ava (at_+1)),0))))
def zM(ae:h8):Option (Bool×Int×Int):=cond (!decide (ae.e=0)) (some (false,ae.at_,ae.e)) ((IS n ae.s ae.at_).bind λr2=>(qt n r2.2.1 r2.2.2 ae).bind λr3=>some (r2.1,r3.1,r3.2))
def w2(most:Int)(ae:h8):Option (au'×Int×Int):=cond (!decide (ae.e=0)) (some (([]:au'),ae.at_,ae.e)) ((sP n ae.s ae.at_ most).bind λr2=>(qt n r2.2.1 r2.2.2 ae).bind λr3=>some (r2.1,r3.1,r3.2))
def IT(n:Nat)(ae:h8)(cl:Int)(bZ:Int)(v20:List au'):Option ((List au')×Int×Int):=some (v20,cl,bZ)
def zN(r1:Int×Int×Int)(ae:h8)(aj:Int→Int→(List au')→Int→Option ((List au')×Int×Int))(bm:Int)(v9:Int)(v10:List au')(v11:Int):Option ((List au')×Int×Int):=cond (decide (v11<r1.1)) ((w2 n 24 (⟨ae.s,bm,v9⟩:h8)).bind λcq=>av (room (v10.length+([cq.1]:List au').length) 16)<|aj cq.2.1 cq.2.2 (v10++([cq.1]:List au')) (ava (v11+1))) (IT n ae bm v9 v10)
def sS(n:Nat)(r1:Int×Int×Int)(ae:h8):Nat→Int→Int→(List au')→Int→Option ((List au')×Int×Int)
 | 0=>λ_ _ _ _=>none
 |m+1=>zN n r1 ae (sS n r1 ae m)
def uH(ae:h8):Option ((List au')×Int×Int):=(w1 n 64 ae).bind λr1=>sS n r1 ae n r1.2.1 r1.2.2 ([]:List au') 0
def w3(ae:h8):Option (Int×Int×Int):=cond (!decide (ae.e=0)) (some (0,ae.at_,ae.e)) ((sO n ae.s ae.at_).bind λr2=>(qt n r2.2.1 r2.2.2 ae).bind λr3=>some (r2.1,r3.1,r3.2))
def zO(ae:h8):Option (bz×Int×Int):=cond (!decide (ae.e=0)) (some ((⟨0,0,[]⟩:bz),ae.at_,ae.e)) ((zG n ae.s ae.at_).bind λr2=>(qt n r2.2.1 r2.2.2 ae).bind λr3=>some (r2.1,r3.1,r3.2))
def sT(r1:Int×Int×Int)(r2:Int×Int×Int)(s:au')(r3:au'×Int×Int)(v23:List bz)(r24:Bool×Int×Int)(nK:Int)(v28:Int)(hT:List au')(v30:List au'):Option (Request×Int×Int):=cond (!decide (v28=0)) (some ((⟨0,0,[],[],false,⟨false,[],[]⟩⟩:Request),0,v28)) (cond (cond (decide (32<r1.1)) true (decide (1099511627776<r2.1))) (some ((⟨0,0,[],[],false,⟨false,[],[]⟩⟩:Request),0,5)) ((rx n (⟨(ava r1.1),(ava r2.1),r3.1,v23,r24.1,⟨false,hT,v30⟩⟩:Request)).bind λnI=>cond (!decide (nI=0)) (some ((⟨0,0,[],[],false,⟨false,[],[]⟩⟩:Request),0,5)) (some ((⟨(ava r1.1),(ava r2.1),r3.1,v23,r24.1,⟨false,hT,v30⟩⟩:Request),nK,0))))
def zP(r1:Int×Int×Int)(r2:Int×Int×Int)(s:au')(r3:au'×Int×Int)(v21:Int)(v22:Int)(v23:List bz):Option (Request×Int×Int):=(zM n (⟨s,v21,v22⟩:h8)).bind λr24=>cond r24.1 ((uH n (⟨s,r24.2.1,r24.2.2⟩:h8)).bind λfi=>(uH n (⟨s,fi.2.1,fi.2.2⟩:h8)).bind λr26=>sT n r1 r2 s r3 v23 r24 r26.2.1 r26.2.2 fi.1 r26.1) (sT n r1 r2 s r3 v23 r24 r24.2.1 r24.2.2 ([]:List au') ([]:List au'))
def zQ(r1:Int×Int×Int)(r2:Int×Int×Int)(aR:Int×Int×Int)(s:au')(r3:au'×Int×Int)(fp:Int→Int→(List bz)→Int→Option (Request×Int×Int))(v11:Int)(v12:Int)(b0:List bz)(bL:Int):Option (Request×Int×Int):=cond (decide (bL<aR.1)) ((zO n (⟨s,v11,v12⟩:h8)).bind λdx=>av (room (b0.length+([dx.1]:List bz).length) 32)<|fp dx.2.1 dx.2.2 (b0++([dx.1]:List bz)) (ava (bL+1))) (zP n r1 r2 s r3 v11 v12 b0)
def sU(n:Nat)(r1:Int×Int×Int)(r2:Int×Int×Int)(aR:Int×Int×Int)(s:au')(r3:au'×Int×Int):Nat→Int→Int→(List bz)→Int→Option (Request×Int×Int)
 | 0=>λ_ _ _ _=>none
 |m+1=>zQ n r1 r2 aR s r3 (sU n r1 r2 aR s r3 m)
def IU(s:au')(at_:Int):Option (Request×Int×Int):=(w3 n (⟨s,at_,0⟩:h8)).bind λr1=>(w3 n (⟨s,r1.2.1,r1.2.2⟩:h8)).bind λr2=>(w2 n 16 (⟨s,r2.2.1,r2.2.2⟩:h8)).bind λr3=>(w1 n 6 (⟨s,r3.2.1,r3.2.2⟩:h8)).bind λaR=>sU n r1 r2 aR s r3 n aR.2.1 aR.2.2 ([]:List bz) 0
def PR(n:Nat)(cW:List Request)(aV:Int):Option ((List Request)×Int×Int):=some (cW,aV,0)
def IV(s:au')(r1:Int×Int×Int)(aj:(List Request)→Int→Int→Option ((List Request)×Int×Int))(bm:List Request)(v9:Int)(v10:Int):Option ((List Request)×Int×Int):=cond (decide (v9<r1.1)) ((IU n s v10).bind λbx=>cond (!decide (bx.2.2=0)) (some (([]:List Request),0,bx.2.2)) (av (room (bm.length+([bx.1]:List Request).length) 120)<|aj (bm++([bx.1]:List Request)) (ava (v9+1)) bx.2.1)) (PR n bm v10)
def w4(n:Nat)(s:au')(r1:Int×Int×Int):Nat→(List Request)→Int→Int→Option ((List Request)×Int×Int)
 | 0=>λ_ _ _=>none
 |m+1=>IV n s r1 (w4 n s r1 m)
def IW(s:au')(at_:Int):Option ((List Request)×Int×Int):=(oN n s at_ 64).bind λr1=>cond (!decide (r1.2.2=0)) (some (([]:List Request),0,r1.2.2)) (w4 n s r1 n ([]:List Request) 0 r1.2.1)
def zR(ae:fw):Option ((List Request)×Int×Int):=cond (!decide (ae.e=0)) (some (([]:List Request),ae.at_,ae.e)) ((IW n ae.s ae.at_).bind λr2=>cond (!decide (r2.2.2=0)) (some (([]:List Request),ae.at_,r2.2.2)) (some (r2.1,r2.2.1,r2.2.2)))
def zS(n:Nat)(r2:Int×Int×Int)(ae:lu)(v3:Int):Option (Int×Int×Int):=cond (!decide (v3=0)) (some (0,ae.at_,v3)) (some ((ava r2.1),r2.2.1,v3))
def sV(least:Int)(most:Int)(ae:lu):Option (Int×Int×Int):=cond (!decide (ae.e=0)) (some (0,ae.at_,ae.e)) ((sO n ae.s ae.at_).bind λr2=>cond (cond (decide (r2.2.2=0)) (cond (decide (r2.1<least)) true (decide (most<r2.1))) false) (zS n r2 ae 5) (zS n r2 ae r2.2.2))
def Do(n:Nat)(ae:lu)(r1:Int×Int×Int)(r2:Int×Int×Int)(v21:Int)(v22:Int)(v23:List bz):Option (Outcome×Int×Int):=some ((⟨r1.1,r2.1,v23⟩:Outcome),v21,v22)
def zT(aR:Int×Int×Int)(ae:lu)(r1:Int×Int×Int)(r2:Int×Int×Int)(aj:Int→Int→(List bz)→Int→Option (Outcome×Int×Int))(v11:Int)(v12:Int)(b0:List bz)(bL:Int):Option (Outcome×Int×Int):=cond (cond (decide (bL<aR.1)) (decide (v12=0)) false) ((zG n ae.s v11).bind λdx=>av (room (b0.length+([dx.1]:List bz).length) 32)<|aj dx.2.1 dx.2.2 (b0++([dx.1]:List bz)) (ava (bL+1))) (Do n ae r1 r2 v11 v12 b0)
def uI(n:Nat)(aR:Int×Int×Int)(ae:lu)(r1:Int×Int×Int)(r2:Int×Int×Int):Nat→Int→Int→(List bz)→Int→Option (Outcome×Int×Int)
 | 0=>λ_ _ _ _=>none
 |m+1=>zT n aR ae r1 r2 (uI n aR ae r1 r2 m)
def Dp(ae:lu):Option (Outcome×Int×Int):=(sV n 0 9999 ae).bind λr1=>(sV n 0 9999 (⟨ae.s,r1.2.1,r1.2.2⟩:lu)).bind λr2=>cond (!decide (r2.2.2=0)) (some ((⟨r1.1,r2.1,[]⟩:Outcome),r2.2.1,r2.2.2)) ((oN n ae.s r2.2.1 16).bind λaR=>uI n aR ae r1 r2 n aR.2.1 aR.2.2 ([]:List bz) 0)
def IX(n:Nat)(ae:lu)(r1:Int×Int×Int)(r2:Int×Int×Int)(v21:Int)(v22:Int)(v23:List fg):Option (b_×Int×Int):=some ((⟨r1.1,r2.1,v23⟩:b_),v21,v22)
def Dq(aR:Int)(ae:lu)(r1:Int×Int×Int)(r2:Int×Int×Int)(aj:Int→Int→(List fg)→Int→Option (b_×Int×Int))(v11:Int)(v12:Int)(b0:List fg)(bL:Int):Option (b_×Int×Int):=cond (cond (decide (bL<aR)) (decide (v12=0)) false) ((Dp n (⟨ae.s,v11,v12⟩:lu)).bind λdx=>av (room (b0.length+([(⟨r1.1,(ava (r2.1-(ava (aR-bL)))),dx.1⟩:fg)]:List fg).length) 56)<|aj dx.2.1 dx.2.2 (b0++([(⟨r1.1,(ava (r2.1-(ava (aR-bL)))),dx.1⟩:fg)]:List fg)) (ava (bL+1))) (IX n ae r1 r2 v11 v12 b0)
def w5(n:Nat)(aR:Int)(ae:lu)(r1:Int×Int×Int)(r2:Int×Int×Int):Nat→Int→Int→(List fg)→Int→Option (b_×Int×Int)
 | 0=>λ_ _ _ _=>none
 |m+1=>Dq n aR ae r1 r2 (w5 n aR ae r1 r2 m)
def Dr(ae:lu):Option (b_×Int×Int):=(sV n 1 32 ae).bind λr1=>(sV n 1 1099511627776 (⟨ae.s,r1.2.1,r1.2.2⟩:lu)).bind λr2=>cond (!decide (r2.2.2=0)) (some ((⟨r1.1,r2.1,[]⟩:b_),r2.2.1,r2.2.2)) ((C7 n r2.1).bind λaR=>w5 n aR ae r1 r2 n r2.2.1 r2.2.2 ([]:List fg) 0)
def Ds(s:au')(bZ:Int)(v20:Int)(v21:List b_):Option ((List b_)×Int×Int):=cond (!decide (v20=0)) (some (([]:List b_),0,v20)) ((uD n v21).bind λeo=>cond (!eo) (some (([]:List b_),0,5)) (some (v21,bZ,0)))
def Dt(r1:Int×Int×Int)(s:au')(aj:Int→Int→(List b_)→Int→Option ((List b_)×Int×Int))(v9:Int)(v10:Int)(v11:List b_)(v12:Int):Option ((List b_)×Int×Int):=cond (cond (decide (v12<r1.1)) (decide (v10=0)) false) ((Dr n (⟨s,v9,v10⟩:lu)).bind λde=>av (room (v11.length+([de.1]:List b_).length) 40)<|aj de.2.1 de.2.2 (v11++([de.1]:List b_)) (ava (v12+1))) (Ds n s v9 v10 v11)
def w6(n:Nat)(r1:Int×Int×Int)(s:au'):Nat→Int→Int→(List b_)→Int→Option ((List b_)×Int×Int)
 | 0=>λ_ _ _ _=>none
 |m+1=>Dt n r1 s (w6 n r1 s m)
def IY(s:au')(at_:Int):Option ((List b_)×Int×Int):=(oN n s at_ 32).bind λr1=>cond (!decide (r1.2.2=0)) (some (([]:List b_),0,r1.2.2)) (w6 n r1 s n r1.2.1 0 ([]:List b_) 0)
def zU(ae:fw):Option ((List b_)×Int×Int):=cond (!decide (ae.e=0)) (some (([]:List b_),ae.at_,ae.e)) ((IY n ae.s ae.at_).bind λr2=>cond (!decide (r2.2.2=0)) (some (([]:List b_),ae.at_,r2.2.2)) (some (r2.1,r2.2.1,r2.2.2)))
def PS(s:au')(at_:Int)(a2:Int):Option (Int×Int×Int):=(oN n s at_ a2).bind λr1=>some (r1.1,r1.2.1,r1.2.2)
def w7(p:Int)(ae:fw):Option (Int×Int×Int):=cond (!decide (ae.e=0)) (some (0,ae.at_,ae.e)) ((PS n ae.s ae.at_ p).bind λr2=>cond (!decide (r2.2.2=0)) (some (0,ae.at_,r2.2.2)) (some (r2.1,r2.2.1,r2.2.2)))
def w8(ae:fw):Option (Int×Int×Int):=cond (!decide (ae.e=0)) (some (0,ae.at_,ae.e)) ((zF n ae.s ae.at_).bind λr2=>cond (!decide (r2.2.2=0)) (some (0,ae.at_,r2.2.2)) (some (r2.1,r2.2.1,r2.2.2)))
def PT(s:au')(at_:Int)(a2:Int):Option (au'×Int×Int):=(sP n s at_ a2).bind λr1=>some (r1.1,r1.2.1,r1.2.2)
def Du(p:Int)(ae:fw):Option (au'×Int×Int):=cond (!decide (ae.e=0)) (some (([]:au'),ae.at_,ae.e)) ((PT n ae.s ae.at_ p).bind λr2=>cond (!decide (r2.2.2=0)) (some (([]:au'),ae.at_,r2.2.2)) (some (r2.1,r2.2.1,r2.2.2)))
def zV(ae:fw):Option (Int×Int×Int):=cond (!decide (ae.e=0)) (some (0,ae.at_,ae.e)) ((sO n ae.s ae.at_).bind λr2=>cond (!decide (r2.2.2=0)) (some (0,ae.at_,r2.2.2)) (some (r2.1,r2.2.1,r2.2.2)))
def Dv(n:Nat)(most:Int):avd:=some most
def uJ(ae:fw)(r1:Int×Int×Int)(r26:(List b_)×Int×Int)(r27:cc×Int×Int)(r2:(List aU)×Int×Int)(v25:List au')(IZ:Int)(v51:Int)(I0:List bg):Option (pC×Int×Int):=(zR n (⟨ae.s,IZ,v51⟩:fw)).bind λzW=>(zV n (⟨ae.s,zW.2.1,zW.2.2⟩:fw)).bind λlv=>some ((⟨⟨r1.1,⟨0,0,[]⟩,[],r26.1,r27.1,I0,zW.1,lv.1⟩,r2.1,v25⟩:pC),lv.2.1,lv.2.2)
def Dw(ae:fw)(r1:Int×Int×Int)(r26:(List b_)×Int×Int)(r27:cc×Int×Int)(r2:(List aU)×Int×Int)(v25:List au')(fp:Int→Int→(List bg)→Int→Option (pC×Int×Int))(iS:Int)(mh:Int)(v40:List bg)(kC:Int):Option (pC×Int×Int):=cond (cond (decide (0<kC)) (decide (mh=0)) false) ((Dv n 24).bind λhU=>(Du n hU (⟨ae.s,iS,mh⟩:fw)).bind λoO=>(w8 n (⟨ae.s,oO.2.1,oO.2.2⟩:fw)).bind λgQ=>av (room (v40.length+([(⟨oO.1,gQ.1⟩:bg)]:List bg).length) 24)<|fp gQ.2.1 gQ.2.2 (v40++([(⟨oO.1,gQ.1⟩:bg)]:List bg)) (ava (kC-1))) (uJ n ae r1 r26 r27 r2 v25 iS mh v40)
def rE(n:Nat)(ae:fw)(r1:Int×Int×Int)(r26:(List b_)×Int×Int)(r27:cc×Int×Int)(r2:(List aU)×Int×Int)(v25:List au'):Nat→Int→Int→(List bg)→Int→Option (pC×Int×Int)
 | 0=>λ_ _ _ _=>none
 |m+1=>Dw n ae r1 r26 r27 r2 v25 (rE n ae r1 r26 r27 r2 v25 m)
def uK(ae:fw)(r1:Int×Int×Int)(r2:(List aU)×Int×Int)(v23:Int)(v24:Int)(v25:List au'):Option (pC×Int×Int):=(zU n (⟨ae.s,v23,v24⟩:fw)).bind λr26=>(zL n (⟨ae.s,r26.2.1,r26.2.2⟩:fw)).bind λr27=>(zC n 32).bind λnJ=>(w7 n nJ (⟨ae.s,r27.2.1,r27.2.2⟩:fw)).bind λfF=>rE n ae r1 r26 r27 r2 v25 n fF.2.1 fF.2.2 ([]:List bg) fF.1
def Dx(ae:fw)(r1:Int×Int×Int)(r2:(List aU)×Int×Int)(eQ:Int→Int→(List au')→Int→Option (pC×Int×Int))(v12:Int)(b0:Int)(bL:List au')(br:Int):Option (pC×Int×Int):=cond (cond (decide (0<br)) (decide (b0=0)) false) ((Dv n 16384).bind λb8=>(Du n b8 (⟨ae.s,v12,b0⟩:fw)).bind λdf=>av (room (bL.length+([df.1]:List au').length) 16)<|eQ df.2.1 df.2.2 (bL++([df.1]:List au')) (ava (br-1))) (uK n ae r1 r2 v12 b0 bL)
def uL(n:Nat)(ae:fw)(r1:Int×Int×Int)(r2:(List aU)×Int×Int):Nat→Int→Int→(List au')→Int→Option (pC×Int×Int)
 | 0=>λ_ _ _ _=>none
 |m+1=>Dx n ae r1 r2 (uL n ae r1 r2 m)
def Dy(ae:fw):Option (pC×Int×Int):=(w8 n ae).bind λr1=>(zH n (⟨ae.s,r1.2.1,r1.2.2⟩:fw)).bind λr2=>(zC n 16).bind λr3=>(w7 n r3 (⟨ae.s,r2.2.1,r2.2.2⟩:fw)).bind λaR=>uL n ae r1 r2 n aR.2.1 aR.2.2 ([]:List au') aR.1
def I1(n:Nat):Option (au'×Int×Int):=some (([]:au'),0,6)
def PU(n:Nat)(aj:(List Int)→Int→Option (au'×Int×Int))(s:au')(bZ:List Int)(v20:Int):Option (au'×Int×Int):=aj bZ (ava (v20+1))
def I2(aj:(List Int)→Int→Option (au'×Int×Int))(s:au')(v11:List Int)(cW:Int)(aV:Int):Option (au'×Int×Int):=cond (cond (decide (aV<32)) true (decide (126<aV))) (some (([]:au'),0,5)) (cond (decide (((v11.length:Nat):Int)=64)) (some (([]:au'),0,2)) (av (room (v11.length+([aV]:List Int).length) 1)<|PU n aj s (v11++([aV]:List Int)) cW))
def PV(s:au')(aj:(List Int)→Int→Option (au'×Int×Int))(v11:List Int)(v12:Int):Option (au'×Int×Int):=cond (decide (v12<((s.length:Nat):Int))) (av (aI v12 s.length)<|cond (decide ((((s.getD (v12).toNat 0).toNat:Nat):Int)=34)) (av (nC v11)<|some ((kg v11),(ava (v12+1)),0)) (cond (decide ((((s.getD (v12).toNat 0).toNat:Nat):Int)=92)) (cond (decide ((ava (v12+1))=((s.length:Nat):Int))) (I1 n) (av (aI (ava (v12+1)) s.length)<|cond (cond (!decide ((((s.getD ((ava (v12+1))).toNat 0).toNat:Nat):Int)=34)) (!decide ((((s.getD ((ava (v12+1))).toNat 0).toNat:Nat):Int)=92)) false) (some (([]:au'),0,5)) (I2 n aj s v11 (ava (v12+1)) (((s.getD ((ava (v12+1))).toNat 0).toNat:Nat):Int)))) (I2 n aj s v11 v12 (((s.getD (v12).toNat 0).toNat:Nat):Int)))) (I1 n)
def zX(n:Nat)(s:au'):Nat→(List Int)→Int→Option (au'×Int×Int)
 | 0=>λ_ _=>none
 |m+1=>PV n s (zX n s m)
def PW(s:au'):Option (au'×Int×Int):=zX n s n ([]:List Int) 1
def PX(s:au')(c:Int):avd:=(HB n s c).bind λr1=>some r1
def Dz(s:au'):Option au':=av (!(!(decide (s=([]:au'))))||aI 0 s.length)<|Option.bind (cond (!(decide (s=([]:au')))) (PX n ([40,41,123,125,44,59,58,61,60,62,43,45,42,47,37]:au') (((s.getD 0 0).toNat:Nat):Int)) (some default)) λbV=>cond (cond (!(decide (s=([]:au')))) (decide (0≤bV)) false) (av (gT 1 s.length)<|some (s.take 1)) (some ([]:au'))
def w9(s:au')(v2:Bool):Option au':=cond v2 (av (gT 2 s.length)<|some (s.take 2)) (Dz n s)
def I3(s:au'):Option au':=cond (decide (2≤((s.length:Nat):Int))) (av (gT 2 s.length)<|cond (decide ((s.take 2)=([61,61]:au'))) (w9 n s (decide ((s.take 2)=([61,61]:au')))) (cond (decide ((s.take 2)=([33,61]:au'))) (w9 n s (decide ((s.take 2)=([33,61]:au')))) (cond (decide ((s.take 2)=([60,61]:au'))) (w9 n s (decide ((s.take 2)=([60,61]:au')))) (cond (decide ((s.take 2)=([62,61]:au'))) (w9 n s (decide ((s.take 2)=([62,61]:au')))) (w9 n s (decide ((s.take 2)=([43,43]:au')))))))) (Dz n s)
def DA(s:au')(v3:au')(v4:Bool)(v10:Int):Option (Int×Int):=av ((cond (decide (v10=0)) true (decide (v10<((v3.length:Nat):Int))))||aI 0 v3.length)<|cond (cond (cond (decide (v10=0)) true (decide (v10<((v3.length:Nat):Int)))) true (cond (decide ((((v3.getD 0 0).toNat:Nat):Int)=48)) (cond (decide (1<v10)) true v4) false)) (some (0,5)) ((y8 n s 10 64).bind λde=>iA.on de (λYg=>cond (!true) (some (0,3)) (some (Yg,0))) (λYh=>cond (!false) (some (0,3)) (some (Yh,0))))
def PY(s:au')(v3:au')(v4:Bool)(fp:Int→Option (Int×Int))(bp:Int):Option (Int×Int):=cond (decide (bp<((v3.length:Nat):Int))) (av (aI bp v3.length)<|cond (cond (decide (48≤(((v3.getD (bp).toNat 0).toNat:Nat):Int))) (decide ((((v3.getD (bp).toNat 0).toNat:Nat):Int)≤57)) false) (fp (ava (bp+1))) (DA n s v3 v4 bp)) (DA n s v3 v4 bp)
def zY(n:Nat)(s:au')(v3:au')(v4:Bool):Nat→Int→Option (Int×Int)
 | 0=>λ_=>none
 |m+1=>PY n s v3 v4 (zY n s v3 v4 m)
def I4(s:au')(v3:au')(v4:Bool):Option (Int×Int):=zY n s v3 v4 n 0
def I5(s:au'):Option (Int×Int):=av (!(decide (0<((s.length:Nat):Int)))||aI 0 s.length)<|cond (cond (decide (0<((s.length:Nat):Int))) (decide ((((s.getD 0 0).toNat:Nat):Int)=45)) false) (av (gT 1 s.length)<|I4 n s (s.drop 1) true) (I4 n s s false)
def I6(w:au'):Option (Token×Int):=av (aI 0 w.length)<|cond (decide ((((w.getD 0 0).toNat:Nat):Int)=95)) (some ((⟨0,[],0,0⟩:Token),5)) (av (aI 0 w.length)<|(CJ n (IntKind.i32.wrap (((w.getD 0 0).toNat:Nat):Int))).bind λaR=>cond aR ((CI n w).bind λaT=>cond aT (some ((⟨2,w,0,0⟩:Token),0)) ((sK n w).bind λbH=>cond (!bH) (some ((⟨0,[],0,0⟩:Token),2)) (some ((⟨1,w,0,0⟩:Token),0)))) ((I5 n w).bind λdj=>cond (!decide (dj.2=0)) (some ((⟨0,[],0,0⟩:Token),dj.2)) (some ((⟨3,[],dj.1,0⟩:Token),0))))
def DB(s:au'):Option (Token×Int×Int):=(y7 n s).bind λr1=>cond (decide (0<r1)) (av (gT r1 s.length)<|(I6 n (s.take (r1).toNat)).bind λaR=>some (aR.1,r1,aR.2)) (av (aI 0 s.length)<|cond (decide ((((s.getD 0 0).toNat:Nat):Int)=34)) ((PW n s).bind λbO=>some ((⟨4,bO.1,0,0⟩:Token),bO.2.1,bO.2.2)) ((I3 n s).bind λbH=>cond (decide (bH=([]:au'))) (some ((⟨0,[],0,0⟩:Token),0,5)) (some ((⟨5,bH,0,0⟩:Token),((bH.length:Nat):Int),0))))
def I7(s:au'):Option au':=(HA n s).bind λr1=>some r1
def PZ(n:Nat)(I8:List Token):Option ((List Token)×Int×Int):=some (I8,0,0)
def P0(aj:(List Token)→Int→Int→Option ((List Token)×Int×Int))(src:au')(aV:List Token)(cl:Int)(bZ:Int):Option ((List Token)×Int×Int):=av (gT bZ src.length)<|(DB n (src.drop (bZ).toNat)).bind λfF=>cond (!decide (fF.2.2=0)) (some (([]:List Token),cl,fF.2.2)) ((I7 n fF.1.Text).bind λhM=>av (room (aV.length+([(⟨fF.1.Kind,hM,fF.1.N,cl⟩:Token)]:List Token).length) 40)<|aj (aV++([(⟨fF.1.Kind,hM,fF.1.N,cl⟩:Token)]:List Token)) cl (ava (bZ+fF.2.1)))
def P1(n:Nat)(aj:(List Token)→Int→Int→Option ((List Token)×Int×Int))(src:au')(aV:List Token)(cl:Int)(nK:Int):Option ((List Token)×Int×Int):=aj aV cl nK
def P2(aj:(List Token)→Int→Int→Option ((List Token)×Int×Int))(src:au')(aV:List Token)(cl:Int)(C9:Int→Option ((List Token)×Int×Int))(v24:Int):Option ((List Token)×Int×Int):=av (!(decide (v24<((src.length:Nat):Int)))||aI v24 src.length)<|cond (cond (decide (v24<((src.length:Nat):Int))) (!decide ((((src.getD (v24).toNat 0).toNat:Nat):Int)=10)) false) (C9 (ava (v24+1))) (P1 n aj src aV cl v24)
def DC(n:Nat)(aj:(List Token)→Int→Int→Option ((List Token)×Int×Int))(src:au')(aV:List Token)(cl:Int):Nat→Int→Option ((List Token)×Int×Int)
 | 0=>λ_=>none
 |m+1=>P2 n aj src aV cl (DC n aj src aV cl m)
def I9(aj:(List Token)→Int→Int→Option ((List Token)×Int×Int))(src:au')(aV:List Token)(cl:Int)(bZ:Int)(v21:Bool):Option ((List Token)×Int×Int):=cond v21 (aj aV cl (ava (bZ+1))) (cond (decide ((((src.getD (bZ).toNat 0).toNat:Nat):Int)=35)) (DC n aj src aV cl n bZ) (P0 n aj src aV cl bZ))
def P3(src:au')(aj:(List Token)→Int→Int→Option ((List Token)×Int×Int))(aV:List Token)(cl:Int)(bZ:Int):Option ((List Token)×Int×Int):=cond (decide (bZ<((src.length:Nat):Int))) (av (aI bZ src.length)<|cond (decide ((((src.getD (bZ).toNat 0).toNat:Nat):Int)=10)) (aj aV (ava (cl+1)) (ava (bZ+1))) (cond (decide ((((src.getD (bZ).toNat 0).toNat:Nat):Int)=32)) (I9 n aj src aV cl bZ (decide ((((src.getD (bZ).toNat 0).toNat:Nat):Int)=32))) (I9 n aj src aV cl bZ (decide ((((src.getD (bZ).toNat 0).toNat:Nat):Int)=9))))) (PZ n aV)
def DD(n:Nat)(src:au'):Nat→(List Token)→Int→Int→Option ((List Token)×Int×Int)
 | 0=>λ_ _ _=>none
 |m+1=>P3 n src (DD n src m)
def I'(src:au'):Option ((List Token)×Int×Int):=cond (decide (16384<((src.length:Nat):Int))) (some (([]:List Token),0,2)) (DD n src n ([]:List Token) 1 0)
def uM(n:Nat)(text:au')(ae:a1):avc:=cond (decide (((ae.tokens.length:Nat):Int)≤ae.at_)) (some false) (av (aI ae.at_ ae.tokens.length)<|some (cond (cond (decide ((avb ae.tokens (ae.at_)).Kind=2)) true (decide ((avb ae.tokens (ae.at_)).Kind=5))) (decide (((avb ae.tokens (ae.at_)).Text)=text)) false))
def kV(text:au')(ae:a1):Option (Bool×Int):=(uM n text ae).bind λr1=>cond (!r1) (some (false,ae.at_)) (some (true,(ava (ae.at_+1))))
def P4(n:Nat)(ae:a1):Option (aB Unit Unit):=av (aI (ava (((ae.tokens.length:Nat):Int)-1)) ae.tokens.length)<|some (.aJ (.iface 379 (.agg [.int .i64 ((avb ae.tokens (ava (((ae.tokens.length:Nat):Int)-1))).mC),.int .i64 6])) ())
def P5(ae:a1):Option (aB Unit Unit):=cond (decide (((ae.tokens.length:Nat):Int)=0)) (some (.aJ (.iface 379 (.agg [.int .i64 1,.int .i64 6])) ())) (P4 n ae)
def sW(code:Int)(ae:a1):Option (aB Unit Unit):=cond (decide (ae.at_<((ae.tokens.length:Nat):Int))) (av (aI ae.at_ ae.tokens.length)<|some (.aJ (.iface 379 (.agg [.int .i64 ((avb ae.tokens (ae.at_)).mC),.int .i64 code])) ())) (P5 n ae)
def iT(text:au')(ae:a1):Option (aB Unit Int):=(kV n text ae).bind λr1=>cond (!r1.1) ((sW n 5 (⟨ae.tokens,r1.2⟩:a1)).bind λr3=>aB.on r3 (λaR bV=>some (.ret () r1.2)) (λsX bV=>some (.aJ sX r1.2))) (some (.ret () r1.2))
def mi(s:Stmt)(ae:a1):Option (aB Stmt Int):=(iT n ([59]:au') ae).bind λr1=>aB.on r1 (λr2 r3=>some (.ret (⟨s.Op,s.Name,s.Max,⟨s.A.Op,s.A.N,s.A.S,s.A.ax⟩,⟨s.B.Op,s.B.N,s.B.S,s.B.ax⟩,s.Body,s.bM⟩:Stmt) r3)) (λgl r3=>some (.aJ gl r3))
def I_(n:Nat)(ae:a1):Option (Int×Int):=cond (decide (((ae.tokens.length:Nat):Int)≤ae.at_)) (some (0,0)) (av (aI ae.at_ ae.tokens.length)<|cond (cond (!decide ((avb ae.tokens (ae.at_)).Kind=2)) (!decide ((avb ae.tokens (ae.at_)).Kind=5)) false) (some (0,0)) (cond (decide (((avb ae.tokens (ae.at_)).Text)=([111,114]:au'))) (some (1,17)) (cond (decide (((avb ae.tokens (ae.at_)).Text)=([97,110,100]:au'))) (some (2,16)) (cond (decide (((avb ae.tokens (ae.at_)).Text)=([61,61]:au'))) (some (4,10)) (cond (decide (((avb ae.tokens (ae.at_)).Text)=([33,61]:au'))) (some (4,11)) (cond (decide (((avb ae.tokens (ae.at_)).Text)=([60]:au'))) (some (4,12)) (cond (decide (((avb ae.tokens (ae.at_)).Text)=([60,61]:au'))) (some (4,13)) (cond (decide (((avb ae.tokens (ae.at_)).Text)=([62]:au'))) (some (4,14)) (cond (decide (((avb ae.tokens (ae.at_)).Text)=([62,61]:au'))) (some (4,15)) (cond (decide (((avb ae.tokens (ae.at_)).Text)=([43,43]:au'))) (some (5,19)) (cond (decide (((avb ae.tokens (ae.at_)).Text)=([43]:au'))) (some (6,4)) (cond (decide (((avb ae.tokens (ae.at_)).Text)=([45]:au'))) (some (6,5)) (cond (decide (((avb ae.tokens (ae.at_)).Text)=([42]:au'))) (some (7,6)) (cond (decide (((avb ae.tokens (ae.at_)).Text)=([47]:au'))) (some (7,7)) (cond (decide (((avb ae.tokens (ae.at_)).Text)=([37]:au'))) (some (7,8)) (some (0,0)))))))))))))))))
def Ja(n:Nat)(depth:Int)(ae:a1):Option (aB Int Unit):=some (.ret (ava (depth+1)) ())
def sY(depth:Int)(ae:a1):Option (aB Int Unit):=cond (decide (24≤depth)) ((sW n 2 ae).bind λr1=>aB.on r1 (λr2 r3=>Ja n depth ae) (λgl r3=>some (.aJ gl ()))) (Ja n depth ae)
def Jb(n:Nat)(ae:a1):avd:=av ((decide (((ae.tokens.length:Nat):Int)≤ae.at_))||aI ae.at_ ae.tokens.length)<|cond (cond (decide (((ae.tokens.length:Nat):Int)≤ae.at_)) true (!decide ((avb ae.tokens (ae.at_)).Kind=2))) (some 0) (av (aI ae.at_ ae.tokens.length)<|cond (decide (((avb ae.tokens (ae.at_)).Text)=([116,101,120,116]:au'))) (some 20) (cond (decide (((avb ae.tokens (ae.at_)).Text)=([108,101,110]:au'))) (some 21) (cond (decide (((avb ae.tokens (ae.at_)).Text)=([103,101,116,105,110,116]:au'))) (some 22) (cond (decide (((avb ae.tokens (ae.at_)).Text)=([103,101,116,115,116,114]:au'))) (some 23) (cond (decide (((avb ae.tokens (ae.at_)).Text)=([104,97,115]:au'))) (some 24) (cond (decide (((avb ae.tokens (ae.at_)).Text)=([110,111,119]:au'))) (some 25) (cond (decide (((avb ae.tokens (ae.at_)).Text)=([114,97,110,100,111,109]:au'))) (some 26) (cond (decide (((avb ae.tokens (ae.at_)).Text)=([110,111,100,101]:au'))) (some 27) (some 0)))))))))
def DE(fO:Int→Int→a1→Option (aB Expr Int))(f':Int→Int→Int→a1→Option (aB Expr Int))(gm:Int→a1→Option (aB Expr Int))(f_:Int→a1→Option (aB Expr Int))(level:Int)(depth:Int)(ae:a1)(dc:Int→Int→Int→au'→(List Expr)→Option (aB Expr Int))(v37:Int)(iS:Int)(mh:Int)(v40:au')(kC:List Expr):Option (aB Expr Int):=(I_ n (⟨ae.tokens,v37⟩:a1)).bind λhU=>cond (!decide (hU.1=level)) (some (.ret (⟨iS,mh,v40,kC⟩:Expr) v37)) ((fO (ava (level+1)) depth (⟨ae.tokens,(ava (v37+1))⟩:a1)).bind λoO=>aB.on oO (λgQ jy=>cond (decide (level=4)) (some (.ret (⟨hU.2,0,[],[⟨iS,mh,v40,kC⟩,gQ]⟩:Expr) jy)) (dc jy hU.2 0 ([]:au') ([(⟨iS,mh,v40,kC⟩:Expr),gQ]:List Expr))) (λw_ jy=>some (.aJ w_ jy)))
def uN(n:Nat)(fO:Int→Int→a1→Option (aB Expr Int))(f':Int→Int→Int→a1→Option (aB Expr Int))(gm:Int→a1→Option (aB Expr Int))(f_:Int→a1→Option (aB Expr Int))(level:Int)(depth:Int)(ae:a1):Nat→Int→Int→Int→au'→(List Expr)→Option (aB Expr Int)
 | 0=>λ_ _ _ _ _=>none
 |m+1=>DE n fO f' gm f_ level depth ae (uN n fO f' gm f_ level depth ae m)
def xa(fO:Int→Int→a1→Option (aB Expr Int))(f':Int→Int→Int→a1→Option (aB Expr Int))(gm:Int→a1→Option (aB Expr Int))(f_:Int→a1→Option (aB Expr Int))(level:Int)(depth:Int)(ae:a1):Option (aB Expr Int):=cond (decide (level=3)) ((uM n ([110,111,116]:au') ae).bind λr2=>cond r2 ((f' 18 level depth ae).bind λaR=>aB.on aR (λbV aT=>some (.ret bV aT)) (λP6 aT=>some (.aJ P6 aT))) ((fO 4 depth ae).bind λbH=>aB.on bH (λcd dj=>some (.ret cd dj)) (λP7 dj=>some (.aJ P7 dj)))) (cond (decide (level=8)) ((uM n ([45]:au') ae).bind λde=>cond de ((f' 9 level depth ae).bind λdx=>aB.on dx (λb8 df=>some (.ret b8 df)) (λlw df=>some (.aJ lw df))) ((gm depth ae).bind λeW=>aB.on eW (λdW eT=>some (.ret dW eT)) (λP8 eT=>some (.aJ P8 eT)))) ((fO (ava (level+1)) depth ae).bind λeo=>aB.on eo (λr24 fi=>uN n fO f' gm f_ level depth ae n fi r24.Op r24.N r24.S r24.ax) (λP9 fi=>some (.aJ P9 fi))))
def zZ(fO:Int→Int→a1→Option (aB Expr Int))(f':Int→Int→Int→a1→Option (aB Expr Int))(gm:Int→a1→Option (aB Expr Int))(f_:Int→a1→Option (aB Expr Int))(op:Int)(level:Int)(depth:Int)(ae:a1):Option (aB Expr Int):=(sY n depth ae).bind λr1=>aB.on r1 (λr2 r3=>(fO level r2 (⟨ae.tokens,(ava (ae.at_+1))⟩:a1)).bind λbV=>aB.on bV (λaT bO=>some (.ret (⟨op,0,[],[aT]⟩:Expr) bO)) (λjT bO=>some (.aJ jT bO))) (λgl r3=>some (.aJ gl ae.at_))
def DF(fO:Int→Int→a1→Option (aB Expr Int))(f':Int→Int→Int→a1→Option (aB Expr Int))(gm:Int→a1→Option (aB Expr Int))(f_:Int→a1→Option (aB Expr Int))(depth:Int)(r3:Int)(ae:a1)(v2:Int):Option (aB Expr Int):=(sY n depth (⟨ae.tokens,v2⟩:a1)).bind λr26=>aB.on r26 (λr27 nJ=>(f_ r27 (⟨ae.tokens,(ava (v2+1))⟩:a1)).bind λhM=>aB.on hM (λfN kW=>some (.ret (⟨r3,0,[],[fN]⟩:Expr) kW)) (λsZ kW=>some (.aJ sZ kW))) (λDG nJ=>some (.aJ DG v2))
def DH(fO:Int→Int→a1→Option (aB Expr Int))(f':Int→Int→Int→a1→Option (aB Expr Int))(gm:Int→a1→Option (aB Expr Int))(f_:Int→a1→Option (aB Expr Int))(depth:Int)(ae:a1)(v2:Int):Option (aB Expr Int):=(sY n depth (⟨ae.tokens,v2⟩:a1)).bind λcd=>aB.on cd (λdj bx=>(f_ dj (⟨ae.tokens,v2⟩:a1)).bind λde=>aB.on de (λep dx=>some (.ret ep dx)) (λs0 dx=>some (.aJ s0 dx))) (λmj bx=>some (.aJ mj v2))
def mE(fO:Int→Int→a1→Option (aB Expr Int))(f':Int→Int→Int→a1→Option (aB Expr Int))(gm:Int→a1→Option (aB Expr Int))(f_:Int→a1→Option (aB Expr Int))(depth:Int)(r3:Int)(ae:a1)(v2:Int)(aV:Bool):Option (aB Expr Int):=cond aV ((iT n ([40]:au') (⟨ae.tokens,(ava (v2+1))⟩:a1)).bind λe9=>aB.on e9 (λeW dW=>(iT n ([41]:au') (⟨ae.tokens,dW⟩:a1)).bind λdp=>aB.on dp (λeo r24=>some (.ret (⟨r3,0,[],[]⟩:Expr) r24)) (λDI r24=>some (.aJ DI r24))) (λDJ dW=>some (.aJ DJ dW))) (DF n fO f' gm f_ depth r3 ae v2)
def s3(fO:Int→Int→a1→Option (aB Expr Int))(f':Int→Int→Int→a1→Option (aB Expr Int))(gm:Int→a1→Option (aB Expr Int))(f_:Int→a1→Option (aB Expr Int))(depth:Int)(ae:a1)(v2:Int):Option (aB Expr Int):=(Jb n (⟨ae.tokens,v2⟩:a1)).bind λr3=>cond (decide (r3=0)) ((uM n ([40]:au') (⟨ae.tokens,v2⟩:a1)).bind λaR=>cond (!aR) ((sW n 5 (⟨ae.tokens,v2⟩:a1)).bind λbV=>aB.on bV (λaT bO=>DH n fO f' gm f_ depth ae v2) (λjT bO=>some (.aJ jT v2))) (DH n fO f' gm f_ depth ae v2)) (cond (decide (r3=25)) (mE n fO f' gm f_ depth r3 ae v2 (decide (r3=25))) (cond (decide (r3=26)) (mE n fO f' gm f_ depth r3 ae v2 (decide (r3=26))) (mE n fO f' gm f_ depth r3 ae v2 (decide (r3=27)))))
def xb(fO:Int→Int→a1→Option (aB Expr Int))(f':Int→Int→Int→a1→Option (aB Expr Int))(gm:Int→a1→Option (aB Expr Int))(f_:Int→a1→Option (aB Expr Int))(depth:Int)(ae:a1):Option (aB Expr Int):=cond (decide (ae.at_<((ae.tokens.length:Nat):Int))) (av (aI ae.at_ ae.tokens.length)<|cond (decide ((avb ae.tokens (ae.at_)).Kind=3)) (some (.ret (⟨1,(avb ae.tokens (ae.at_)).N,[],[]⟩:Expr) (ava (ae.at_+1)))) (cond (decide ((avb ae.tokens (ae.at_)).Kind=4)) (some (.ret (⟨2,0,(avb ae.tokens (ae.at_)).Text,[]⟩:Expr) (ava (ae.at_+1)))) (cond (decide ((avb ae.tokens (ae.at_)).Kind=1)) (some (.ret (⟨3,0,(avb ae.tokens (ae.at_)).Text,[]⟩:Expr) (ava (ae.at_+1)))) (s3 n fO f' gm f_ depth ae (ava ((ava (ae.at_+1))-1)))))) (s3 n fO f' gm f_ depth ae ae.at_)
def uO(fO:Int→Int→a1→Option (aB Expr Int))(f':Int→Int→Int→a1→Option (aB Expr Int))(gm:Int→a1→Option (aB Expr Int))(f_:Int→a1→Option (aB Expr Int))(depth:Int)(ae:a1):Option (aB Expr Int):=(iT n ([40]:au') ae).bind λr1=>aB.on r1 (λr2 r3=>(fO 1 depth (⟨ae.tokens,r3⟩:a1)).bind λbV=>aB.on bV (λaT bO=>(iT n ([41]:au') (⟨ae.tokens,bO⟩:a1)).bind λcd=>aB.on cd (λdj bx=>some (.ret aT bx)) (λmj bx=>some (.aJ mj bx))) (λjT bO=>some (.aJ jT bO))) (λgl r3=>some (.aJ gl r3))
def kX:Nat→(Int→Int→a1→Option (aB Expr Int))×(Int→Int→Int→a1→Option (aB Expr Int))×(Int→a1→Option (aB Expr Int))×(Int→a1→Option (aB Expr Int))
 | 0=>(λ_ _ _=>none,λ_ _ _ _=>none,λ_ _=>none,λ_ _=>none)
 |m+1=>(xa m ((kX m).1) ((kX m).2.1) ((kX m).2.2.1) ((kX m).2.2.2),zZ m ((kX m).1) ((kX m).2.1) ((kX m).2.2.1) ((kX m).2.2.2),xb m ((kX m).1) ((kX m).2.1) ((kX m).2.2.1) ((kX m).2.2.2),uO m ((kX m).1) ((kX m).2.1) ((kX m).2.2.1) ((kX m).2.2.2))
def fG:Int→Int→a1→Option (aB Expr Int):=(kX n).1
def jz:Int→Int→Int→a1→Option (aB Expr Int):=(kX n).2.1
def iU:Int→a1→Option (aB Expr Int):=(kX n).2.2.1
def iE:Int→a1→Option (aB Expr Int):=(kX n).2.2.2
def Jc(n:Nat)(ae:a1):Option (aB Token Int):=av (aI (ava ((ava (ae.at_+1))-1)) ae.tokens.length)<|some (.ret (avb ae.tokens (ava ((ava (ae.at_+1))-1))) (ava (ae.at_+1)))
def nL(kind:Int)(ae:a1):Option (aB Token Int):=av ((decide (((ae.tokens.length:Nat):Int)≤ae.at_))||aI ae.at_ ae.tokens.length)<|cond (cond (decide (((ae.tokens.length:Nat):Int)≤ae.at_)) true (!decide ((avb ae.tokens (ae.at_)).Kind=kind))) ((sW n 5 ae).bind λr2=>aB.on r2 (λr3 aR=>Jc n ae) (λnM aR=>some (.aJ nM ae.at_))) (Jc n ae)
def Jd(n:Nat)(hC:Int→a1→Option (aB (List Stmt) Int))(hV:Int→a1→Option (aB Stmt Int))(hW:Int→a1→Option (aB Stmt Int))(ae:a1)(v28:Int)(hT:List Stmt):Option (aB (List Stmt) Int):=some (.ret hT v28)
def Je(hC:Int→a1→Option (aB (List Stmt) Int))(hV:Int→a1→Option (aB Stmt Int))(hW:Int→a1→Option (aB Stmt Int))(depth:Int)(ae:a1)(fp:Int→(List Stmt)→Option (aB (List Stmt) Int))(cl:Int)(bZ:List Stmt):Option (aB (List Stmt) Int):=(kV n ([125]:au') (⟨ae.tokens,cl⟩:a1)).bind λdW=>cond (!dW.1) ((hV (ava (depth+1)) (⟨ae.tokens,dW.2⟩:a1)).bind λeT=>aB.on eT (λdp eo=>av (room (bZ.length+([dp]:List Stmt).length) 192)<|fp eo (bZ++([dp]:List Stmt))) (λoP eo=>some (.aJ oP eo))) (Jd n hC hV hW ae dW.2 bZ)
def uP(n:Nat)(hC:Int→a1→Option (aB (List Stmt) Int))(hV:Int→a1→Option (aB Stmt Int))(hW:Int→a1→Option (aB Stmt Int))(depth:Int)(ae:a1):Nat→Int→(List Stmt)→Option (aB (List Stmt) Int)
 | 0=>λ_ _=>none
 |m+1=>Je n hC hV hW depth ae (uP n hC hV hW depth ae m)
def DK(hC:Int→a1→Option (aB (List Stmt) Int))(hV:Int→a1→Option (aB Stmt Int))(hW:Int→a1→Option (aB Stmt Int))(depth:Int)(ae:a1):Option (aB (List Stmt) Int):=(iT n ([123]:au') ae).bind λaT=>aB.on aT (λbO bH=>uP n hC hV hW depth ae n bH ([]:List Stmt)) (λDL bH=>some (.aJ DL bH))
def DM(hC:Int→a1→Option (aB (List Stmt) Int))(hV:Int→a1→Option (aB Stmt Int))(hW:Int→a1→Option (aB Stmt Int))(depth:Int)(ae:a1):Option (aB (List Stmt) Int):=(uM n ([123]:au') ae).bind λr1=>cond (cond r1 (decide (12<depth)) false) ((sW n 2 ae).bind λr2=>aB.on r2 (λr3 aR=>DK n hC hV hW depth ae) (λnM aR=>some (.aJ nM ae.at_))) (DK n hC hV hW depth ae)
def DN(n:Nat)(hC:Int→a1→Option (aB (List Stmt) Int))(hV:Int→a1→Option (aB Stmt Int))(hW:Int→a1→Option (aB Stmt Int))(ae:a1)(lQ:Expr)(rF:(List Stmt))(Jf:Int)(Jg:List Stmt):Option (aB Stmt Int):=some (.ret (⟨5,[],0,lQ,⟨0,0,[],[]⟩,rF,Jg⟩:Stmt) Jf)
def DO(hC:Int→a1→Option (aB (List Stmt) Int))(hV:Int→a1→Option (aB Stmt Int))(hW:Int→a1→Option (aB Stmt Int))(depth:Int)(ae:a1):Option (aB Stmt Int):=(kV n ([108,101,116]:au') ae).bind λr1=>cond r1.1 ((nL n 1 (⟨ae.tokens,r1.2⟩:a1)).bind λr3=>aB.on r3 (λaR bV=>(iT n ([61]:au') (⟨ae.tokens,bV⟩:a1)).bind λbO=>aB.on bO (λbH cd=>(fG n 1 0 (⟨ae.tokens,cd⟩:a1)).bind λbx=>aB.on bx (λcq de=>(mi n (⟨1,aR.Text,0,cq,⟨0,0,[],[]⟩,[],[]⟩:Stmt) (⟨ae.tokens,de⟩:a1)).bind λdx=>aB.on dx (λb8 df=>some (.ret (⟨b8.Op,b8.Name,b8.Max,⟨b8.A.Op,b8.A.N,b8.A.S,b8.A.ax⟩,⟨b8.B.Op,b8.B.N,b8.B.S,b8.B.ax⟩,b8.Body,b8.bM⟩:Stmt) df)) (λlw df=>some (.aJ lw df))) (λs4 de=>some (.aJ s4 de))) (λDP cd=>some (.aJ DP cd))) (λsX bV=>some (.aJ sX bV))) ((kV n ([112,117,116]:au') (⟨ae.tokens,r1.2⟩:a1)).bind λeW=>cond eW.1 ((fG n 1 0 (⟨ae.tokens,eW.2⟩:a1)).bind λeT=>aB.on eT (λdp eo=>(iT n ([61]:au') (⟨ae.tokens,eo⟩:a1)).bind λfi=>aB.on fi (λr26 r27=>(fG n 1 0 (⟨ae.tokens,r27⟩:a1)).bind λfF=>aB.on fF (λhM fN=>(mi n (⟨3,[],0,dp,hM,[],[]⟩:Stmt) (⟨ae.tokens,fN⟩:a1)).bind λnI=>aB.on nI (λnN lx=>some (.ret (⟨nN.Op,nN.Name,nN.Max,⟨nN.A.Op,nN.A.N,nN.A.S,nN.A.ax⟩,⟨nN.B.Op,nN.B.N,nN.B.S,nN.B.ax⟩,nN.Body,nN.bM⟩:Stmt) lx)) (λP' lx=>some (.aJ P' lx))) (λs5 fN=>some (.aJ s5 fN))) (λs6 r27=>some (.aJ s6 r27))) (λoP eo=>some (.aJ oP eo))) ((kV n ([100,101,108,101,116,101]:au') (⟨ae.tokens,eW.2⟩:a1)).bind λoQ=>cond oQ.1 ((fG n 1 0 (⟨ae.tokens,oQ.2⟩:a1)).bind λuG=>aB.on uG (λsN lP=>(mi n (⟨4,[],0,sN,⟨0,0,[],[]⟩,[],[]⟩:Stmt) (⟨ae.tokens,lP⟩:a1)).bind λoO=>aB.on oO (λgQ jy=>some (.ret (⟨gQ.Op,gQ.Name,gQ.Max,⟨gQ.A.Op,gQ.A.N,gQ.A.S,gQ.A.ax⟩,⟨gQ.B.Op,gQ.B.N,gQ.B.S,gQ.B.ax⟩,gQ.Body,gQ.bM⟩:Stmt) jy)) (λw_ jy=>some (.aJ w_ jy))) (λs7 lP=>some (.aJ s7 lP))) ((kV n ([101,109,105,116]:au') (⟨ae.tokens,oQ.2⟩:a1)).bind λoM=>cond oM.1 ((fG n 1 0 (⟨ae.tokens,oM.2⟩:a1)).bind λIC=>aB.on IC (λDd qu=>(mi n (⟨7,[],0,Dd,⟨0,0,[],[]⟩,[],[]⟩:Stmt) (⟨ae.tokens,qu⟩:a1)).bind λzW=>aB.on zW (λlv DQ=>some (.ret (⟨lv.Op,lv.Name,lv.Max,⟨lv.A.Op,lv.A.N,lv.A.S,lv.A.ax⟩,⟨lv.B.Op,lv.B.N,lv.B.S,lv.B.ax⟩,lv.Body,lv.bM⟩:Stmt) DQ)) (λP_ DQ=>some (.aJ P_ DQ))) (λQa qu=>some (.aJ Qa qu))) ((kV n ([97,98,111,114,116]:au') (⟨ae.tokens,oM.2⟩:a1)).bind λJh=>cond Jh.1 ((nL n 3 (⟨ae.tokens,Jh.2⟩:a1)).bind λnO=>aB.on nO (λJi xc=>(mi n (⟨8,[],Ji.N,⟨0,0,[],[]⟩,⟨0,0,[],[]⟩,[],[]⟩:Stmt) (⟨ae.tokens,xc⟩:a1)).bind λwX=>aB.on wX (λkY uF=>some (.ret (⟨kY.Op,kY.Name,kY.Max,⟨kY.A.Op,kY.A.N,kY.A.S,kY.A.ax⟩,⟨kY.B.Op,kY.B.N,kY.B.S,kY.B.ax⟩,kY.Body,kY.bM⟩:Stmt) uF)) (λQb uF=>some (.aJ Qb uF))) (λQc xc=>some (.aJ Qc xc))) ((kV n ([105,102]:au') (⟨ae.tokens,Jh.2⟩:a1)).bind λJj=>cond Jj.1 ((fG n 1 0 (⟨ae.tokens,Jj.2⟩:a1)).bind λQd=>aB.on Qd (λlQ s8=>(hC depth (⟨ae.tokens,s8⟩:a1)).bind λQe=>aB.on Qe (λrF s9=>(kV n ([101,108,115,101]:au') (⟨ae.tokens,s9⟩:a1)).bind λuQ=>cond uQ.1 ((hC depth (⟨ae.tokens,uQ.2⟩:a1)).bind λQf=>aB.on Qf (λJk s'=>DN n hC hV hW ae lQ rF s' Jk) (λDR s'=>some (.aJ DR s'))) (DN n hC hV hW ae lQ rF uQ.2 ([]:List Stmt))) (λDS s9=>some (.aJ DS s9))) (λDT s8=>some (.aJ DT s8))) ((kV n ([102,111,114]:au') (⟨ae.tokens,Jj.2⟩:a1)).bind λJl=>cond Jl.1 ((hW depth (⟨ae.tokens,Jl.2⟩:a1)).bind λajp=>aB.on ajp (λnP DU=>some (.ret (⟨nP.Op,nP.Name,nP.Max,⟨nP.A.Op,nP.A.N,nP.A.S,nP.A.ax⟩,⟨nP.B.Op,nP.B.N,nP.B.S,nP.B.ax⟩,nP.Body,nP.bM⟩:Stmt) DU)) (λQg DU=>some (.aJ Qg DU))) ((nL n 1 (⟨ae.tokens,Jl.2⟩:a1)).bind λzw=>aB.on zw (λwV DV=>(iT n ([61]:au') (⟨ae.tokens,DV⟩:a1)).bind λajq=>aB.on ajq (λIx DW=>(fG n 1 0 (⟨ae.tokens,DW⟩:a1)).bind λajr=>aB.on ajr (λYi DX=>(mi n (⟨2,wV.Text,0,Yi,⟨0,0,[],[]⟩,[],[]⟩:Stmt) (⟨ae.tokens,DX⟩:a1)).bind λajs=>aB.on ajs (λnQ uE=>some (.ret (⟨nQ.Op,nQ.Name,nQ.Max,⟨nQ.A.Op,nQ.A.N,nQ.A.S,nQ.A.ax⟩,⟨nQ.B.Op,nQ.B.N,nQ.B.S,nQ.B.ax⟩,nQ.Body,nQ.bM⟩:Stmt) uE)) (λQh uE=>some (.aJ Qh uE))) (λQi DX=>some (.aJ Qi DX))) (λQj DW=>some (.aJ Qj DW))) (λQk DV=>some (.aJ Qk DV)))))))))
def DY(hC:Int→a1→Option (aB (List Stmt) Int))(hV:Int→a1→Option (aB Stmt Int))(hW:Int→a1→Option (aB Stmt Int))(depth:Int)(ae:a1):Option (aB Stmt Int):=(nL n 1 ae).bind λr1=>aB.on r1 (λr2 r3=>(iT n ([61]:au') (⟨ae.tokens,r3⟩:a1)).bind λbV=>aB.on bV (λaT bO=>(fG n 1 0 (⟨ae.tokens,bO⟩:a1)).bind λcd=>aB.on cd (λdj bx=>(iT n ([116,111]:au') (⟨ae.tokens,bx⟩:a1)).bind λde=>aB.on de (λep dx=>(fG n 1 0 (⟨ae.tokens,dx⟩:a1)).bind λdf=>aB.on df (λe9 eW=>(iT n ([109,97,120]:au') (⟨ae.tokens,eW⟩:a1)).bind λeT=>aB.on eT (λdp eo=>(nL n 3 (⟨ae.tokens,eo⟩:a1)).bind λfi=>aB.on fi (λr26 r27=>(hC depth (⟨ae.tokens,r27⟩:a1)).bind λfF=>aB.on fF (λhM fN=>some (.ret (⟨6,r2.Text,r26.N,dj,e9,hM,[]⟩:Stmt) fN)) (λs5 fN=>some (.aJ s5 fN))) (λs6 r27=>some (.aJ s6 r27))) (λoP eo=>some (.aJ oP eo))) (λQl eW=>some (.aJ Ql eW))) (λs0 dx=>some (.aJ s0 dx))) (λmj bx=>some (.aJ mj bx))) (λjT bO=>some (.aJ jT bO))) (λgl r3=>some (.aJ gl r3))
def pG:Nat→(Int→a1→Option (aB (List Stmt) Int))×(Int→a1→Option (aB Stmt Int))×(Int→a1→Option (aB Stmt Int))
 | 0=>(λ_ _=>none,λ_ _=>none,λ_ _=>none)
 |m+1=>(DM m ((pG m).1) ((pG m).2.1) ((pG m).2.2),DO m ((pG m).1) ((pG m).2.1) ((pG m).2.2),DY m ((pG m).1) ((pG m).2.1) ((pG m).2.2))
def nR:Int→a1→Option (aB (List Stmt) Int):=(pG n).1
def rG:Int→a1→Option (aB Stmt Int):=(pG n).2.1
def qv:Int→a1→Option (aB Stmt Int):=(pG n).2.2
def z1(n:Nat)(ae:a1)(r2:Token)(cW:Int)(aV:Int):Option (aB Param Int):=some (.ret (⟨r2.Text,aV⟩:Param) cW)
def z6(ae:a1):Option (aB Param Int):=(nL n 1 ae).bind λr1=>aB.on r1 (λr2 r3=>(iT n ([58]:au') (⟨ae.tokens,r3⟩:a1)).bind λbV=>aB.on bV (λaT bO=>(kV n ([105,110,116]:au') (⟨ae.tokens,bO⟩:a1)).bind λcd=>cond cd.1 (z1 n ae r2 cd.2 1) ((kV n ([115,116,114]:au') (⟨ae.tokens,cd.2⟩:a1)).bind λdj=>cond dj.1 (z1 n ae r2 dj.2 2) ((kV n ([98,111,111,108]:au') (⟨ae.tokens,dj.2⟩:a1)).bind λbx=>cond bx.1 (z1 n ae r2 bx.2 3) ((sW n 5 (⟨ae.tokens,bx.2⟩:a1)).bind λcq=>aB.on cq (λde ep=>z1 n ae r2 bx.2 0) (λQm ep=>some (.aJ Qm bx.2)))))) (λjT bO=>some (.aJ jT bO))) (λgl r3=>some (.aJ gl r3))
def uR(ae:a1)(aT:Token)(Jm:Int)(Jn:List Param):Option (aB bb Int):=(nR n 0 (⟨ae.tokens,Jm⟩:a1)).bind λjy=>aB.on jy (λDc oM=>some (.ret (⟨aT.Text,Jn,Dc⟩:bb) oM)) (λQn oM=>some (.aJ Qn oM))
def Jo(ae:a1)(aT:Token)(v37:Int)(iS:List Param):Option (aB bb Int):=(iT n ([41]:au') (⟨ae.tokens,v37⟩:a1)).bind λuG=>aB.on uG (λsN lP=>uR n ae aT lP iS) (λs7 lP=>some (.aJ s7 lP))
def Jp(ae:a1)(aT:Token)(fp:Int→(List Param)→Option (aB bb Int))(nK:Int)(v28:List Param):Option (aB bb Int):=(kV n ([44]:au') (⟨ae.tokens,nK⟩:a1)).bind λfF=>cond fF.1 ((z6 n (⟨ae.tokens,fF.2⟩:a1)).bind λhM=>aB.on hM (λfN kW=>av (room (v28.length+([fN]:List Param).length) 24)<|fp kW (v28++([fN]:List Param))) (λsZ kW=>some (.aJ sZ kW))) (Jo n ae aT fF.2 v28)
def uS(n:Nat)(ae:a1)(aT:Token):Nat→Int→(List Param)→Option (aB bb Int)
 | 0=>λ_ _=>none
 |m+1=>Jp n ae aT (uS n ae aT m)
def rH(ae:a1):Option (aB bb Int):=(iT n ([112,114,111,99]:au') ae).bind λr1=>aB.on r1 (λr2 r3=>(nL n 1 (⟨ae.tokens,r3⟩:a1)).bind λbV=>aB.on bV (λaT bO=>(iT n ([40]:au') (⟨ae.tokens,bO⟩:a1)).bind λcd=>aB.on cd (λdj bx=>(kV n ([41]:au') (⟨ae.tokens,bx⟩:a1)).bind λde=>cond (!de.1) ((z6 n (⟨ae.tokens,de.2⟩:a1)).bind λep=>aB.on ep (λdx b8=>av (room (([]:List Param).length+([dx]:List Param).length) 24)<|uS n ae aT n b8 (([]:List Param)++([dx]:List Param))) (λQo b8=>some (.aJ Qo b8))) (uR n ae aT de.2 ([]:List Param))) (λmj bx=>some (.aJ mj bx))) (λjT bO=>some (.aJ jT bO))) (λgl r3=>some (.aJ gl r3))
def Jq(ae:a1)(fM:bb):Option (aB Unit (Int×au'×(List Param)×(List Stmt))):=(rH n ae).bind λr1=>aB.on r1 (λr2 r3=>some (.ret () (r3,r2.Name,r2.Params,r2.Body))) (λgl r3=>some (.aJ gl (r3,fM.Name,fM.Params,fM.Body)))
def Yj(n:Nat)(ae:a1):Option (aB Unit Unit):=av (aI (ava (((ae.tokens.length:Nat):Int)-1)) ae.tokens.length)<|some (.aJ (.iface 379 (.agg [.int .i64 ((avb ae.tokens (ava (((ae.tokens.length:Nat):Int)-1))).mC),.int .i64 6])) ())
def Yk(ae:a1):Option (aB Unit Unit):=cond (decide (((ae.tokens.length:Nat):Int)=0)) (some (.aJ (.iface 379 (.agg [.int .i64 1,.int .i64 6])) ())) (Yj n ae)
def Jr(code:Int)(ae:a1):Option (aB Unit Unit):=cond (decide (ae.at_<((ae.tokens.length:Nat):Int))) (av (aI ae.at_ ae.tokens.length)<|some (.aJ (.iface 379 (.agg [.int .i64 ((avb ae.tokens (ae.at_)).mC),.int .i64 code])) ())) (Yk n ae)
def DZ(src:au')(ae:bb):Option (Int×Int×au'×(List Param)×(List Stmt)):=(I' n src).bind λr1=>cond (!decide (r1.2.2=0)) (some (r1.2.1,r1.2.2,ae.Name,ae.Params,ae.Body)) ((Jq n (⟨r1.1,0⟩:a1) ae).bind λr2=>aB.on r2 (λcL nS=>cond (decide (nS.1<((r1.1.length:Nat):Int))) ((Jr n 5 (⟨r1.1,nS.1⟩:a1)).bind λr3=>aB.on r3 (λcP Qp=>none) (λeX Qp=>(Cp 379 eX).bind λlc=>some (lc.1,lc.2,nS.2.1,nS.2.2.1,nS.2.2.2))) (some (0,0,nS.2.1,nS.2.2.1,nS.2.2.2))) (λeX nS=>(Cp 379 eX).bind λlc=>some (lc.1,lc.2,nS.2.1,nS.2.2.1,nS.2.2.2)))
def qw(n:Nat)(r1:Int×Int×au'×(List Param)×(List Stmt))(v3:Int):Option (bb×Int×Int):=cond (!decide (v3=0)) (some ((⟨[],[],[]⟩:bb),r1.1,v3)) (some ((⟨r1.2.2.1,r1.2.2.2.1,r1.2.2.2.2⟩:bb),0,0))
def z7(src:au'):Option (bb×Int×Int):=(DZ n src (⟨[],[],[]⟩:bb)).bind λr1=>cond (decide (r1.2.1=0)) ((CX n (⟨r1.2.2.1,r1.2.2.2.1,r1.2.2.2.2⟩:bb)).bind λr2=>qw n r1 r2) (qw n r1 r1.2.1)
def Qq(n:Nat)(br:List bb):Option ((List bb)×Bool):=some (br,true)
def Js(l:List au')(aj:Int→(List bb)→Option ((List bb)×Bool))(bp:Int)(bm:List bb):Option ((List bb)×Bool):=cond (decide (bp<((l.length:Nat):Int))) (av (aI bp l.length)<|(z7 n (avb l bp)).bind λdj=>Option.bind (cond (!(!decide (dj.2.2=0))) (uC n dj.1) (some default)) λbx=>cond (cond (!decide (dj.2.2=0)) true (!(decide (bx=(avb l bp))))) (some (([]:List bb),false)) (av (room (bm.length+([dj.1]:List bb).length) 64)<|aj (ava (bp+1)) (bm++([dj.1]:List bb)))) (Qq n bm)
def z8(n:Nat)(l:List au'):Nat→Int→(List bb)→Option ((List bb)×Bool)
 | 0=>λ_ _=>none
 |m+1=>Js n l (z8 n l m)
def Jt(l:List au'):Option ((List bb)×Bool):=z8 n l n 0 ([]:List bb)
def Qr(n:Nat)(l:List bg):avc:=some (decide (((l.length:Nat):Int)≤32))
def Ju(l:List bg)(aj:Int→avc)(v5:Int):avc:=cond (decide (v5<((l.length:Nat):Int))) (av (aI v5 l.length)<|(wJ n ((avb l v5).Key)).bind λbO=>av ((cond (cond (!bO) true (decide ((avb l v5).Count<1))) true (decide (1099511627776<(avb l v5).Count)))||(!(decide (0<v5))||aI (ava (v5-1)) l.length))<|cond (cond (cond (cond (!bO) true (decide ((avb l v5).Count<1))) true (decide (1099511627776<(avb l v5).Count))) true (cond (decide (0<v5)) (!(Op.bytesLess ((avb l (ava (v5-1))).Key) ((avb l v5).Key))) false)) (some false) (aj (ava (v5+1)))) (Qr n l)
def z'(n:Nat)(l:List bg):Nat→Int→avc
 | 0=>λ_=>none
 |m+1=>Ju n l (z' n l m)
def Jv(l:List bg):avc:=z' n l n 0
def Qs(n:Nat):avc:=some true
def Jw(l:List bb)(aj:Int→avc)(v6:Int):avc:=cond (decide (v6<((l.length:Nat):Int))) (av (aI v6 l.length)<|(uC n (avb l v6)).bind λbH=>av ((cond (decide (bH=([]:au'))) true (decide (16384<((bH.length:Nat):Int))))||(!(decide (0<v6))||aI (ava (v6-1)) l.length))<|cond (cond (cond (decide (bH=([]:au'))) true (decide (16384<((bH.length:Nat):Int)))) true (cond (decide (0<v6)) ((Op.bytesLess ((avb l v6).Name) ((avb l (ava (v6-1))).Name))||(decide (((avb l v6).Name)=((avb l (ava (v6-1))).Name)))) false)) (some false) (aj (ava (v6+1)))) (Qs n)
def z_(n:Nat)(l:List bb):Nat→Int→avc
 | 0=>λ_=>none
 |m+1=>Jw n l (z_ n l m)
def Jx(l:List bb):avc:=cond (decide (16<((l.length:Nat):Int))) (some false) (z_ n l n 0)
def Qt(ah:bN):avc:=(uD n ah.cp).bind λbx=>Option.bind (cond bx (Dm n ah.Place) (some default)) λcq=>Option.bind (cond (cond bx cq false) (Jv n ah.bg) (some default)) λde=>some (cond (cond bx cq false) de false)
def Jy(ah:bN)(aj:Int→avc)(bp:Int):avc:=cond (decide (bp<((ah.Queue.length:Nat):Int))) (av (aI bp ah.Queue.length)<|(rx n (⟨(avb ah.Queue bp).Client,(avb ah.Queue bp).Seq,(avb ah.Queue bp).bb,(avb ah.Queue bp).ax,(avb ah.Queue bp).fE,⟨((avb ah.Queue bp).bU).fh,((avb ah.Queue bp).bU).Reads,((avb ah.Queue bp).bU).dI⟩⟩:Request)).bind λcd=>cond (!decide (cd=0)) (some false) (aj (ava (bp+1)))) (Qt n ah)
def xd(n:Nat)(ah:bN):Nat→Int→avc
 | 0=>λ_=>none
 |m+1=>Jy n ah (xd n ah m)
def Aa(ah:bN):avc:=Option.bind (cond (!(cond (decide (ah.Pos<0)) true (decide (1099511627776<ah.Pos)))) (uz n ah.aw) (some default)) λr1=>Option.bind (cond (!(cond (cond (cond (decide (ah.Pos<0)) true (decide (1099511627776<ah.Pos))) true (!r1)) true (!decide (ah.aw.bv=ah.Pos)))) (Jx n ah.cj) (some default)) λr2=>cond (cond (cond (cond (cond (cond (decide (ah.Pos<0)) true (decide (1099511627776<ah.Pos))) true (!r1)) true (!decide (ah.aw.bv=ah.Pos))) true (!r2)) true (decide (64<((ah.Queue.length:Nat):Int)))) (some false) (xd n ah n 0)
def Qu(n:Nat)(at_:Int)(b0:List Row):Option (aw×Int):=some ((⟨at_,at_,b0⟩:aw),0)
def Jz(at_:Int)(l:List aU)(aj:(List Row)→Int→Option (aw×Int))(bp:List Row)(bm:Int):Option (aw×Int):=cond (decide (bm<((l.length:Nat):Int))) (av (aI bm l.length)<|av (room (bp.length+([(⟨(avb l bm).Key,[⟨at_,⟨((avb l bm).bj).Kind,((avb l bm).bj).N,((avb l bm).bj).S⟩⟩]⟩:Row)]:List Row).length) 40)<|aj (bp++([(⟨(avb l bm).Key,[⟨at_,⟨((avb l bm).bj).Kind,((avb l bm).bj).N,((avb l bm).bj).S⟩⟩]⟩:Row)]:List Row)) (ava (bm+1))) (Qu n at_ bp)
def Ac(n:Nat)(at_:Int)(l:List aU):Nat→(List Row)→Int→Option (aw×Int)
 | 0=>λ_ _=>none
 |m+1=>Jz n at_ l (Ac n at_ l m)
def Ad(l:List aU)(at_:Int):Option (aw×Int):=(Dg n l).bind λr1=>cond (cond (cond (!r1) true (decide (at_<0))) true (decide (1099511627776<at_))) (some ((⟨0,0,[]⟩:aw),1)) (Ac n at_ l n ([]:List Row) 0)
def rI(s:au'):Option (bN×Int):=(Dy n (⟨s,0,0⟩:fw)).bind λr1=>cond (!decide (r1.2.2=0)) (some ((⟨0,⟨0,0,[]⟩,[],[],⟨0,[]⟩,[],[],0⟩:bN),r1.2.2)) (cond (cond (cond (!decide (r1.2.1=((s.length:Nat):Int))) true (decide (r1.1.gi.Pos<0))) true (decide (1099511627776<r1.1.gi.Pos))) (some ((⟨0,⟨0,0,[]⟩,[],[],⟨0,[]⟩,[],[],0⟩:bN),5)) ((Jt n r1.1.sources).bind λaR=>cond (!aR.2) (some ((⟨0,⟨0,0,[]⟩,[],[],⟨0,[]⟩,[],[],0⟩:bN),5)) ((Ad n r1.1.Ox r1.1.gi.Pos).bind λaT=>cond (!decide (aT.2=0)) (some ((⟨0,⟨0,0,[]⟩,[],[],⟨0,[]⟩,[],[],0⟩:bN),5)) ((Aa n (⟨r1.1.gi.Pos,aT.1,aR.1,r1.1.gi.cp,r1.1.gi.Place,r1.1.gi.bg,r1.1.gi.Queue,r1.1.gi.cz⟩:bN)).bind λbH=>cond (!bH) (some ((⟨0,⟨0,0,[]⟩,[],[],⟨0,[]⟩,[],[],0⟩:bN),5)) (some ((⟨r1.1.gi.Pos,aT.1,aR.1,r1.1.gi.cp,r1.1.gi.Place,r1.1.gi.bg,r1.1.gi.Queue,r1.1.gi.cz⟩:bN),0))))))
def JA(ah:bN):Option (bN×Int):=(Aa n ah).bind λr1=>cond (!r1) (some ((⟨0,⟨0,0,[]⟩,[],[],⟨0,[]⟩,[],[],0⟩:bN),1)) ((Df n ah).bind λr3=>(rI n r3).bind λaR=>some (aR.1,aR.2))
def D0(ah:bN):Option (dw×Int):=(JA n ah).bind λr1=>cond (!decide (r1.2=0)) (some ((⟨0,⟨0,⟨0,0,[]⟩,[],[],⟨0,[]⟩,[],[],0⟩,[],false,[],[]⟩:dw),1)) (some ((⟨ah.Pos,⟨ah.Pos,⟨0,0,[]⟩,ah.cj,ah.cp,ah.Place,ah.bg,ah.Queue,ah.cz⟩,[],false,[],[]⟩:dw),0))
def D1(ah:bN):Option (au'×Int):=(Aa n ah).bind λr1=>cond (!r1) (some (([]:au'),1)) ((Df n ah).bind λr3=>cond (decide (16384<((r3.length:Nat):Int))) (some (([]:au'),2)) (some (r3,0)))
def D2(n:Nat)(ca:List Int):avd:=some ((ca.length:Nat):Int)
def Qv(c:dw)(v24:List Int):Option (au'×Int×Int):=(D2 n v24).bind λfi=>cond (cond (decide (16384<fi)) true (decide ((ava (1099511627776-c.cg))<((c.dD.length:Nat):Int)))) (some (([]:au'),0,2)) ((rz n v24).bind λr27=>some (r27.1,(ava (c.cg+((c.dD.length:Nat):Int))),0))
def Qw(c:dw)(aj:(List Int)→Int→Option (au'×Int×Int))(cW:List Int)(aV:Int):Option (au'×Int×Int):=cond (decide (aV<((c.dD.length:Nat):Int))) (av (aI aV c.dD.length)<|Option.bind (cond (!(decide (4096<(((avb c.dD aV).length:Nat):Int)))) (D2 n cW) (some default)) λeW=>cond (cond (decide (4096<(((avb c.dD aV).length:Nat):Int))) true (decide (16384<eW))) (some (([]:au'),0,2)) ((oJ n (avb c.dD aV)).bind λdW=>(jS n dW cW).bind λeT=>aj eT.2 (ava (aV+1)))) (Qv n c cW)
def Ae(n:Nat)(c:dw):Nat→(List Int)→Int→Option (au'×Int×Int)
 | 0=>λ_ _=>none
 |m+1=>Qw n c (Ae n c m)
def xe(c:dw):Option (au'×Int×Int):=cond (!c.dQ) (some (([]:au'),0,16)) ((Ad n c.e_ c.cg).bind λr2=>cond (!decide (r2.2=0)) (some (([]:au'),0,r2.2)) ((D1 n (⟨c.Rest.Pos,r2.1,c.Rest.cj,c.Rest.cp,c.Rest.Place,c.Rest.bg,c.Rest.Queue,c.Rest.cz⟩:bN)).bind λaR=>cond (!decide (aR.2=0)) (some (([]:au'),0,aR.2)) ((oJ n aR.1).bind λaT=>(hL n (IntKind.u64.wrap ((c.dD.length:Nat):Int))).bind λbO=>av (b5 (aT.length+bO.length))<|(jS n (aT++bO) ([]:List Int)).bind λcd=>Ae n c n cd.2 0)))
def JB(n:Nat)(s:List aU):Option (List aU):=av (room (([]:List aU).length+s.length) 48)<|some (([]:List aU)++s)
def JC(n:Nat)(s:List au'):Option (List au'):=av (room (([]:List au').length+s.length) 16)<|some (([]:List au')++s)
def D3(c:dw):Option dw:=(JB n c.e_).bind λr1=>(JC n c.dD).bind λr2=>some (⟨c.cg,c.Rest,c.Next,c.dQ,r1,r2⟩:dw)
def Af(c:dw)(data:au'):Option dw:=(D3 n c).bind λr1=>av (room (r1.dD.length+([data]:List au').length) 16)<|some (⟨r1.cg,r1.Rest,r1.Next,r1.dQ,r1.e_,(r1.dD++([data]:List au'))⟩:dw)
def Qx(n:Nat)(r1:au'×Int×Int)(ae:au')(v2:Int):Option (au'×Int×Int):=some (r1.1,r1.2.2,v2)
def xf(most:Int)(ae:au')(fM:Int):Option (au'×Int×Int):=(sP n ae fM most).bind λr1=>cond (decide (r1.2.2=0)) (Qx n r1 ae r1.2.1) (Qx n r1 ae fM)
def oR(s:au'):Option (bN×Int):=cond (decide (16384<((s.length:Nat):Int))) (some ((⟨0,⟨0,0,[]⟩,[],[],⟨0,[]⟩,[],[],0⟩:bN),2)) ((rI n s).bind λr2=>some (r2.1,r2.2))
def JD(n:Nat)(aT:Int×Int×Int)(s:au')(aR:bN×Int)(v21:Int)(v22:List au'):Option (bN×(List au')×Int):=cond (cond (!decide (v21=((s.length:Nat):Int))) true (decide ((ava (1099511627776-aR.1.Pos))<aT.1))) (some ((⟨0,⟨0,0,[]⟩,[],[],⟨0,[]⟩,[],[],0⟩:bN),([]:List au'),5)) (some (aR.1,v22,0))
def JE(aT:Int×Int×Int)(s:au')(aR:bN×Int)(aj:Int→(List au')→Int→Option (bN×(List au')×Int))(b0:Int)(bL:List au')(br:Int):Option (bN×(List au')×Int):=cond (decide (br<aT.1)) ((xf n 4096 s b0).bind λb8=>cond (!decide (b8.2.1=0)) (some ((⟨0,⟨0,0,[]⟩,[],[],⟨0,[]⟩,[],[],0⟩:bN),([]:List au'),b8.2.1)) (av (room (bL.length+([b8.1]:List au').length) 16)<|aj b8.2.2 (bL++([b8.1]:List au')) (ava (br+1)))) (JD n aT s aR b0 bL)
def xg(n:Nat)(aT:Int×Int×Int)(s:au')(aR:bN×Int):Nat→Int→(List au')→Int→Option (bN×(List au')×Int)
 | 0=>λ_ _ _=>none
 |m+1=>JE n aT s aR (xg n aT s aR m)
def D4(s:au'):Option (bN×(List au')×Int):=cond (decide (16384<((s.length:Nat):Int))) (some ((⟨0,⟨0,0,[]⟩,[],[],⟨0,[]⟩,[],[],0⟩:bN),([]:List au'),2)) ((xf n 16384 s 0).bind λr2=>cond (!decide (r2.2.1=0)) (some ((⟨0,⟨0,0,[]⟩,[],[],⟨0,[]⟩,[],[],0⟩:bN),([]:List au'),r2.2.1)) ((oR n r2.1).bind λaR=>cond (!decide (aR.2=0)) (some ((⟨0,⟨0,0,[]⟩,[],[],⟨0,[]⟩,[],[],0⟩:bN),([]:List au'),aR.2)) ((oN n s r2.2.2 16384).bind λaT=>cond (!decide (aT.2.2=0)) (some ((⟨0,⟨0,0,[]⟩,[],[],⟨0,[]⟩,[],[],0⟩:bN),([]:List au'),aT.2.2)) (xg n aT s aR n aT.2.1 ([]:List au') 0))))
def Qy(n:Nat)(c:Int):avc:=some (cond (decide (33≤c)) (decide (c≤126)) false)
def Qz(n:Nat):avc:=some true
def JF(s:au')(aj:Int→avc)(v5:Int):avc:=cond (decide (v5<((s.length:Nat):Int))) (av (aI v5 s.length)<|(Qy n (((s.getD (v5).toNat 0).toNat:Nat):Int)).bind λbO=>cond (!bO) (some false) (aj (ava (v5+1)))) (Qz n)
def Ag(n:Nat)(s:au'):Nat→Int→avc
 | 0=>λ_=>none
 |m+1=>JF n s (Ag n s m)
def QA(s:au'):avc:=cond (decide (24<((s.length:Nat):Int))) (some false) (Ag n s n 0)
def D5(s:au'):avc:=(QA n s).bind λr1=>some r1
def Ah(ah:Range):avc:=(D5 n ah.es).bind λr1=>Option.bind (cond r1 (D5 n ah.pB) (some default)) λr2=>some (cond (cond r1 r2 false) (cond (decide (ah.pB=([]:au'))) true (!((Op.bytesLess ah.pB ah.es)||(decide (ah.pB=ah.es))))) false)
def JG(ah:Range)(k:au'):avc:=(Ah n ah).bind λr1=>some (cond (cond r1 ((Op.bytesLess ah.es k)||(decide (ah.es=k))) false) (cond (decide (ah.pB=([]:au'))) true (Op.bytesLess k ah.pB)) false)
def QB(n:Nat)(bZ:List aU):Option ((List aU)×au'×Int):=some (bZ,([]:au'),0)
def D6(n:Nat)(aj:(List aU)→Int→Option ((List aU)×au'×Int))(most:Int)(r3:(List aU)×Int)(v12:Int)(ah:Range)(cW:List aU):Option ((List aU)×au'×Int):=aj cW (ava (v12+1))
def QC(most:Int)(r3:(List aU)×Int)(ah:Range)(aj:(List aU)→Int→Option ((List aU)×au'×Int))(v11:List aU)(v12:Int):Option ((List aU)×au'×Int):=cond (decide (v12<((r3.1.length:Nat):Int))) (av (aI v12 r3.1.length)<|(JG n ah ((avb r3.1 v12).Key)).bind λep=>cond (!ep) (D6 n aj most r3 v12 ah v11) (cond (decide (most≤((v11.length:Nat):Int))) (some (v11,(avb r3.1 v12).Key,0)) (av (room (v11.length+([(⟨(avb r3.1 v12).Key,⟨((avb r3.1 v12).bj).Kind,((avb r3.1 v12).bj).N,((avb r3.1 v12).bj).S⟩⟩:aU)]:List aU).length) 48)<|D6 n aj most r3 v12 ah (v11++([(⟨(avb r3.1 v12).Key,⟨((avb r3.1 v12).bj).Kind,((avb r3.1 v12).bj).N,((avb r3.1 v12).bj).S⟩⟩:aU)]:List aU))))) (QB n v11)
def D7(n:Nat)(most:Int)(r3:(List aU)×Int)(ah:Range):Nat→(List aU)→Int→Option ((List aU)×au'×Int)
 | 0=>λ_ _=>none
 |m+1=>QC n most r3 ah (D7 n most r3 ah m)
def JH(s:aw)(at_:Int)(ah:Range)(most:Int):Option ((List aU)×au'×Int):=(Ah n ah).bind λr1=>cond (!r1) (some (([]:List aU),([]:au'),1)) ((uA n s at_).bind λr3=>cond (!decide (r3.2=0)) (some (([]:List aU),([]:au'),r3.2)) (D7 n most r3 ah n ([]:List aU) 0))
def xh(c:dw)(s:aw)(dK:Int):Option (dw×Int):=Option.bind (cond (!(decide (dK<1))) (uz n s) (some default)) λr1=>Option.bind (cond (!(cond (decide (dK<1)) true (!r1))) (Ah n (⟨c.Next,[]⟩:Range)) (some default)) λr2=>cond (cond (cond (decide (dK<1)) true (!r1)) true (!r2)) (some ((⟨0,⟨0,⟨0,0,[]⟩,[],[],⟨0,[]⟩,[],[],0⟩,[],false,[],[]⟩:dw),1)) ((D3 n c).bind λaR=>cond c.dQ (some (aR,0)) ((JH n s c.cg (⟨c.Next,[]⟩:Range) dK).bind λaT=>cond (!decide (aT.2.2=0)) (some ((⟨0,⟨0,⟨0,0,[]⟩,[],[],⟨0,[]⟩,[],[],0⟩,[],false,[],[]⟩:dw),aT.2.2)) (av (room (aR.e_.length+aT.1.length) 48)<|some ((⟨aR.cg,aR.Rest,aT.2.1,(decide (aT.2.1=([]:au'))),(aR.e_++aT.1),aR.dD⟩:dw),0))))
def JI(n:Nat)(k:au'):Option aU:=some (⟨k,⟨1,1,[]⟩⟩:aU)
def Yl(n:Nat):avc:=some true
def QD(s:au')(aj:Int→avc)(v5:Int):avc:=cond (decide (v5<((s.length:Nat):Int))) (av (aI v5 s.length)<|av ((decide ((((s.getD (v5).toNat 0).toNat:Nat):Int)<32))||aI v5 s.length)<|cond (cond (decide ((((s.getD (v5).toNat 0).toNat:Nat):Int)<32)) true (decide (126<(((s.getD (v5).toNat 0).toNat:Nat):Int)))) (some false) (aj (ava (v5+1)))) (Yl n)
def D8(n:Nat)(s:au'):Nat→Int→avc
 | 0=>λ_=>none
 |m+1=>QD n s (D8 n s m)
def JJ(s:au'):avc:=cond (decide (64<((s.length:Nat):Int))) (some false) (D8 n s n 0)
def xi(v:bz):avc:=cond (decide (v.Kind=0)) (some (cond (decide (v.N=0)) (decide (v.S=([]:au'))) false)) (cond (decide (v.Kind=1)) (some (decide (v.S=([]:au')))) (Option.bind (cond (cond (decide (v.Kind=2)) (decide (v.N=0)) false) (JJ n v.S) (some default)) λr3=>some (cond (cond (decide (v.Kind=2)) (decide (v.N=0)) false) r3 false)))
def QE(n:Nat)(k:au'):avc:=some (cond (decide (1≤((k.length:Nat):Int))) (decide (((k.length:Nat):Int)≤24)) false)
def JK(k:au')(aj:Int→avc)(v3:Int):avc:=cond (decide (v3<((k.length:Nat):Int))) (av (aI v3 k.length)<|cond (cond (cond (cond (cond (cond (cond (decide ((((k.getD (v3).toNat 0).toNat:Nat):Int)<97)) true (decide (122<(((k.getD (v3).toNat 0).toNat:Nat):Int)))) (cond (decide ((((k.getD (v3).toNat 0).toNat:Nat):Int)<48)) true (decide (57<(((k.getD (v3).toNat 0).toNat:Nat):Int)))) false) (!decide ((((k.getD (v3).toNat 0).toNat:Nat):Int)=47)) false) (!decide ((((k.getD (v3).toNat 0).toNat:Nat):Int)=46)) false) (!decide ((((k.getD (v3).toNat 0).toNat:Nat):Int)=95)) false) (!decide ((((k.getD (v3).toNat 0).toNat:Nat):Int)=45)) false) (some false) (aj (ava (v3+1)))) (QE n k)
def Ai(n:Nat)(k:au'):Nat→Int→avc
 | 0=>λ_=>none
 |m+1=>JK n k (Ai n k m)
def xj(k:au'):avc:=Ai n k n 0
def QF(n:Nat):avc:=some true
def JL(l:List aU)(aj:Int→avc)(v6:Int):avc:=cond (decide (v6<((l.length:Nat):Int))) (av (aI v6 l.length)<|(xj n ((avb l v6).Key)).bind λbH=>av ((!bH)||(!(decide (0<v6))||aI v6 l.length))<|av ((!bH)||(!(decide (0<v6))||aI (ava (v6-1)) l.length))<|cond (cond (!bH) true (cond (decide (0<v6)) ((Op.bytesLess ((avb l v6).Key) ((avb l (ava (v6-1))).Key))||(decide (((avb l v6).Key)=((avb l (ava (v6-1))).Key)))) false)) (some false) (aj (ava (v6+1)))) (QF n)
def Aj(n:Nat)(l:List aU):Nat→Int→avc
 | 0=>λ_=>none
 |m+1=>JL n l (Aj n l m)
def JM(l:List aU):avc:=Aj n l n 0
def QG(l:List aU):avc:=(JM n l).bind λbH=>some bH
def JN(l:List aU)(aj:Int→avc)(v4:Int):avc:=cond (decide (v4<((l.length:Nat):Int))) (av (aI v4 l.length)<|(xi n ((avb l v4).bj)).bind λaT=>cond (!aT) (some false) (aj (ava (v4+1)))) (QG n l)
def Ak(n:Nat)(l:List aU):Nat→Int→avc
 | 0=>λ_=>none
 |m+1=>JN n l (Ak n l m)
def D9(l:List aU):avc:=Ak n l n 0
def QH(l:List aU):avc:=(D9 n l).bind λaT=>some aT
def JO(l:List aU)(aj:Int→avc)(v3:Int):avc:=cond (decide (v3<((l.length:Nat):Int))) (av (aI v3 l.length)<|cond (decide (((avb l v3).bj).Kind=0)) (some false) (aj (ava (v3+1)))) (QH n l)
def Al(n:Nat)(l:List aU):Nat→Int→avc
 | 0=>λ_=>none
 |m+1=>JO n l (Al n l m)
def JP(l:List aU):avc:=Al n l n 0
def QI(n:Nat)(at_:Int)(br:List Row):Option (aw×Int):=some ((⟨at_,at_,br⟩:aw),0)
def JQ(l:List aU)(at_:Int)(aj:(List Row)→Int→Option (aw×Int))(bm:List Row)(v9:Int):Option (aw×Int):=cond (decide (v9<((l.length:Nat):Int))) (av (aI v9 l.length)<|av (aI v9 l.length)<|av (room (bm.length+([(⟨(avb l v9).Key,[⟨at_,⟨((avb l v9).bj).Kind,((avb l v9).bj).N,((avb l v9).bj).S⟩⟩]⟩:Row)]:List Row).length) 40)<|aj (bm++([(⟨(avb l v9).Key,[⟨at_,⟨((avb l v9).bj).Kind,((avb l v9).bj).N,((avb l v9).bj).S⟩⟩]⟩:Row)]:List Row)) (ava (v9+1))) (QI n at_ bm)
def Am(n:Nat)(l:List aU)(at_:Int):Nat→(List Row)→Int→Option (aw×Int)
 | 0=>λ_ _=>none
 |m+1=>JQ n l at_ (Am n l at_ m)
def An(l:List aU)(at_:Int):Option (aw×Int):=(JP n l).bind λr1=>cond (cond (cond (!r1) true (decide (at_<0))) true (decide (1099511627776<at_))) (some ((⟨0,0,[]⟩:aw),1)) (Am n l at_ n ([]:List Row) 0)
def Ym:Option bN:=(JI n ([97]:au')).bind λr1=>(JI n ([98]:au')).bind λr2=>(JI n ([99]:au')).bind λr3=>(An n ([r1,r2,r3]:List aU) 5).bind λaR=>some (⟨5,aR.1,[],[],⟨0,[⟨1,[],1,0,[]⟩]⟩,[],[],0⟩:bN)
def Yn(n:Nat):avc:=some true
def Yo(a:List au')(b:List au')(aj:Int→avc)(v5:Int):avc:=cond (decide (v5<((a.length:Nat):Int))) (av (aI v5 a.length)<|av (aI v5 b.length)<|cond (!(decide ((avb a v5)=(avb b v5)))) (some false) (aj (ava (v5+1)))) (Yn n)
def QJ(n:Nat)(a:List au')(b:List au'):Nat→Int→avc
 | 0=>λ_=>none
 |m+1=>Yo n a b (QJ n a b m)
def JR(a:List au')(b:List au'):avc:=cond (!decide (((a.length:Nat):Int)=((b.length:Nat):Int))) (some false) (QJ n a b n 0)
def Yp(n:Nat)(l:List au')(k:au')(v6:Int):Option (List au'):=av (!(decide (v6<((l.length:Nat):Int)))||aI v6 l.length)<|cond (cond (decide (v6<((l.length:Nat):Int))) (decide ((avb l v6)=k)) false) (some l) (av (gT v6 l.length)<|av (room (([]:List au').length+(l.take (v6).toNat).length) 16)<|av (room ((([]:List au')++(l.take (v6).toNat)).length+([k]:List au').length) 16)<|av (gT v6 l.length)<|av (room (((([]:List au')++(l.take (v6).toNat))++([k]:List au')).length+(l.drop (v6).toNat).length) 16)<|some (((([]:List au')++(l.take (v6).toNat))++([k]:List au'))++(l.drop (v6).toNat)))
def Yq(l:List au')(k:au')(aj:Int→Option (List au'))(v3:Int):Option (List au'):=av (!(decide (v3<((l.length:Nat):Int)))||aI v3 l.length)<|cond (cond (decide (v3<((l.length:Nat):Int))) (Op.bytesLess (avb l v3) k) false) (aj (ava (v3+1))) (Yp n l k v3)
def QK(n:Nat)(l:List au')(k:au'):Nat→Int→Option (List au')
 | 0=>λ_=>none
 |m+1=>Yq n l k (QK n l k m)
def Yr(l:List au')(k:au'):Option (List au'):=QK n l k n 0
def Ys(v:bz):avc:=(xi n v).bind λr1=>some r1
def Yt(n:Nat):avc:=some true
def Yu(floor:Int)(last:Int)(ah:Row)(aj:Int→avc)(v9:Int):avc:=cond (decide (v9<((ah.bA.length:Nat):Int))) (av (aI v9 ah.bA.length)<|(Ys n (⟨((avb ah.bA v9).bj).Kind,((avb ah.bA v9).bj).N,((avb ah.bA v9).bj).S⟩:bz)).bind λbx=>cond (cond (cond (!bx) true (decide ((avb ah.bA v9).cg<floor))) true (decide (last<(avb ah.bA v9).cg))) (some false) (av (!(decide (0<v9))||aI (ava (v9-1)) ah.bA.length)<|av (!(decide (0<v9))||((decide ((avb ah.bA v9).cg≤(avb ah.bA (ava (v9-1))).cg))||aI (ava (v9-1)) ah.bA.length))<|cond (cond (decide (0<v9)) (cond (decide ((avb ah.bA v9).cg≤(avb ah.bA (ava (v9-1))).cg)) true ((decide (((avb ah.bA v9).bj).Kind=((avb ah.bA (ava (v9-1))).bj).Kind))&&((decide (((avb ah.bA v9).bj).N=((avb ah.bA (ava (v9-1))).bj).N))&&((decide (((avb ah.bA v9).bj).S=((avb ah.bA (ava (v9-1))).bj).S))&&true)))) false) (some false) (aj (ava (v9+1))))) (Yt n)
def QL(n:Nat)(floor:Int)(last:Int)(ah:Row):Nat→Int→avc
 | 0=>λ_=>none
 |m+1=>Yu n floor last ah (QL n floor last ah m)
def Yv(ah:Row)(floor:Int)(last:Int):avc:=(xj n ah.Key).bind λr1=>av ((cond (!r1) true (decide (((ah.bA.length:Nat):Int)=0)))||aI 0 ah.bA.length)<|cond (cond (cond (!r1) true (decide (((ah.bA.length:Nat):Int)=0))) true (decide (((ah.bA.getD 0 default).bj).Kind=0))) (some false) (QL n floor last ah n 0)
def Yw(n:Nat):avc:=some true
def Yx(s:aw)(aj:Int→avc)(bp:Int):avc:=cond (decide (bp<((s.Rows.length:Nat):Int))) (av (aI bp s.Rows.length)<|(Yv n (avb s.Rows bp) s.bB s.bv).bind λcd=>av ((!cd)||(!(decide (0<bp))||aI (ava (bp-1)) s.Rows.length))<|av ((!cd)||(!(decide (0<bp))||aI bp s.Rows.length))<|cond (cond (!cd) true (cond (decide (0<bp)) (!(Op.bytesLess ((avb s.Rows (ava (bp-1))).Key) ((avb s.Rows bp).Key))) false)) (some false) (aj (ava (bp+1)))) (Yw n)
def QM(n:Nat)(s:aw):Nat→Int→avc
 | 0=>λ_=>none
 |m+1=>Yx n s (QM n s m)
def JS(s:aw):avc:=cond (cond (cond (decide (s.bB<0)) true (decide (s.bv<s.bB))) true (decide (1099511627776<s.bv))) (some false) (QM n s n 0)
def Yy(n:Nat)(key:au'):Option Row:=some (⟨key,[]⟩:Row)
def Yz(key:au')(s:aw)(aj:Int→Option Row)(v4:Int):Option Row:=cond (decide (v4<((s.Rows.length:Nat):Int))) (av (aI v4 s.Rows.length)<|cond (decide (((avb s.Rows v4).Key)=key)) (av (aI v4 s.Rows.length)<|some (avb s.Rows v4)) (aj (ava (v4+1)))) (Yy n key)
def QN(n:Nat)(key:au')(s:aw):Nat→Int→Option Row
 | 0=>λ_=>none
 |m+1=>Yz n key s (QN n key s m)
def YA(s:aw)(key:au'):Option Row:=QN n key s n 0
def YB(n:Nat)(v23:Int)(v24:Int)(v25:au'):Option bz:=some (⟨v23,v24,v25⟩:bz)
def QO(n:Nat)(aj:Int→Int→au'→Int→Option bz)(at_:Int)(b0:Int)(ah:Row)(cW:Int)(aV:Int)(cl:au'):Option bz:=aj cW aV cl (ava (b0+1))
def YC(at_:Int)(ah:Row)(aj:Int→Int→au'→Int→Option bz)(v10:Int)(v11:Int)(v12:au')(b0:Int):Option bz:=cond (decide (b0<((ah.bA.length:Nat):Int))) (av (aI b0 ah.bA.length)<|cond (decide ((avb ah.bA b0).cg≤at_)) (av (aI b0 ah.bA.length)<|QO n aj at_ b0 ah (((avb ah.bA b0).bj).Kind) (((avb ah.bA b0).bj).N) (((avb ah.bA b0).bj).S)) (QO n aj at_ b0 ah v10 v11 v12)) (YB n v10 v11 v12)
def QP(n:Nat)(at_:Int)(ah:Row):Nat→Int→Int→au'→Int→Option bz
 | 0=>λ_ _ _ _=>none
 |m+1=>YC n at_ ah (QP n at_ ah m)
def QQ(ah:Row)(at_:Int):Option bz:=QP n at_ ah n 0 0 ([]:au') 0
def YD(n:Nat)(s:aw)(at_:Int)(JT:List Row):Option (aw×Int):=some ((⟨s.bB,at_,JT⟩:aw),0)
def QR(n:Nat)(eQ:(List Row)→Int→Option (aw×Int))(at_:Int)(writes:List aU)(v26:List au')(h9:Int)(s:aw)(JU:List Row):Option (aw×Int):=eQ JU (ava (h9+1))
def YE(eQ:(List Row)→Int→Option (aw×Int))(at_:Int)(writes:List aU)(v26:List au')(h9:Int)(s:aw)(v53:List Row)(fj:Row)(v76:List Version):Option (aw×Int):=cond (decide (0<((v76.length:Nat):Int))) (av (room (v53.length+([(⟨fj.Key,v76⟩:Row)]:List Row).length) 40)<|QR n eQ at_ writes v26 h9 s (v53++([(⟨fj.Key,v76⟩:Row)]:List Row))) (QR n eQ at_ writes v26 h9 s v53)
def QS(n:Nat)(Ao:(List Version)→Int→Option (aw×Int))(eQ:(List Row)→Int→Option (aw×Int))(at_:Int)(writes:List aU)(v26:List au')(h9:Int)(gD:Int)(s:aw)(v53:List Row)(fj:Row)(JV:List Version):Option (aw×Int):=Ao JV (ava (gD+1))
def YF(eQ:(List Row)→Int→Option (aw×Int))(at_:Int)(writes:List aU)(v26:List au')(h9:Int)(s:aw)(v53:List Row)(fj:Row)(Ao:(List Version)→Int→Option (aw×Int))(s_:List Version)(gD:Int):Option (aw×Int):=cond (decide (gD<((writes.length:Nat):Int))) (av (aI gD writes.length)<|av (!(decide (((avb writes gD).Key)=fj.Key))||aI gD writes.length)<|Option.bind (cond (decide (((avb writes gD).Key)=fj.Key)) (QQ n fj s.bv) (some default)) λlQ=>cond (cond (decide (((avb writes gD).Key)=fj.Key)) (!((decide (((avb writes gD).bj).Kind=lQ.Kind))&&((decide (((avb writes gD).bj).N=lQ.N))&&((decide (((avb writes gD).bj).S=lQ.S))&&true)))) false) (av (aI gD writes.length)<|av (room (s_.length+([(⟨at_,⟨((avb writes gD).bj).Kind,((avb writes gD).bj).N,((avb writes gD).bj).S⟩⟩:Version)]:List Version).length) 40)<|QS n Ao eQ at_ writes v26 h9 gD s v53 fj (s_++([(⟨at_,⟨((avb writes gD).bj).Kind,((avb writes gD).bj).N,((avb writes gD).bj).S⟩⟩:Version)]:List Version))) (QS n Ao eQ at_ writes v26 h9 gD s v53 fj s_)) (YE n eQ at_ writes v26 h9 s v53 fj s_)
def QT(n:Nat)(eQ:(List Row)→Int→Option (aw×Int))(at_:Int)(writes:List aU)(v26:List au')(h9:Int)(s:aw)(v53:List Row)(fj:Row):Nat→(List Version)→Int→Option (aw×Int)
 | 0=>λ_ _=>none
 |m+1=>YF n eQ at_ writes v26 h9 s v53 fj (QT n eQ at_ writes v26 h9 s v53 fj m)
def YG(at_:Int)(writes:List aU)(v26:List au')(s:aw)(eQ:(List Row)→Int→Option (aw×Int))(v53:List Row)(h9:Int):Option (aw×Int):=cond (decide (h9<((v26.length:Nat):Int))) (av (aI h9 v26.length)<|(YA n s (avb v26 h9)).bind λfj=>av (room (([]:List Version).length+fj.bA.length) 40)<|QT n eQ at_ writes v26 h9 s v53 fj n (([]:List Version)++fj.bA) 0) (YD n s at_ v53)
def QU(n:Nat)(at_:Int)(writes:List aU)(v26:List au')(s:aw):Nat→(List Row)→Int→Option (aw×Int)
 | 0=>λ_ _=>none
 |m+1=>YG n at_ writes v26 s (QU n at_ writes v26 s m)
def YH(at_:Int)(writes:List aU)(s:aw)(v26:List au'):Option (aw×Int):=QU n at_ writes v26 s n ([]:List Row) 0
def YI(at_:Int)(writes:List aU)(s:aw)(YJ:Int→(List au')→Option (aw×Int))(v20:Int)(v21:List au'):Option (aw×Int):=cond (decide (v20<((writes.length:Nat):Int))) (av (aI v20 writes.length)<|(Yr n v21 ((avb writes v20).Key)).bind λeo=>YJ (ava (v20+1)) eo) (YH n at_ writes s v21)
def QV(n:Nat)(at_:Int)(writes:List aU)(s:aw):Nat→Int→(List au')→Option (aw×Int)
 | 0=>λ_ _=>none
 |m+1=>YI n at_ writes s (QV n at_ writes s m)
def YK(at_:Int)(writes:List aU)(s:aw)(br:List au'):Option (aw×Int):=QV n at_ writes s n 0 br
def YL(at_:Int)(writes:List aU)(s:aw)(YM:(List au')→Int→Option (aw×Int))(v9:List au')(v10:Int):Option (aw×Int):=cond (decide (v10<((s.Rows.length:Nat):Int))) (av (aI v10 s.Rows.length)<|av (room (v9.length+([(avb s.Rows v10).Key]:List au').length) 16)<|YM (v9++([(avb s.Rows v10).Key]:List au')) (ava (v10+1))) (YK n at_ writes s v9)
def QW(n:Nat)(at_:Int)(writes:List aU)(s:aw):Nat→(List au')→Int→Option (aw×Int)
 | 0=>λ_ _=>none
 |m+1=>YL n at_ writes s (QW n at_ writes s m)
def YN(s:aw)(at_:Int)(writes:List aU):Option (aw×Int):=(JS n s).bind λr1=>Option.bind (cond (!(!r1)) (D9 n writes) (some default)) λr2=>cond (cond (!r1) true (!r2)) (some ((⟨0,0,[]⟩:aw),1)) (cond (cond (decide (at_≤s.bv)) true (decide (1099511627776<at_))) (some ((⟨0,0,[]⟩:aw),16)) (QW n at_ writes s n ([]:List au') 0))
def YO(n:Nat)(nT:Expr→Expr→avc):avc:=some true
def YP(nT:Expr→Expr→avc)(a:Expr)(b:Expr)(aj:Int→avc)(v6:Int):avc:=cond (decide (v6<((a.ax.length:Nat):Int))) (av (aI v6 a.ax.length)<|av (aI v6 b.ax.length)<|(nT (avb a.ax v6) (avb b.ax v6)).bind λcd=>cond (!cd) (some false) (aj (ava (v6+1)))) (YO n nT)
def QX(n:Nat)(nT:Expr→Expr→avc)(a:Expr)(b:Expr):Nat→Int→avc
 | 0=>λ_=>none
 |m+1=>YP n nT a b (QX n nT a b m)
def YQ(nT:Expr→Expr→avc)(a:Expr)(b:Expr):avc:=cond (cond (cond (cond (!decide (a.Op=b.Op)) true (!decide (a.N=b.N))) true (!(decide (a.S=b.S)))) true (!decide (((a.ax.length:Nat):Int)=((b.ax.length:Nat):Int)))) (some false) (QX n nT a b n 0)
def JW:Nat→Expr→Expr→avc
 | 0=>λ_ _=>none
 |m+1=>YQ m (JW m)
def YR(n:Nat)(nb:(List Stmt)→(List Stmt)→avc):avc:=some true
def YS(nb:(List Stmt)→(List Stmt)→avc)(a:List Stmt)(b:List Stmt)(aj:Int→avc)(v9:Int):avc:=cond (decide (v9<((a.length:Nat):Int))) (av (aI v9 a.length)<|av (aI v9 b.length)<|Option.bind (cond (!(cond (cond (!decide ((avb a v9).Op=(avb b v9).Op)) true (!(decide (((avb a v9).Name)=((avb b v9).Name))))) true (!decide ((avb a v9).Max=(avb b v9).Max)))) (JW n (⟨((avb a v9).A).Op,((avb a v9).A).N,((avb a v9).A).S,((avb a v9).A).ax⟩:Expr) (⟨((avb b v9).A).Op,((avb b v9).A).N,((avb b v9).A).S,((avb b v9).A).ax⟩:Expr)) (some default)) λcq=>Option.bind (cond (!(cond (cond (cond (!decide ((avb a v9).Op=(avb b v9).Op)) true (!(decide (((avb a v9).Name)=((avb b v9).Name))))) true (!decide ((avb a v9).Max=(avb b v9).Max))) true (!cq))) (JW n (⟨((avb a v9).B).Op,((avb a v9).B).N,((avb a v9).B).S,((avb a v9).B).ax⟩:Expr) (⟨((avb b v9).B).Op,((avb b v9).B).N,((avb b v9).B).S,((avb b v9).B).ax⟩:Expr)) (some default)) λde=>Option.bind (cond (!(cond (cond (cond (cond (!decide ((avb a v9).Op=(avb b v9).Op)) true (!(decide (((avb a v9).Name)=((avb b v9).Name))))) true (!decide ((avb a v9).Max=(avb b v9).Max))) true (!cq)) true (!de))) (nb ((avb a v9).Body) ((avb b v9).Body)) (some default)) λep=>Option.bind (cond (!(cond (cond (cond (cond (cond (!decide ((avb a v9).Op=(avb b v9).Op)) true (!(decide (((avb a v9).Name)=((avb b v9).Name))))) true (!decide ((avb a v9).Max=(avb b v9).Max))) true (!cq)) true (!de)) true (!ep))) (nb ((avb a v9).bM) ((avb b v9).bM)) (some default)) λdx=>cond (cond (cond (cond (cond (cond (cond (!decide ((avb a v9).Op=(avb b v9).Op)) true (!(decide (((avb a v9).Name)=((avb b v9).Name))))) true (!decide ((avb a v9).Max=(avb b v9).Max))) true (!cq)) true (!de)) true (!ep)) true (!dx)) (some false) (aj (ava (v9+1)))) (YR n nb)
def QY(n:Nat)(nb:(List Stmt)→(List Stmt)→avc)(a:List Stmt)(b:List Stmt):Nat→Int→avc
 | 0=>λ_=>none
 |m+1=>YS n nb a b (QY n nb a b m)
def YT(nb:(List Stmt)→(List Stmt)→avc)(a:List Stmt)(b:List Stmt):avc:=cond (!decide (((a.length:Nat):Int)=((b.length:Nat):Int))) (some false) (QY n nb a b n 0)
def QZ:Nat→(List Stmt)→(List Stmt)→avc
 | 0=>λ_ _=>none
 |m+1=>YT m (QZ m)
def YU(a:bb)(b:bb):avc:=(QZ n a.Body b.Body).bind λcd=>some cd
def YV(a:bb)(b:bb)(aj:Int→avc)(v5:Int):avc:=cond (decide (v5<((a.Params.length:Nat):Int))) (av (aI v5 a.Params.length)<|av (aI v5 b.Params.length)<|cond (!((decide ((avb a.Params v5).Name=(avb b.Params v5).Name))&&((decide ((avb a.Params v5).fS=(avb b.Params v5).fS))&&true))) (some false) (aj (ava (v5+1)))) (YU n a b)
def Q0(n:Nat)(a:bb)(b:bb):Nat→Int→avc
 | 0=>λ_=>none
 |m+1=>YV n a b (Q0 n a b m)
def YW(a:bb)(b:bb):avc:=cond (cond (!(decide (a.Name=b.Name))) true (!decide (((a.Params.length:Nat):Int)=((b.Params.length:Nat):Int)))) (some false) (Q0 n a b n 0)
def YX(n:Nat):avc:=some true
def YY(a:List bb)(b:List bb)(aj:Int→avc)(v6:Int):avc:=cond (decide (v6<((a.length:Nat):Int))) (av (aI v6 a.length)<|av (aI v6 b.length)<|(YW n (avb a v6) (avb b v6)).bind λcd=>cond (!cd) (some false) (aj (ava (v6+1)))) (YX n)
def Q1(n:Nat)(a:List bb)(b:List bb):Nat→Int→avc
 | 0=>λ_=>none
 |m+1=>YY n a b (Q1 n a b m)
def YZ(a:List bb)(b:List bb):avc:=cond (!decide (((a.length:Nat):Int)=((b.length:Nat):Int))) (some false) (Q1 n a b n 0)
def Y0(n:Nat):avc:=some true
def Y1(n:Nat)(aj:Int→avc)(v12:Int)(a:aw)(b:aw):avc:=aj (ava (v12+1))
def Y2(aj:Int→avc)(v12:Int)(a:aw)(b:aw)(eQ:Int→avc)(cl:Int):avc:=cond (decide (cl<((((avb a.Rows v12).bA).length:Nat):Int))) (av (aI cl ((avb a.Rows v12).bA).length)<|av (aI cl ((avb b.Rows v12).bA).length)<|cond (!((decide ((((avb a.Rows v12).bA).getD (cl).toNat default).cg=(((avb b.Rows v12).bA).getD (cl).toNat default).cg))&&((decide (((((avb a.Rows v12).bA).getD (cl).toNat default).bj).Kind=((((avb b.Rows v12).bA).getD (cl).toNat default).bj).Kind))&&((decide (((((avb a.Rows v12).bA).getD (cl).toNat default).bj).N=((((avb b.Rows v12).bA).getD (cl).toNat default).bj).N))&&((decide (((((avb a.Rows v12).bA).getD (cl).toNat default).bj).S=((((avb b.Rows v12).bA).getD (cl).toNat default).bj).S))&&true))))) (some false) (eQ (ava (cl+1)))) (Y1 n aj v12 a b)
def Q2(n:Nat)(aj:Int→avc)(v12:Int)(a:aw)(b:aw):Nat→Int→avc
 | 0=>λ_=>none
 |m+1=>Y2 n aj v12 a b (Q2 n aj v12 a b m)
def Y3(a:aw)(b:aw)(aj:Int→avc)(v12:Int):avc:=cond (decide (v12<((a.Rows.length:Nat):Int))) (av (aI v12 a.Rows.length)<|av (aI v12 b.Rows.length)<|cond (cond (!(decide (((avb a.Rows v12).Key)=((avb b.Rows v12).Key)))) true (!decide (((((avb a.Rows v12).bA).length:Nat):Int)=((((avb b.Rows v12).bA).length:Nat):Int)))) (some false) (Q2 n aj v12 a b n 0)) (Y0 n)
def Q3(n:Nat)(a:aw)(b:aw):Nat→Int→avc
 | 0=>λ_=>none
 |m+1=>Y3 n a b (Q3 n a b m)
def Y4(a:aw)(b:aw):avc:=cond (cond (cond (!decide (a.bB=b.bB)) true (!decide (a.bv=b.bv))) true (!decide (((a.Rows.length:Nat):Int)=((b.Rows.length:Nat):Int)))) (some false) (Q3 n a b n 0)
def Y5(n:Nat):avc:=some true
def Y6(a:cc)(b:cc)(aj:Int→avc)(v5:Int):avc:=cond (decide (v5<((a.aS.length:Nat):Int))) (av (aI v5 a.aS.length)<|av (aI v5 b.aS.length)<|cond (!((decide ((avb a.aS v5).Id=(avb b.aS v5).Id))&&((decide ((avb a.aS v5).es=(avb b.aS v5).es))&&((decide ((avb a.aS v5).Node=(avb b.aS v5).Node))&&((decide ((avb a.aS v5).gO=(avb b.aS v5).gO))&&((decide ((avb a.aS v5).dQ=(avb b.aS v5).dQ))&&true)))))) (some false) (aj (ava (v5+1)))) (Y5 n)
def Q4(n:Nat)(a:cc)(b:cc):Nat→Int→avc
 | 0=>λ_=>none
 |m+1=>Y6 n a b (Q4 n a b m)
def Y7(a:cc)(b:cc):avc:=cond (cond (!decide (a.Version=b.Version)) true (!decide (((a.aS.length:Nat):Int)=((b.aS.length:Nat):Int)))) (some false) (Q4 n a b n 0)
def Y8(n:Nat):avc:=some true
def Y9(a:List bg)(b:List bg)(aj:Int→avc)(v5:Int):avc:=cond (decide (v5<((a.length:Nat):Int))) (av (aI v5 a.length)<|av (aI v5 b.length)<|cond (!((decide ((avb a v5).Key=(avb b v5).Key))&&((decide ((avb a v5).Count=(avb b v5).Count))&&true))) (some false) (aj (ava (v5+1)))) (Y8 n)
def Q5(n:Nat)(a:List bg)(b:List bg):Nat→Int→avc
 | 0=>λ_=>none
 |m+1=>Y9 n a b (Q5 n a b m)
def Y'(a:List bg)(b:List bg):avc:=cond (!decide (((a.length:Nat):Int)=((b.length:Nat):Int))) (some false) (Q5 n a b n 0)
def Y_(a:gP)(b:gP):avc:=Option.bind (cond (a.fh == b.fh) (JR n a.Reads b.Reads) (some default)) λr1=>Option.bind (cond (cond (a.fh == b.fh) r1 false) (JR n a.dI b.dI) (some default)) λr2=>some (cond (cond (a.fh == b.fh) r1 false) r2 false)
def Za(n:Nat):avc:=some true
def Zb(a:Request)(b:Request)(aj:Int→avc)(v6:Int):avc:=cond (decide (v6<((a.ax.length:Nat):Int))) (av (aI v6 a.ax.length)<|av (aI v6 b.ax.length)<|cond (!((decide ((avb a.ax v6).Kind=(avb b.ax v6).Kind))&&((decide ((avb a.ax v6).N=(avb b.ax v6).N))&&((decide ((avb a.ax v6).S=(avb b.ax v6).S))&&true)))) (some false) (aj (ava (v6+1)))) (Za n)
def Q6(n:Nat)(a:Request)(b:Request):Nat→Int→avc
 | 0=>λ_=>none
 |m+1=>Zb n a b (Q6 n a b m)
def Zc(a:Request)(b:Request):avc:=Option.bind (cond (!(cond (cond (cond (cond (!decide (a.Client=b.Client)) true (!decide (a.Seq=b.Seq))) true (!(decide (a.bb=b.bb)))) true (!(a.fE == b.fE))) true (!decide (((a.ax.length:Nat):Int)=((b.ax.length:Nat):Int))))) (Y_ n a.bU b.bU) (some default)) λr1=>cond (cond (cond (cond (cond (cond (!decide (a.Client=b.Client)) true (!decide (a.Seq=b.Seq))) true (!(decide (a.bb=b.bb)))) true (!(a.fE == b.fE))) true (!decide (((a.ax.length:Nat):Int)=((b.ax.length:Nat):Int)))) true (!r1)) (some false) (Q6 n a b n 0)
def Zd(n:Nat):avc:=some true
def Ze(a:Outcome)(b:Outcome)(aj:Int→avc)(v5:Int):avc:=cond (decide (v5<((a.Out.length:Nat):Int))) (av (aI v5 a.Out.length)<|av (aI v5 b.Out.length)<|cond (!((decide ((avb a.Out v5).Kind=(avb b.Out v5).Kind))&&((decide ((avb a.Out v5).N=(avb b.Out v5).N))&&((decide ((avb a.Out v5).S=(avb b.Out v5).S))&&true)))) (some false) (aj (ava (v5+1)))) (Zd n)
def Q7(n:Nat)(a:Outcome)(b:Outcome):Nat→Int→avc
 | 0=>λ_=>none
 |m+1=>Ze n a b (Q7 n a b m)
def Zf(a:Outcome)(b:Outcome):avc:=cond (cond (cond (!decide (a.Status=b.Status)) true (!decide (a.Code=b.Code))) true (!decide (((a.Out.length:Nat):Int)=((b.Out.length:Nat):Int)))) (some false) (Q7 n a b n 0)
def Zg(a:fg)(b:fg):avc:=Option.bind (cond (cond (decide (a.Client=b.Client)) (decide (a.Seq=b.Seq)) false) (Zf n a.Outcome b.Outcome) (some default)) λr1=>some (cond (cond (decide (a.Client=b.Client)) (decide (a.Seq=b.Seq)) false) r1 false)
def Zh(n:Nat):avc:=some true
def Zi(a:List fg)(b:List fg)(aj:Int→avc)(v6:Int):avc:=cond (decide (v6<((a.length:Nat):Int))) (av (aI v6 a.length)<|av (aI v6 b.length)<|(Zg n (avb a v6) (avb b v6)).bind λcd=>cond (!cd) (some false) (aj (ava (v6+1)))) (Zh n)
def Q8(n:Nat)(a:List fg)(b:List fg):Nat→Int→avc
 | 0=>λ_=>none
 |m+1=>Zi n a b (Q8 n a b m)
def Zj(a:List fg)(b:List fg):avc:=cond (!decide (((a.length:Nat):Int)=((b.length:Nat):Int))) (some false) (Q8 n a b n 0)
def Zk(n:Nat):avc:=some true
def Zl(a:List b_)(b:List b_)(aj:Int→avc)(v10:Int):avc:=cond (decide (v10<((a.length:Nat):Int))) (av (aI v10 a.length)<|av (aI v10 b.length)<|av ((!decide ((avb a v10).Client=(avb b v10).Client))||aI v10 a.length)<|av ((!decide ((avb a v10).Client=(avb b v10).Client))||aI v10 b.length)<|av ((cond (!decide ((avb a v10).Client=(avb b v10).Client)) true (!decide ((avb a v10).Next=(avb b v10).Next)))||aI v10 a.length)<|av ((cond (!decide ((avb a v10).Client=(avb b v10).Client)) true (!decide ((avb a v10).Next=(avb b v10).Next)))||aI v10 b.length)<|Option.bind (cond (!(cond (!decide ((avb a v10).Client=(avb b v10).Client)) true (!decide ((avb a v10).Next=(avb b v10).Next)))) (Zj n ((avb a v10).cZ) ((avb b v10).cZ)) (some default)) λdf=>cond (cond (cond (!decide ((avb a v10).Client=(avb b v10).Client)) true (!decide ((avb a v10).Next=(avb b v10).Next))) true (!df)) (some false) (aj (ava (v10+1)))) (Zk n)
def Q9(n:Nat)(a:List b_)(b:List b_):Nat→Int→avc
 | 0=>λ_=>none
 |m+1=>Zl n a b (Q9 n a b m)
def Zm(a:List b_)(b:List b_):avc:=cond (!decide (((a.length:Nat):Int)=((b.length:Nat):Int))) (some false) (Q9 n a b n 0)
def Zn(n:Nat):avc:=some true
def Zo(a:bN)(b:bN)(aj:Int→avc)(v11:Int):avc:=cond (decide (v11<((a.Queue.length:Nat):Int))) (av (aI v11 a.Queue.length)<|av (aI v11 b.Queue.length)<|(Zc n (avb a.Queue v11) (avb b.Queue v11)).bind λep=>cond (!ep) (some false) (aj (ava (v11+1)))) (Zn n)
def Q'(n:Nat)(a:bN)(b:bN):Nat→Int→avc
 | 0=>λ_=>none
 |m+1=>Zo n a b (Q' n a b m)
def Zp(a:bN)(b:bN):avc:=Option.bind (cond (!(cond (!decide (a.Pos=b.Pos)) true (!decide (a.cz=b.cz)))) (Y4 n a.aw b.aw) (some default)) λr1=>Option.bind (cond (!(cond (cond (!decide (a.Pos=b.Pos)) true (!decide (a.cz=b.cz))) true (!r1))) (YZ n a.cj b.cj) (some default)) λr2=>Option.bind (cond (!(cond (cond (cond (!decide (a.Pos=b.Pos)) true (!decide (a.cz=b.cz))) true (!r1)) true (!r2))) (Zm n a.cp b.cp) (some default)) λr3=>Option.bind (cond (!(cond (cond (cond (cond (!decide (a.Pos=b.Pos)) true (!decide (a.cz=b.cz))) true (!r1)) true (!r2)) true (!r3))) (Y7 n a.Place b.Place) (some default)) λaR=>Option.bind (cond (!(cond (cond (cond (cond (cond (!decide (a.Pos=b.Pos)) true (!decide (a.cz=b.cz))) true (!r1)) true (!r2)) true (!r3)) true (!aR))) (Y' n a.bg b.bg) (some default)) λbV=>cond (cond (cond (cond (cond (cond (cond (cond (!decide (a.Pos=b.Pos)) true (!decide (a.cz=b.cz))) true (!r1)) true (!r2)) true (!r3)) true (!aR)) true (!bV)) true (!decide (((a.Queue.length:Nat):Int)=((b.Queue.length:Nat):Int)))) (some false) (Q' n a b n 0)
def Zq(n:Nat)(aV:List aU):Option (List aU):=some aV
def Q_(n:Nat)(aj:(List aU)→Int→Option (List aU))(at_:Int)(v9:Int)(s:aw)(bL:List aU):Option (List aU):=aj bL (ava (v9+1))
def Zr(at_:Int)(s:aw)(aj:(List aU)→Int→Option (List aU))(bm:List aU)(v9:Int):Option (List aU):=cond (decide (v9<((s.Rows.length:Nat):Int))) (av (aI v9 s.Rows.length)<|(QQ n (avb s.Rows v9) at_).bind λbx=>cond (!decide (bx.Kind=0)) (av (aI v9 s.Rows.length)<|av (room (bm.length+([(⟨(avb s.Rows v9).Key,bx⟩:aU)]:List aU).length) 48)<|Q_ n aj at_ v9 s (bm++([(⟨(avb s.Rows v9).Key,bx⟩:aU)]:List aU))) (Q_ n aj at_ v9 s bm)) (Zq n bm)
def Ra(n:Nat)(at_:Int)(s:aw):Nat→(List aU)→Int→Option (List aU)
 | 0=>λ_ _=>none
 |m+1=>Zr n at_ s (Ra n at_ s m)
def Zs(s:aw)(at_:Int):Option (List aU):=Ra n at_ s n ([]:List aU) 0
def Zt(s:aw)(at_:Int):Option ((List aU)×Int):=(JS n s).bind λr1=>cond (!r1) (some (([]:List aU),1)) (cond (cond (decide (at_<s.bB)) true (decide (s.bv<at_))) (some (([]:List aU),15)) ((Zs n s at_).bind λaR=>some (aR,0)))
def Zu(n:Nat):avc:=some true
def Zv(s:au')(aj:Int→avc)(v5:Int):avc:=cond (decide (v5<((s.length:Nat):Int))) (av (aI v5 s.length)<|av ((decide ((((s.getD (v5).toNat 0).toNat:Nat):Int)<33))||aI v5 s.length)<|cond (cond (decide ((((s.getD (v5).toNat 0).toNat:Nat):Int)<33)) true (decide (126<(((s.getD (v5).toNat 0).toNat:Nat):Int)))) (some false) (aj (ava (v5+1)))) (Zu n)
def Rb(n:Nat)(s:au'):Nat→Int→avc
 | 0=>λ_=>none
 |m+1=>Zv n s (Rb n s m)
def Rc(s:au'):avc:=cond (decide (24<((s.length:Nat):Int))) (some false) (Rb n s n 0)
def Zw(x:Part)(next:au')(last:Bool):avc:=cond (decide (x.gO=0)) (some (decide (x.dQ=([]:au')))) (Option.bind (cond (cond (cond (decide (1≤x.gO)) (decide (x.gO≤16)) false) (!decide (x.gO=x.Node)) false) (Rc n x.dQ) (some default)) λr2=>some (cond (cond (cond (cond (cond (decide (1≤x.gO)) (decide (x.gO≤16)) false) (!decide (x.gO=x.Node)) false) r2 false) (!(Op.bytesLess x.dQ x.es)) false) (cond last true (Op.bytesLess x.dQ next)) false))
def Zx(n:Nat):avc:=some true
def Zy(n:Nat)(aj:Int→avc)(p:cc)(br:Int):avc:=aj (ava (br+1))
def Zz(aj:Int→avc)(p:cc)(br:Int)(ZA:Int→avc)(v24:Int):avc:=cond (decide (v24<br)) (av (aI v24 p.aS.length)<|cond (decide ((avb p.aS v24).Id=(avb p.aS br).Id)) (some false) (ZA (ava (v24+1)))) (Zy n aj p br)
def Rd(n:Nat)(aj:Int→avc)(p:cc)(br:Int):Nat→Int→avc
 | 0=>λ_=>none
 |m+1=>Zz n aj p br (Rd n aj p br m)
def Re(aj:Int→avc)(p:cc)(br:Int)(cl:au'):avc:=(Rc n ((avb p.aS br).es)).bind λeW=>av ((!eW)||(!(decide (0<br))||aI (ava (br-1)) p.aS.length))<|Option.bind (cond (!(cond (cond (cond (cond (cond (!eW) true (cond (decide (0<br)) ((Op.bytesLess ((avb p.aS br).es) ((avb p.aS (ava (br-1))).es))||(decide (((avb p.aS br).es)=((avb p.aS (ava (br-1))).es)))) false)) true (decide ((avb p.aS br).Id<1))) true (decide (1099511627776<(avb p.aS br).Id))) true (decide ((avb p.aS br).Node<1))) true (decide (16<(avb p.aS br).Node)))) (Zw n (avb p.aS br) cl (decide ((ava (br+1))=((p.aS.length:Nat):Int)))) (some default)) λeT=>cond (cond (cond (cond (cond (cond (cond (!eW) true (cond (decide (0<br)) ((Op.bytesLess ((avb p.aS br).es) ((avb p.aS (ava (br-1))).es))||(decide (((avb p.aS br).es)=((avb p.aS (ava (br-1))).es)))) false)) true (decide ((avb p.aS br).Id<1))) true (decide (1099511627776<(avb p.aS br).Id))) true (decide ((avb p.aS br).Node<1))) true (decide (16<(avb p.aS br).Node))) true (!eT)) (some false) (Rd n aj p br n 0)
def ZB(p:cc)(aj:Int→avc)(br:Int):avc:=cond (decide (br<((p.aS.length:Nat):Int))) (av (aI br p.aS.length)<|cond (decide ((ava (br+1))<((p.aS.length:Nat):Int))) (av (aI (ava (br+1)) p.aS.length)<|Re n aj p br ((avb p.aS (ava (br+1))).es)) (Re n aj p br ([]:au'))) (Zx n)
def Rf(n:Nat)(p:cc):Nat→Int→avc
 | 0=>λ_=>none
 |m+1=>ZB n p (Rf n p m)
def ZC(p:cc):avc:=av ((cond (cond (cond (decide (p.Version<0)) true (decide (1099511627776<p.Version))) true (decide (((p.aS.length:Nat):Int)<1))) true (decide (16<((p.aS.length:Nat):Int))))||aI 0 p.aS.length)<|cond (cond (cond (cond (cond (decide (p.Version<0)) true (decide (1099511627776<p.Version))) true (decide (((p.aS.length:Nat):Int)<1))) true (decide (16<((p.aS.length:Nat):Int)))) true (!(decide (((p.aS.getD 0 default).es)=([]:au'))))) (some false) (Rf n p n 0)
def ZD(n:Nat)(l:List bg):avc:=some (decide (((l.length:Nat):Int)≤32))
def ZE(l:List bg)(aj:Int→avc)(bm:Int):avc:=cond (decide (bm<((l.length:Nat):Int))) (av (aI bm l.length)<|(xj n ((avb l bm).Key)).bind λdj=>av ((!dj)||aI bm l.length)<|av ((cond (!dj) true (decide ((avb l bm).Count<1)))||aI bm l.length)<|av ((cond (cond (!dj) true (decide ((avb l bm).Count<1))) true (decide (1099511627776<(avb l bm).Count)))||(!(decide (0<bm))||aI bm l.length))<|av ((cond (cond (!dj) true (decide ((avb l bm).Count<1))) true (decide (1099511627776<(avb l bm).Count)))||(!(decide (0<bm))||aI (ava (bm-1)) l.length))<|cond (cond (cond (cond (!dj) true (decide ((avb l bm).Count<1))) true (decide (1099511627776<(avb l bm).Count))) true (cond (decide (0<bm)) ((Op.bytesLess ((avb l bm).Key) ((avb l (ava (bm-1))).Key))||(decide (((avb l bm).Key)=((avb l (ava (bm-1))).Key)))) false)) (some false) (aj (ava (bm+1)))) (ZD n l)
def Rg(n:Nat)(l:List bg):Nat→Int→avc
 | 0=>λ_=>none
 |m+1=>ZE n l (Rg n l m)
def ZF(l:List bg):avc:=Rg n l n 0
def ZG(n:Nat)(l:List bz):avc:=some (decide (((l.length:Nat):Int)≤16))
def ZH(l:List bz)(aj:Int→avc)(v5:Int):avc:=cond (decide (v5<((l.length:Nat):Int))) (av (aI v5 l.length)<|(xi n (avb l v5)).bind λbO=>av ((!bO)||aI v5 l.length)<|cond (cond (!bO) true (decide ((avb l v5).Kind=0))) (some false) (aj (ava (v5+1)))) (ZG n l)
def Rh(n:Nat)(l:List bz):Nat→Int→avc
 | 0=>λ_=>none
 |m+1=>ZH n l (Rh n l m)
def ZI(l:List bz):avc:=Rh n l n 0
def ZJ(o:Outcome):avc:=cond (decide (o.Status=1)) (Option.bind (cond (decide (o.Code=0)) (ZI n o.Out) (some default)) λr2=>some (cond (decide (o.Code=0)) r2 false)) (some (cond (cond (cond (decide (o.Status=2)) (decide (0≤o.Code)) false) (decide (o.Code≤1009)) false) (decide (((o.Out.length:Nat):Int)=0)) false))
def ZK(n:Nat)(next:Int):avd:=some (cond (decide ((ava (next-1))<8)) (ava (next-1)) 8)
def ZL(n:Nat):avc:=some true
def ZM(s:b_)(aj:Int→avc)(v6:Int):avc:=cond (decide (v6<((s.cZ.length:Nat):Int))) (av (aI v6 s.cZ.length)<|Option.bind (cond (!(cond (!decide ((avb s.cZ v6).Client=s.Client)) true (!decide ((avb s.cZ v6).Seq=(ava (s.Next-(ava (((s.cZ.length:Nat):Int)-v6)))))))) (ZJ n (⟨((avb s.cZ v6).Outcome).Status,((avb s.cZ v6).Outcome).Code,((avb s.cZ v6).Outcome).Out⟩:Outcome)) (some default)) λbH=>cond (cond (cond (!decide ((avb s.cZ v6).Client=s.Client)) true (!decide ((avb s.cZ v6).Seq=(ava (s.Next-(ava (((s.cZ.length:Nat):Int)-v6))))))) true (!bH)) (some false) (aj (ava (v6+1)))) (ZL n)
def Ri(n:Nat)(s:b_):Nat→Int→avc
 | 0=>λ_=>none
 |m+1=>ZM n s (Ri n s m)
def ZN(s:b_):avc:=Option.bind (cond (!(cond (cond (cond (decide (s.Client<1)) true (decide (32<s.Client))) true (decide (s.Next<1))) true (decide (1099511627776<s.Next)))) (ZK n s.Next) (some default)) λr1=>cond (cond (cond (cond (cond (decide (s.Client<1)) true (decide (32<s.Client))) true (decide (s.Next<1))) true (decide (1099511627776<s.Next))) true (!decide (((s.cZ.length:Nat):Int)=r1))) (some false) (Ri n s n 0)
def ZO(n:Nat):avc:=some true
def ZP(l:List b_)(aj:Int→avc)(v6:Int):avc:=cond (decide (v6<((l.length:Nat):Int))) (av (aI v6 l.length)<|(ZN n (avb l v6)).bind λbH=>av ((!bH)||(!(decide (0<v6))||aI v6 l.length))<|av ((!bH)||(!(decide (0<v6))||aI (ava (v6-1)) l.length))<|cond (cond (!bH) true (cond (decide (0<v6)) (decide ((avb l v6).Client≤(avb l (ava (v6-1))).Client)) false)) (some false) (aj (ava (v6+1)))) (ZO n)
def Rj(n:Nat)(l:List b_):Nat→Int→avc
 | 0=>λ_=>none
 |m+1=>ZP n l (Rj n l m)
def ZQ(l:List b_):avc:=Rj n l n 0
def Rk(n:Nat):Option (List au'):=some ([([112,114,111,99]:au'),([108,101,116]:au'),([112,117,116]:au'),([100,101,108,101,116,101]:au'),([105,102]:au'),([101,108,115,101]:au'),([102,111,114]:au'),([116,111]:au'),([109,97,120]:au'),([101,109,105,116]:au'),([97,98,111,114,116]:au'),([110,111,116]:au'),([97,110,100]:au'),([111,114]:au'),([105,110,116]:au'),([115,116,114]:au'),([98,111,111,108]:au'),([116,101,120,116]:au'),([108,101,110]:au'),([103,101,116,105,110,116]:au'),([103,101,116,115,116,114]:au'),([104,97,115]:au'),([110,111,119]:au'),([114,97,110,100,111,109]:au'),([110,111,100,101]:au')]:List au')
def Rl(n:Nat):avc:=some false
def Rm(l:List au')(s:au')(aj:Int→avc)(v3:Int):avc:=cond (decide (v3<((l.length:Nat):Int))) (av (aI v3 l.length)<|cond (decide ((avb l v3)=s)) (some true) (aj (ava (v3+1)))) (Rl n)
def D'(n:Nat)(l:List au')(s:au'):Nat→Int→avc
 | 0=>λ_=>none
 |m+1=>Rm n l s (D' n l s m)
def Rn(l:List au')(s:au'):avc:=D' n l s n 0
def D_(s:au'):avc:=(Rk n).bind λr1=>(Rn n r1 s).bind λr2=>some r2
def Ap(n:Nat)(c:Int):avc:=some (cond (decide (97≤c)) (decide (c≤122)) false)
def Ro(n:Nat)(c:Int):avc:=some (cond (decide (48≤c)) (decide (c≤57)) false)
def Ea(c:Int):avc:=(Ap n c).bind λr1=>Option.bind (cond (!r1) (Ro n c) (some default)) λr2=>some (cond (cond r1 true r2) true (decide (c=95)))
def Rp(n:Nat)(bm:Int):avd:=some bm
def Rq(s:au')(aj:Int→avd)(v4:Int):avd:=av (!(decide (v4<((s.length:Nat):Int)))||aI v4 s.length)<|Option.bind (cond (decide (v4<((s.length:Nat):Int))) (Ea n (((s.getD (v4).toNat 0).toNat:Nat):Int)) (some default)) λaT=>cond (cond (decide (v4<((s.length:Nat):Int))) aT false) (aj (ava (v4+1))) (Rp n v4)
def Eb(n:Nat)(s:au'):Nat→Int→avd
 | 0=>λ_=>none
 |m+1=>Rq n s (Eb n s m)
def JX(s:au')(at_:Int):avd:=Eb n s n at_
def ta(s:au'):avc:=av (!(cond (decide (1≤((s.length:Nat):Int))) (decide (((s.length:Nat):Int)≤16)) false)||aI 0 s.length)<|Option.bind (cond (cond (decide (1≤((s.length:Nat):Int))) (decide (((s.length:Nat):Int)≤16)) false) (Ap n (((s.getD 0 0).toNat:Nat):Int)) (some default)) λr2=>Option.bind (cond (cond (cond (decide (1≤((s.length:Nat):Int))) (decide (((s.length:Nat):Int)≤16)) false) r2 false) (JX n s 0) (some default)) λr3=>Option.bind (cond (cond (cond (cond (decide (1≤((s.length:Nat):Int))) (decide (((s.length:Nat):Int)≤16)) false) r2 false) (decide (r3=((s.length:Nat):Int))) false) (D_ n s) (some default)) λaR=>some (cond (cond (cond (cond (decide (1≤((s.length:Nat):Int))) (decide (((s.length:Nat):Int)≤16)) false) r2 false) (decide (r3=((s.length:Nat):Int))) false) (!aR) false)
def tb(n:Nat)(e:Expr):avc:=some (cond (cond (cond (decide (e.Op=0)) (decide (e.N=0)) false) (decide (e.S=([]:au'))) false) (decide (((e.ax.length:Nat):Int)=0)) false)
def Rr(n:Nat)(nU:(List cA)→Expr→Bool→Option (List cA))(b0:List cA):Option (List cA):=some b0
def Rs(nU:(List cA)→Expr→Bool→Option (List cA))(e:Expr)(aj:(List cA)→Int→Option (List cA))(bp:List cA)(bm:Int):Option (List cA):=cond (cond (decide (bm<((e.ax.length:Nat):Int))) (decide (((bp.length:Nat):Int)≤400)) false) (av (aI bm e.ax.length)<|(nU bp (avb e.ax bm) false).bind λdj=>aj dj (ava (bm+1))) (Rr n nU bp)
def Ec(n:Nat)(nU:(List cA)→Expr→Bool→Option (List cA))(e:Expr):Nat→(List cA)→Int→Option (List cA)
 | 0=>λ_ _=>none
 |m+1=>Rs n nU e (Ec n nU e m)
def Rt(nU:(List cA)→Expr→Bool→Option (List cA))(out:List cA)(e:Expr)(root:Bool):Option (List cA):=cond (decide (400<((out.length:Nat):Int))) (some out) (av (room (out.length+([(⟨false,⟨0,[],0,⟨0,0,[],[]⟩,⟨0,0,[],[]⟩,[],[]⟩,0,e,root⟩:cA)]:List cA).length) 272)<|Ec n nU e n (out++([(⟨false,⟨0,[],0,⟨0,0,[],[]⟩,⟨0,0,[],[]⟩,[],[]⟩,0,e,root⟩:cA)]:List cA)) 0)
def tc:Nat→(List cA)→Expr→Bool→Option (List cA)
 | 0=>λ_ _ _=>none
 |m+1=>Rt m (tc m)
def Ru(n:Nat)(iV:(List cA)→(List Stmt)→Int→Option (List cA))(kC:List cA):Option (List cA):=some kC
def Rv(n:Nat)(iV:(List cA)→(List Stmt)→Int→Option (List cA))(aj:(List cA)→Int→Option (List cA))(l:List Stmt)(depth:Int)(v21:Int)(iS:List cA):Option (List cA):=aj iS (ava (v21+1))
def JY(iV:(List cA)→(List Stmt)→Int→Option (List cA))(aj:(List cA)→Int→Option (List cA))(l:List Stmt)(depth:Int)(v21:Int)(sM:List cA):Option (List cA):=av (aI v21 l.length)<|(iV sM ((avb l v21).Body) (ava (depth+1))).bind λlx=>av (aI v21 l.length)<|(iV lx ((avb l v21).bM) (ava (depth+1))).bind λoQ=>Rv n iV aj l depth v21 oQ
def JZ(iV:(List cA)→(List Stmt)→Int→Option (List cA))(aj:(List cA)→Int→Option (List cA))(l:List Stmt)(depth:Int)(v21:Int)(v28:List cA):Option (List cA):=av (aI v21 l.length)<|(tb n ((avb l v21).B)).bind λhM=>cond (!hM) (av (aI v21 l.length)<|(tc n v28 ((avb l v21).B) true).bind λkW=>JY n iV aj l depth v21 kW) (JY n iV aj l depth v21 v28)
def Rw(iV:(List cA)→(List Stmt)→Int→Option (List cA))(l:List Stmt)(depth:Int)(aj:(List cA)→Int→Option (List cA))(v20:List cA)(v21:Int):Option (List cA):=cond (cond (decide (v21<((l.length:Nat):Int))) (decide (((v20.length:Nat):Int)≤400)) false) (av (aI v21 l.length)<|av (room (v20.length+([(⟨true,⟨(avb l v21).Op,(avb l v21).Name,(avb l v21).Max,⟨((avb l v21).A).Op,((avb l v21).A).N,((avb l v21).A).S,((avb l v21).A).ax⟩,⟨((avb l v21).B).Op,((avb l v21).B).N,((avb l v21).B).S,((avb l v21).B).ax⟩,(avb l v21).Body,(avb l v21).bM⟩,depth,⟨0,0,[],[]⟩,false⟩:cA)]:List cA).length) 272)<|av (aI v21 l.length)<|(tb n ((avb l v21).A)).bind λfi=>cond (!fi) (av (aI v21 l.length)<|(tc n (v20++([(⟨true,⟨(avb l v21).Op,(avb l v21).Name,(avb l v21).Max,⟨((avb l v21).A).Op,((avb l v21).A).N,((avb l v21).A).S,((avb l v21).A).ax⟩,⟨((avb l v21).B).Op,((avb l v21).B).N,((avb l v21).B).S,((avb l v21).B).ax⟩,(avb l v21).Body,(avb l v21).bM⟩,depth,⟨0,0,[],[]⟩,false⟩:cA)]:List cA)) ((avb l v21).A) true).bind λr27=>JZ n iV aj l depth v21 r27) (JZ n iV aj l depth v21 (v20++([(⟨true,⟨(avb l v21).Op,(avb l v21).Name,(avb l v21).Max,⟨((avb l v21).A).Op,((avb l v21).A).N,((avb l v21).A).S,((avb l v21).A).ax⟩,⟨((avb l v21).B).Op,((avb l v21).B).N,((avb l v21).B).S,((avb l v21).B).ax⟩,(avb l v21).Body,(avb l v21).bM⟩,depth,⟨0,0,[],[]⟩,false⟩:cA)]:List cA)))) (Ru n iV v20)
def uT(n:Nat)(iV:(List cA)→(List Stmt)→Int→Option (List cA))(l:List Stmt)(depth:Int):Nat→(List cA)→Int→Option (List cA)
 | 0=>λ_ _=>none
 |m+1=>Rw n iV l depth (uT n iV l depth m)
def Rx(iV:(List cA)→(List Stmt)→Int→Option (List cA))(out:List cA)(l:List Stmt)(depth:Int):Option (List cA):=uT n iV l depth n out 0
def nc:Nat→(List cA)→(List Stmt)→Int→Option (List cA)
 | 0=>λ_ _ _=>none
 |m+1=>Rx m (nc m)
def Ry(p:bb):Option (List cA):=(nc n ([]:List cA) p.Body 1).bind λr1=>some r1
def Rz(n:Nat):avd:=some 0
def RA(n:Nat)(aj:Int→avd)(l:List Param)(bL:Int):avd:=aj (ava (bL+1))
def RB(aj:Int→avd)(l:List Param)(bL:Int)(eQ:Int→avd)(v22:Int):avd:=cond (decide (v22<bL)) (av (aI v22 l.length)<|av (aI bL l.length)<|cond (decide (((avb l v22).Name)=((avb l bL).Name))) (some 8) (eQ (ava (v22+1)))) (RA n aj l bL)
def Aq(n:Nat)(aj:Int→avd)(l:List Param)(bL:Int):Nat→Int→avd
 | 0=>λ_=>none
 |m+1=>RB n aj l bL (Aq n aj l bL m)
def RC(l:List Param)(aj:Int→avd)(bL:Int):avd:=cond (decide (bL<((l.length:Nat):Int))) (av (aI bL l.length)<|(ta n ((avb l bL).Name)).bind λb8=>cond (!b8) (some 7) (av (aI bL l.length)<|av ((decide ((avb l bL).fS<1))||aI bL l.length)<|cond (cond (decide ((avb l bL).fS<1)) true (decide (3<(avb l bL).fS))) (some 10) (Aq n aj l bL n 0))) (Rz n)
def uU(n:Nat)(l:List Param):Nat→Int→avd
 | 0=>λ_=>none
 |m+1=>RC n l (uU n l m)
def J0(l:List Param):avd:=cond (decide (6<((l.length:Nat):Int))) (some 2) (uU n l n 0)
def RD(n:Nat)(op:Int):avd:=cond (cond (decide (4≤op)) (decide (op≤19)) false) (some 2) (some (-1))
def td(op:Int)(v2:Bool):avd:=cond v2 (some 1) (RD n op)
def uV(op:Int)(v1:Bool):avd:=cond v1 (some 0) (cond (decide (op=9)) (td n op (decide (op=9))) (cond (decide (op=18)) (td n op (decide (op=18))) (cond (decide (op=20)) (td n op (decide (op=20))) (cond (decide (op=21)) (td n op (decide (op=21))) (cond (decide (op=22)) (td n op (decide (op=22))) (cond (decide (op=23)) (td n op (decide (op=23))) (td n op (decide (op=24)))))))))
def Ed(op:Int):avd:=cond (decide (op=1)) (uV n op (decide (op=1))) (cond (decide (op=2)) (uV n op (decide (op=2))) (cond (decide (op=3)) (uV n op (decide (op=3))) (cond (decide (op=25)) (uV n op (decide (op=25))) (cond (decide (op=26)) (uV n op (decide (op=26))) (uV n op (decide (op=27)))))))
def RE(n:Nat):avc:=some true
def RF(s:au')(aj:Int→avc)(v5:Int):avc:=cond (decide (v5<((s.length:Nat):Int))) (av (aI v5 s.length)<|av ((decide ((((s.getD (v5).toNat 0).toNat:Nat):Int)<32))||aI v5 s.length)<|cond (cond (decide ((((s.getD (v5).toNat 0).toNat:Nat):Int)<32)) true (decide (126<(((s.getD (v5).toNat 0).toNat:Nat):Int)))) (some false) (aj (ava (v5+1)))) (RE n)
def Ee(n:Nat)(s:au'):Nat→Int→avc
 | 0=>λ_=>none
 |m+1=>RF n s (Ee n s m)
def J1(s:au'):avc:=cond (decide (64<((s.length:Nat):Int))) (some false) (Ee n s n 0)
def J2(e:Expr)(depth:Int):avd:=(Ed n e.Op).bind λr1=>cond (cond (cond (decide (r1<0)) true (cond (!decide (e.Op=1)) (!decide (e.N=0)) false)) true (cond (cond (!decide (e.Op=2)) (!decide (e.Op=3)) false) (!(decide (e.S=([]:au')))) false)) (some 1) (Option.bind (cond (decide (e.Op=3)) (ta n e.S) (some default)) λr3=>cond (cond (decide (e.Op=3)) (!r3) false) (some 7) (Option.bind (cond ((!(decide (e.N<0)))&&(decide (e.Op=2))) (J1 n e.S) (some default)) λbV=>Option.bind (cond (!(cond (decide (e.N<0)) true (cond (decide (e.Op=2)) (!bV) false))) (Ed n e.Op) (some default)) λaT=>cond (cond (cond (decide (e.N<0)) true (cond (decide (e.Op=2)) (!bV) false)) true (!decide (((e.ax.length:Nat):Int)=aT))) (some 1) (cond (decide (12<depth)) (some 2) (some 0))))
def RG(n:Nat)(nV:Expr→Int→avd):avd:=some 0
def RH(nV:Expr→Int→avd)(depth:Int)(e:Expr)(aj:Int→avd)(v6:Int):avd:=cond (decide (v6<((e.ax.length:Nat):Int))) (av (aI v6 e.ax.length)<|(nV (avb e.ax v6) (ava (depth+1))).bind λbH=>cond (!decide (bH=0)) (some bH) (aj (ava (v6+1)))) (RG n nV)
def Ef(n:Nat)(nV:Expr→Int→avd)(depth:Int)(e:Expr):Nat→Int→avd
 | 0=>λ_=>none
 |m+1=>RH n nV depth e (Ef n nV depth e m)
def RI(nV:Expr→Int→avd)(e:Expr)(depth:Int):avd:=(J2 n e depth).bind λr1=>cond (!decide (r1=0)) (some r1) (Ef n nV depth e n 0)
def Ar:Nat→Expr→Int→avd
 | 0=>λ_ _=>none
 |m+1=>RI m (Ar m)
def Eg(e:Expr):avd:=(Ar n e 1).bind λr1=>some r1
def RJ(n:Nat):Option (Bool×Bool×Bool×Bool×Bool×Bool):=some (false,true,false,false,false,false)
def J3(op:Int)(v2:Bool):Option (Bool×Bool×Bool×Bool×Bool×Bool):=cond v2 (some (false,false,true,false,false,false)) (cond (decide (op=5)) (some (false,false,true,false,true,true)) (cond (decide (op=6)) (some (true,true,true,true,true,false)) (RJ n)))
def J4(op:Int)(v1:Bool):Option (Bool×Bool×Bool×Bool×Bool×Bool):=cond v1 (some (true,false,true,false,false,false)) (cond (decide (op=3)) (some (false,false,true,true,false,false)) (cond (decide (op=4)) (J3 n op (decide (op=4))) (J3 n op (decide (op=7)))))
def Eh(op:Int):Option (Bool×Bool×Bool×Bool×Bool×Bool):=cond (decide (op=1)) (J4 n op (decide (op=1))) (J4 n op (decide (op=2)))
def J5(n:Nat)(depth:Int):avd:=cond (decide (12<depth)) (some 2) (some 0)
def J6(depth:Int)(r1:Bool×Bool×Bool×Bool×Bool×Bool)(s:Stmt):avd:=cond r1.2.2.2.1 ((Eg n (⟨s.B.Op,s.B.N,s.B.S,s.B.ax⟩:Expr)).bind λcd=>cond (!decide (cd=0)) (some cd) (J5 n depth)) (J5 n depth)
def J7(s:Stmt)(depth:Int):avd:=(Eh n s.Op).bind λr1=>Option.bind (cond ((!(cond (cond (cond (decide (s.Op<1)) true (decide (8<s.Op))) true (cond (!r1.1) (!(decide (s.Name=([]:au')))) false)) true (cond (!r1.2.1) (!decide (s.Max=0)) false)))&&(!r1.2.2.1)) (tb n (⟨s.A.Op,s.A.N,s.A.S,s.A.ax⟩:Expr)) (some default)) λr2=>Option.bind (cond ((!(cond (cond (cond (cond (decide (s.Op<1)) true (decide (8<s.Op))) true (cond (!r1.1) (!(decide (s.Name=([]:au')))) false)) true (cond (!r1.2.1) (!decide (s.Max=0)) false)) true (cond (!r1.2.2.1) (!r2) false)))&&(!r1.2.2.2.1)) (tb n (⟨s.B.Op,s.B.N,s.B.S,s.B.ax⟩:Expr)) (some default)) λr3=>cond (cond (cond (cond (cond (cond (cond (cond (decide (s.Op<1)) true (decide (8<s.Op))) true (cond (!r1.1) (!(decide (s.Name=([]:au')))) false)) true (cond (!r1.2.1) (!decide (s.Max=0)) false)) true (cond (!r1.2.2.1) (!r2) false)) true (cond (!r1.2.2.2.1) (!r3) false)) true (cond (!r1.2.2.2.2.1) (decide (0<((s.Body.length:Nat):Int))) false)) true (cond (!r1.2.2.2.2.2) (decide (0<((s.bM.length:Nat):Int))) false)) (some 1) (cond (cond (cond (decide (s.Op=6)) (cond (decide (s.Max<1)) true (decide (16<s.Max))) false) true (cond (decide (s.Op=8)) (cond (decide (s.Max<0)) true (decide (999<s.Max))) false)) (some 1) (Option.bind (cond r1.1 (ta n s.Name) (some default)) λaT=>cond (cond r1.1 (!aT) false) (some 7) (cond r1.2.2.1 ((Eg n (⟨s.A.Op,s.A.N,s.A.S,s.A.ax⟩:Expr)).bind λbH=>cond (!decide (bH=0)) (some bH) (J6 n depth r1 s)) (J6 n depth r1 s))))
def RK(n:Nat)(bV:(List cA)):avd:=cond (decide (400<((bV.length:Nat):Int))) (some 2) (some 0)
def J8(n:Nat)(aj:Int→avd)(bV:(List cA))(v11:Int):avd:=aj (ava (v11+1))
def RL(bV:(List cA))(aj:Int→avd)(v11:Int):avd:=cond (decide (v11<((bV.length:Nat):Int))) (av (aI v11 bV.length)<|cond ((avb bV v11).qo) (av (aI v11 bV.length)<|av (aI v11 bV.length)<|(J7 n ((avb bV v11).Stmt) ((avb bV v11).CD)).bind λdx=>cond (!decide (dx=0)) (some dx) (J8 n aj bV v11)) (J8 n aj bV v11)) (RK n bV)
def As(n:Nat)(bV:(List cA)):Nat→Int→avd
 | 0=>λ_=>none
 |m+1=>RL n bV (As n bV m)
def Ei(p:bb):avd:=(ta n p.Name).bind λr1=>cond (!r1) (some 7) ((J0 n p.Params).bind λr3=>cond (!decide (r3=0)) (some r3) ((Ry n p).bind λbV=>As n bV n 0))
def RM(n:Nat)(a:Int):avd:=cond (decide (a<0)) (some (IntKind.u64.wrap (0-(IntKind.u64.wrap a)))) (some (IntKind.u64.wrap a))
def Ej(n:Nat)(dK:Int)(v12:au'):Option au':=cond (decide (dK<0)) (av (b5 (([45]:au').length+v12.length))<|some (([45]:au')++v12)) (some v12)
def te(dK:Int)(aj:Int→au'→Option au')(v6:Int)(bp:au'):Option au':=cond (cond (decide (0<v6)) true (decide (bp=([]:au')))) (av (nC ([(IntKind.u8.wrap (IntKind.u64.wrap (48+(Int.tmod v6 10))))]:List Int))<|av (b5 ((kg ([(IntKind.u8.wrap (IntKind.u64.wrap (48+(Int.tmod v6 10))))]:List Int)).length+bp.length))<|aj (IntKind.u64.wrap (Int.tdiv v6 10)) ((kg ([(IntKind.u8.wrap (IntKind.u64.wrap (48+(Int.tmod v6 10))))]:List Int))++bp)) (Ej n dK bp)
def qx(n:Nat)(dK:Int):Nat→Int→au'→Option au'
 | 0=>λ_ _=>none
 |m+1=>te n dK (qx n dK m)
def xk(dK:Int):Option au':=(RM n dK).bind λr1=>qx n dK n r1 ([]:au')
def RN(n:Nat)(v9:au'):Option au':=some v9
def RO(depth:Int)(aj:au'→Int→Option au')(v4:au')(v5:Int):Option au':=cond (decide (v5<depth)) (av (b5 (v4.length+([32,32,32,32]:au').length))<|aj (v4++([32,32,32,32]:au')) (ava (v5+1))) (RN n v4)
def Ek(n:Nat)(depth:Int):Nat→au'→Int→Option au'
 | 0=>λ_ _=>none
 |m+1=>RO n depth (Ek n depth m)
def RP(depth:Int):Option au':=Ek n depth n ([]:au') 0
def RQ(n:Nat):avc:=some true
def RR(s:au')(aj:Int→avc)(v4:Int):avc:=cond (decide (v4<((s.length:Nat):Int))) (av (aI v4 s.length)<|av ((decide ((((s.getD (v4).toNat 0).toNat:Nat):Int)<32))||aI v4 s.length)<|cond (cond (decide ((((s.getD (v4).toNat 0).toNat:Nat):Int)<32)) true (decide (126<(((s.getD (v4).toNat 0).toNat:Nat):Int)))) (some false) (aj (ava (v4+1)))) (RQ n)
def At(n:Nat)(s:au'):Nat→Int→avc
 | 0=>λ_=>none
 |m+1=>RR n s (At n s m)
def RS(s:au'):avc:=At n s n 0
def RT(n:Nat)(v24:au'):Option (au'×Int):=av (b5 (v24.length+([34]:au').length))<|some ((v24++([34]:au')),0)
def RU(n:Nat)(aj:au'→Int→Option (au'×Int))(s:au')(bL:Int)(v21:au'):Option (au'×Int):=aj v21 (ava (bL+1))
def J9(aj:au'→Int→Option (au'×Int))(s:au')(bL:Int)(cl:au'):Option (au'×Int):=av (l4 bL (ava (bL+1)) s.length)<|av (b5 (cl.length+((s.take ((ava (bL+1))).toNat).drop (bL).toNat).length))<|RU n aj s bL (cl++((s.take ((ava (bL+1))).toNat).drop (bL).toNat))
def RV(s:au')(aj:au'→Int→Option (au'×Int))(b0:au')(bL:Int):Option (au'×Int):=cond (decide (bL<((s.length:Nat):Int))) (av (aI bL s.length)<|av ((decide ((((s.getD (bL).toNat 0).toNat:Nat):Int)=34))||aI bL s.length)<|cond (cond (decide ((((s.getD (bL).toNat 0).toNat:Nat):Int)=34)) true (decide ((((s.getD (bL).toNat 0).toNat:Nat):Int)=92))) (av (b5 (b0.length+([92]:au').length))<|J9 n aj s bL (b0++([92]:au'))) (J9 n aj s bL b0)) (RT n b0)
def El(n:Nat)(s:au'):Nat→au'→Int→Option (au'×Int)
 | 0=>λ_ _=>none
 |m+1=>RV n s (El n s m)
def J'(s:au'):Option (au'×Int):=cond (decide (64<((s.length:Nat):Int))) (some (([]:au'),2)) ((RS n s).bind λr2=>cond (!r2) (some (([]:au'),1)) (El n s n ([34]:au') 0))
def ZR(n:Nat):avd:=some 9
def J_(op:Int)(v3:Bool):avd:=cond v3 (some 7) (cond (decide (op=9)) (some 8) (ZR n))
def RW(op:Int)(v2:Bool):avd:=cond v2 (some 6) (cond (decide (op=6)) (J_ n op (decide (op=6))) (cond (decide (op=7)) (J_ n op (decide (op=7))) (J_ n op (decide (op=8)))))
def xl(op:Int)(v1:Bool):avd:=cond v1 (some 4) (cond (decide (op=19)) (some 5) (cond (decide (op=4)) (RW n op (decide (op=4))) (RW n op (decide (op=5)))))
def Ka(op:Int):avd:=cond (decide (op=17)) (some 1) (cond (decide (op=16)) (some 2) (cond (decide (op=18)) (some 3) (cond (decide (op=10)) (xl n op (decide (op=10))) (cond (decide (op=11)) (xl n op (decide (op=11))) (cond (decide (op=12)) (xl n op (decide (op=12))) (cond (decide (op=13)) (xl n op (decide (op=13))) (cond (decide (op=14)) (xl n op (decide (op=14))) (xl n op (decide (op=15))))))))))
def Kb(n:Nat)(op:Int):Option au':=cond (decide (op=17)) (some ([111,114]:au')) (cond (decide (op=16)) (some ([97,110,100]:au')) (cond (decide (op=10)) (some ([61,61]:au')) (cond (decide (op=11)) (some ([33,61]:au')) (cond (decide (op=12)) (some ([60]:au')) (cond (decide (op=13)) (some ([60,61]:au')) (cond (decide (op=14)) (some ([62]:au')) (cond (decide (op=15)) (some ([62,61]:au')) (cond (decide (op=19)) (some ([43,43]:au')) (cond (decide (op=4)) (some ([43]:au')) (cond (decide (op=5)) (some ([45]:au')) (cond (decide (op=6)) (some ([42]:au')) (cond (decide (op=7)) (some ([47]:au')) (some ([37]:au'))))))))))))))
def Kc(n:Nat)(op:Int):Option au':=cond (decide (op=20)) (some ([116,101,120,116]:au')) (cond (decide (op=21)) (some ([108,101,110]:au')) (cond (decide (op=22)) (some ([103,101,116,105,110,116]:au')) (cond (decide (op=23)) (some ([103,101,116,115,116,114]:au')) (cond (decide (op=24)) (some ([104,97,115]:au')) (cond (decide (op=25)) (some ([110,111,119]:au')) (cond (decide (op=26)) (some ([114,97,110,100,111,109]:au')) (some ([110,111,100,101]:au'))))))))
def Kd(rJ:Expr→Option au')(oS:Expr→Int→Option au')(e:Expr):Option au':=(Ka n e.Op).bind λr1=>cond (decide (e.Op=1)) ((xk n e.N).bind λr3=>some r3) (cond (decide (e.Op=2)) ((J' n e.S).bind λbV=>some bV.1) (cond (decide (e.Op=3)) (some e.S) (cond (decide (e.Op=18)) (av (aI 0 e.ax.length)<|(oS (e.ax.getD 0 default) r1).bind λcd=>av (b5 (([110,111,116,32]:au').length+cd.length))<|some (([110,111,116,32]:au')++cd)) (cond (decide (e.Op=9)) (av (aI 0 e.ax.length)<|(oS (e.ax.getD 0 default) r1).bind λde=>av (b5 (([45]:au').length+de.length))<|some (([45]:au')++de)) (cond (cond (decide (r1=9)) (decide (((e.ax.length:Nat):Int)=0)) false) ((Kc n e.Op).bind λb8=>av (b5 (b8.length+([40,41]:au').length))<|some (b8++([40,41]:au'))) (cond (decide (r1=9)) ((Kc n e.Op).bind λeW=>av (b5 (eW.length+([40]:au').length))<|av (aI 0 e.ax.length)<|(rJ (e.ax.getD 0 default)).bind λdp=>av (b5 ((eW++([40]:au')).length+dp.length))<|av (b5 (((eW++([40]:au'))++dp).length+([41]:au').length))<|some (((eW++([40]:au'))++dp)++([41]:au'))) (cond (decide (r1=4)) (av (aI 0 e.ax.length)<|(oS (e.ax.getD 0 default) 5).bind λr27=>av (b5 (r27.length+([32]:au').length))<|(Kb n e.Op).bind λfF=>av (b5 ((r27++([32]:au')).length+fF.length))<|av (b5 (((r27++([32]:au'))++fF).length+([32]:au').length))<|av (aI 1 e.ax.length)<|(oS (e.ax.getD 1 default) 5).bind λnI=>av (b5 ((((r27++([32]:au'))++fF)++([32]:au')).length+nI.length))<|some ((((r27++([32]:au'))++fF)++([32]:au'))++nI)) (av (aI 0 e.ax.length)<|(oS (e.ax.getD 0 default) r1).bind λoL=>av (b5 (oL.length+([32]:au').length))<|(Kb n e.Op).bind λqs=>av (b5 ((oL++([32]:au')).length+qs.length))<|av (b5 (((oL++([32]:au'))++qs).length+([32]:au').length))<|av (aI 1 e.ax.length)<|(oS (e.ax.getD 1 default) (ava (r1+1))).bind λhU=>av (b5 ((((oL++([32]:au'))++qs)++([32]:au')).length+hU.length))<|some ((((oL++([32]:au'))++qs)++([32]:au'))++hU)))))))))
def Ke(rJ:Expr→Option au')(oS:Expr→Int→Option au')(e:Expr)(least:Int):Option au':=(Ka n e.Op).bind λr1=>cond (decide (r1<least)) ((rJ e).bind λr3=>av (b5 (([40]:au').length+r3.length))<|av (b5 ((([40]:au')++r3).length+([41]:au').length))<|some ((([40]:au')++r3)++([41]:au'))) ((rJ e).bind λaT=>some aT)
def Au:Nat→(Expr→Option au')×(Expr→Int→Option au')
 | 0=>(λ_=>none,λ_ _=>none)
 |m+1=>(Kd m ((Au m).1) ((Au m).2),Ke m ((Au m).1) ((Au m).2))
def ly:Expr→Option au':=(Au n).1
def xm:Expr→Int→Option au':=(Au n).2
def RX(n:Nat)(jA:(List Stmt)→Int→Option au')(kh:Stmt→Int→Option au')(b0:au'):Option au':=some b0
def RY(jA:(List Stmt)→Int→Option au')(kh:Stmt→Int→Option au')(l:List Stmt)(depth:Int)(aj:au'→Int→Option au')(v6:au')(bp:Int):Option au':=cond (decide (bp<((l.length:Nat):Int))) (av (aI bp l.length)<|(kh (avb l bp) depth).bind λcd=>av (b5 (v6.length+cd.length))<|aj (v6++cd) (ava (bp+1))) (RX n jA kh v6)
def Em(n:Nat)(jA:(List Stmt)→Int→Option au')(kh:Stmt→Int→Option au')(l:List Stmt)(depth:Int):Nat→au'→Int→Option au'
 | 0=>λ_ _=>none
 |m+1=>RY n jA kh l depth (Em n jA kh l depth m)
def Kf(jA:(List Stmt)→Int→Option au')(kh:Stmt→Int→Option au')(l:List Stmt)(depth:Int):Option au':=Em n jA kh l depth n ([]:au') 0
def En(n:Nat)(jA:(List Stmt)→Int→Option au')(kh:Stmt→Int→Option au')(Eo:au'):Option au':=av (b5 (Eo.length+([10]:au').length))<|some (Eo++([10]:au'))
def Kg(jA:(List Stmt)→Int→Option au')(kh:Stmt→Int→Option au')(x:Stmt)(depth:Int):Option au':=(RP n depth).bind λr1=>cond (decide (x.Op=1)) (av (b5 (r1.length+([108,101,116,32]:au').length))<|av (b5 ((r1++([108,101,116,32]:au')).length+x.Name.length))<|av (b5 (((r1++([108,101,116,32]:au'))++x.Name).length+([32,61,32]:au').length))<|(ly n (⟨x.A.Op,x.A.N,x.A.S,x.A.ax⟩:Expr)).bind λaT=>av (b5 ((((r1++([108,101,116,32]:au'))++x.Name)++([32,61,32]:au')).length+aT.length))<|av (b5 (((((r1++([108,101,116,32]:au'))++x.Name)++([32,61,32]:au'))++aT).length+([59,10]:au').length))<|some (((((r1++([108,101,116,32]:au'))++x.Name)++([32,61,32]:au'))++aT)++([59,10]:au'))) (cond (decide (x.Op=2)) (av (b5 (r1.length+x.Name.length))<|av (b5 ((r1++x.Name).length+([32,61,32]:au').length))<|(ly n (⟨x.A.Op,x.A.N,x.A.S,x.A.ax⟩:Expr)).bind λcq=>av (b5 (((r1++x.Name)++([32,61,32]:au')).length+cq.length))<|av (b5 ((((r1++x.Name)++([32,61,32]:au'))++cq).length+([59,10]:au').length))<|some ((((r1++x.Name)++([32,61,32]:au'))++cq)++([59,10]:au'))) (cond (decide (x.Op=3)) (av (b5 (r1.length+([112,117,116,32]:au').length))<|(ly n (⟨x.A.Op,x.A.N,x.A.S,x.A.ax⟩:Expr)).bind λdf=>av (b5 ((r1++([112,117,116,32]:au')).length+df.length))<|av (b5 (((r1++([112,117,116,32]:au'))++df).length+([32,61,32]:au').length))<|(ly n (⟨x.B.Op,x.B.N,x.B.S,x.B.ax⟩:Expr)).bind λdW=>av (b5 ((((r1++([112,117,116,32]:au'))++df)++([32,61,32]:au')).length+dW.length))<|av (b5 (((((r1++([112,117,116,32]:au'))++df)++([32,61,32]:au'))++dW).length+([59,10]:au').length))<|some (((((r1++([112,117,116,32]:au'))++df)++([32,61,32]:au'))++dW)++([59,10]:au'))) (cond (decide (x.Op=4)) (av (b5 (r1.length+([100,101,108,101,116,101,32]:au').length))<|(ly n (⟨x.A.Op,x.A.N,x.A.S,x.A.ax⟩:Expr)).bind λfi=>av (b5 ((r1++([100,101,108,101,116,101,32]:au')).length+fi.length))<|av (b5 (((r1++([100,101,108,101,116,101,32]:au'))++fi).length+([59,10]:au').length))<|some (((r1++([100,101,108,101,116,101,32]:au'))++fi)++([59,10]:au'))) (cond (decide (x.Op=7)) (av (b5 (r1.length+([101,109,105,116,32]:au').length))<|(ly n (⟨x.A.Op,x.A.N,x.A.S,x.A.ax⟩:Expr)).bind λhM=>av (b5 ((r1++([101,109,105,116,32]:au')).length+hM.length))<|av (b5 (((r1++([101,109,105,116,32]:au'))++hM).length+([59,10]:au').length))<|some (((r1++([101,109,105,116,32]:au'))++hM)++([59,10]:au'))) (cond (decide (x.Op=8)) (av (b5 (r1.length+([97,98,111,114,116,32]:au').length))<|(xk n x.Max).bind λlx=>av (b5 ((r1++([97,98,111,114,116,32]:au')).length+lx.length))<|av (b5 (((r1++([97,98,111,114,116,32]:au'))++lx).length+([59,10]:au').length))<|some (((r1++([97,98,111,114,116,32]:au'))++lx)++([59,10]:au'))) (cond (decide (x.Op=6)) (av (b5 (r1.length+([102,111,114,32]:au').length))<|av (b5 ((r1++([102,111,114,32]:au')).length+x.Name.length))<|av (b5 (((r1++([102,111,114,32]:au'))++x.Name).length+([32,61,32]:au').length))<|(ly n (⟨x.A.Op,x.A.N,x.A.S,x.A.ax⟩:Expr)).bind λhU=>av (b5 ((((r1++([102,111,114,32]:au'))++x.Name)++([32,61,32]:au')).length+hU.length))<|av (b5 (((((r1++([102,111,114,32]:au'))++x.Name)++([32,61,32]:au'))++hU).length+([32,116,111,32]:au').length))<|(ly n (⟨x.B.Op,x.B.N,x.B.S,x.B.ax⟩:Expr)).bind λjy=>av (b5 ((((((r1++([102,111,114,32]:au'))++x.Name)++([32,61,32]:au'))++hU)++([32,116,111,32]:au')).length+jy.length))<|av (b5 (((((((r1++([102,111,114,32]:au'))++x.Name)++([32,61,32]:au'))++hU)++([32,116,111,32]:au'))++jy).length+([32,109,97,120,32]:au').length))<|(xk n x.Max).bind λrD=>av (b5 ((((((((r1++([102,111,114,32]:au'))++x.Name)++([32,61,32]:au'))++hU)++([32,116,111,32]:au'))++jy)++([32,109,97,120,32]:au')).length+rD.length))<|av (b5 (((((((((r1++([102,111,114,32]:au'))++x.Name)++([32,61,32]:au'))++hU)++([32,116,111,32]:au'))++jy)++([32,109,97,120,32]:au'))++rD).length+([32,123,10]:au').length))<|(jA x.Body (ava (depth+1))).bind λqu=>av (b5 ((((((((((r1++([102,111,114,32]:au'))++x.Name)++([32,61,32]:au'))++hU)++([32,116,111,32]:au'))++jy)++([32,109,97,120,32]:au'))++rD)++([32,123,10]:au')).length+qu.length))<|av (b5 (((((((((((r1++([102,111,114,32]:au'))++x.Name)++([32,61,32]:au'))++hU)++([32,116,111,32]:au'))++jy)++([32,109,97,120,32]:au'))++rD)++([32,123,10]:au'))++qu).length+r1.length))<|av (b5 ((((((((((((r1++([102,111,114,32]:au'))++x.Name)++([32,61,32]:au'))++hU)++([32,116,111,32]:au'))++jy)++([32,109,97,120,32]:au'))++rD)++([32,123,10]:au'))++qu)++r1).length+([125,10]:au').length))<|some ((((((((((((r1++([102,111,114,32]:au'))++x.Name)++([32,61,32]:au'))++hU)++([32,116,111,32]:au'))++jy)++([32,109,97,120,32]:au'))++rD)++([32,123,10]:au'))++qu)++r1)++([125,10]:au'))) (av (b5 (r1.length+([105,102,32]:au').length))<|(ly n (⟨x.A.Op,x.A.N,x.A.S,x.A.ax⟩:Expr)).bind λfj=>av (b5 ((r1++([105,102,32]:au')).length+fj.length))<|av (b5 (((r1++([105,102,32]:au'))++fj).length+([32,123,10]:au').length))<|(jA x.Body (ava (depth+1))).bind λnO=>av (b5 ((((r1++([105,102,32]:au'))++fj)++([32,123,10]:au')).length+nO.length))<|av (b5 (((((r1++([105,102,32]:au'))++fj)++([32,123,10]:au'))++nO).length+r1.length))<|av (b5 ((((((r1++([105,102,32]:au'))++fj)++([32,123,10]:au'))++nO)++r1).length+([125]:au').length))<|cond (decide (0<((x.bM.length:Nat):Int))) (av (b5 (((((((r1++([105,102,32]:au'))++fj)++([32,123,10]:au'))++nO)++r1)++([125]:au')).length+([32,101,108,115,101,32,123,10]:au').length))<|(jA x.bM (ava (depth+1))).bind λkY=>av (b5 ((((((((r1++([105,102,32]:au'))++fj)++([32,123,10]:au'))++nO)++r1)++([125]:au'))++([32,101,108,115,101,32,123,10]:au')).length+kY.length))<|av (b5 (((((((((r1++([105,102,32]:au'))++fj)++([32,123,10]:au'))++nO)++r1)++([125]:au'))++([32,101,108,115,101,32,123,10]:au'))++kY).length+r1.length))<|av (b5 ((((((((((r1++([105,102,32]:au'))++fj)++([32,123,10]:au'))++nO)++r1)++([125]:au'))++([32,101,108,115,101,32,123,10]:au'))++kY)++r1).length+([125]:au').length))<|En n jA kh ((((((((((r1++([105,102,32]:au'))++fj)++([32,123,10]:au'))++nO)++r1)++([125]:au'))++([32,101,108,115,101,32,123,10]:au'))++kY)++r1)++([125]:au'))) (En n jA kh ((((((r1++([105,102,32]:au'))++fj)++([32,123,10]:au'))++nO)++r1)++([125]:au'))))))))))
def Av:Nat→((List Stmt)→Int→Option au')×(Stmt→Int→Option au')
 | 0=>(λ_ _=>none,λ_ _=>none)
 |m+1=>(Kf m ((Av m).1) ((Av m).2),Kg m ((Av m).1) ((Av m).2))
def rK:(List Stmt)→Int→Option au':=(Av n).1
def Aw:Stmt→Int→Option au':=(Av n).2
def RZ(n:Nat)(ty:Int):Option au':=cond (decide (ty=1)) (some ([105,110,116]:au')) (cond (decide (ty=2)) (some ([115,116,114]:au')) (some ([98,111,111,108]:au')))
def R0(p:bb)(hT:au'):Option au':=av (b5 (hT.length+([41,32,123,10]:au').length))<|(rK n p.Body 1).bind λfN=>av (b5 ((hT++([41,32,123,10]:au')).length+fN.length))<|av (b5 (((hT++([41,32,123,10]:au'))++fN).length+([125,10]:au').length))<|some (((hT++([41,32,123,10]:au'))++fN)++([125,10]:au'))
def R1(n:Nat)(aj:au'→Int→Option au')(aV:Int)(p:bb)(v26:au'):Option au':=aj v26 (ava (aV+1))
def Kh(aj:au'→Int→Option au')(aV:Int)(p:bb)(bZ:au'):Option au':=av (aI aV p.Params.length)<|av (b5 (bZ.length+((avb p.Params aV).Name).length))<|av (b5 ((bZ++((avb p.Params aV).Name)).length+([58,32]:au').length))<|av (aI aV p.Params.length)<|(RZ n ((avb p.Params aV).fS)).bind λr24=>av (b5 (((bZ++((avb p.Params aV).Name))++([58,32]:au')).length+r24.length))<|R1 n aj aV p (((bZ++((avb p.Params aV).Name))++([58,32]:au'))++r24)
def R2(p:bb)(aj:au'→Int→Option au')(cW:au')(aV:Int):Option au':=cond (decide (aV<((p.Params.length:Nat):Int))) (cond (decide (0<aV)) (av (b5 (cW.length+([44,32]:au').length))<|Kh n aj aV p (cW++([44,32]:au'))) (Kh n aj aV p cW)) (R0 n p cW)
def Ep(n:Nat)(p:bb):Nat→au'→Int→Option au'
 | 0=>λ_ _=>none
 |m+1=>R2 n p (Ep n p m)
def xn(p:bb):Option au':=(Ei n p).bind λr1=>cond (!decide (r1=0)) (some ([]:au')) (av (b5 (([112,114,111,99,32]:au').length+p.Name.length))<|av (b5 ((([112,114,111,99,32]:au')++p.Name).length+([40]:au').length))<|Ep n p n ((([112,114,111,99,32]:au')++p.Name)++([40]:au')) 0)
def ZS(n:Nat)(l:List bb):avc:=some (decide (((l.length:Nat):Int)≤16))
def ZT(l:List bb)(aj:Int→avc)(v6:Int):avc:=cond (decide (v6<((l.length:Nat):Int))) (av (aI v6 l.length)<|(xn n (avb l v6)).bind λbH=>av ((cond (decide (bH=([]:au'))) true (decide (16384<((bH.length:Nat):Int))))||(!(decide (0<v6))||aI (ava (v6-1)) l.length))<|av ((cond (decide (bH=([]:au'))) true (decide (16384<((bH.length:Nat):Int))))||(!(decide (0<v6))||aI v6 l.length))<|cond (cond (cond (decide (bH=([]:au'))) true (decide (16384<((bH.length:Nat):Int)))) true (cond (decide (0<v6)) (!(Op.bytesLess ((avb l (ava (v6-1))).Name) ((avb l v6).Name))) false)) (some false) (aj (ava (v6+1)))) (ZS n l)
def R3(n:Nat)(l:List bb):Nat→Int→avc
 | 0=>λ_=>none
 |m+1=>ZT n l (R3 n l m)
def ZU(l:List bb):avc:=R3 n l n 0
def ZV(n:Nat):avc:=some true
def ZW(l:List au')(aj:Int→avc)(v6:Int):avc:=cond (decide (v6<((l.length:Nat):Int))) (av (aI v6 l.length)<|(xj n (avb l v6)).bind λbH=>av ((!bH)||(!(decide (0<v6))||aI (ava (v6-1)) l.length))<|av ((!bH)||(!(decide (0<v6))||aI v6 l.length))<|cond (cond (!bH) true (cond (decide (0<v6)) (!(Op.bytesLess (avb l (ava (v6-1))) (avb l v6))) false)) (some false) (aj (ava (v6+1)))) (ZV n)
def R4(n:Nat)(l:List au'):Nat→Int→avc
 | 0=>λ_=>none
 |m+1=>ZW n l (R4 n l m)
def R5(l:List au'):avc:=R4 n l n 0
def ZX(f:gP):avc:=cond f.fh (some (cond (decide (((f.Reads.length:Nat):Int)=0)) (decide (((f.dI.length:Nat):Int)=0)) false)) (Option.bind (cond (cond (decide (((f.Reads.length:Nat):Int)≤64)) (decide (((f.dI.length:Nat):Int)≤64)) false) (R5 n f.Reads) (some default)) λr2=>Option.bind (cond (cond (cond (decide (((f.Reads.length:Nat):Int)≤64)) (decide (((f.dI.length:Nat):Int)≤64)) false) r2 false) (R5 n f.dI) (some default)) λr3=>some (cond (cond (cond (decide (((f.Reads.length:Nat):Int)≤64)) (decide (((f.dI.length:Nat):Int)≤64)) false) r2 false) r3 false))
def ZY(ah:Request):avd:=(ZX n ah.bU).bind λep=>cond (cond (cond (!ep) true ah.bU.fh) true (cond (!ah.fE) (decide (0<(ava (((ah.bU.Reads.length:Nat):Int)+((ah.bU.dI.length:Nat):Int))))) false)) (some 1) (some 0)
def ZZ(ah:Request)(aj:Int→avd)(v9:Int):avd:=cond (decide (v9<((ah.ax.length:Nat):Int))) (av (aI v9 ah.ax.length)<|(xi n (avb ah.ax v9)).bind λbx=>av ((!bx)||aI v9 ah.ax.length)<|cond (cond (!bx) true (decide ((avb ah.ax v9).Kind=0))) (some 1) (aj (ava (v9+1)))) (ZY n ah)
def R6(n:Nat)(ah:Request):Nat→Int→avd
 | 0=>λ_=>none
 |m+1=>ZZ n ah (R6 n ah m)
def Z0(ah:Request):avd:=cond (cond (cond (cond (decide (ah.Client<1)) true (decide (32<ah.Client))) true (decide (ah.Seq<1))) true (decide (1099511627776<ah.Seq))) (some 1) ((ta n ah.bb).bind λr2=>cond (!r2) (some 7) (cond (decide (6<((ah.ax.length:Nat):Int))) (some 2) (R6 n ah n 0)))
def Z1(n:Nat)(l:List Request):avc:=some (decide (((l.length:Nat):Int)≤64))
def Z2(l:List Request)(aj:Int→avc)(v4:Int):avc:=cond (decide (v4<((l.length:Nat):Int))) (av (aI v4 l.length)<|(Z0 n (avb l v4)).bind λaT=>cond (!decide (aT=0)) (some false) (aj (ava (v4+1)))) (Z1 n l)
def R7(n:Nat)(l:List Request):Nat→Int→avc
 | 0=>λ_=>none
 |m+1=>Z2 n l (R7 n l m)
def Z3(l:List Request):avc:=R7 n l n 0
def Z4(ah:bN):avc:=Option.bind (cond (cond (decide (0≤ah.Pos)) (decide (ah.Pos≤1099511627776)) false) (JS n ah.aw) (some default)) λr1=>Option.bind (cond (cond (cond (cond (decide (0≤ah.Pos)) (decide (ah.Pos≤1099511627776)) false) r1 false) (decide (ah.aw.bv=ah.Pos)) false) (ZU n ah.cj) (some default)) λr2=>Option.bind (cond (cond (cond (cond (cond (decide (0≤ah.Pos)) (decide (ah.Pos≤1099511627776)) false) r1 false) (decide (ah.aw.bv=ah.Pos)) false) r2 false) (ZQ n ah.cp) (some default)) λr3=>Option.bind (cond (cond (cond (cond (cond (cond (decide (0≤ah.Pos)) (decide (ah.Pos≤1099511627776)) false) r1 false) (decide (ah.aw.bv=ah.Pos)) false) r2 false) r3 false) (ZC n ah.Place) (some default)) λaR=>Option.bind (cond (cond (cond (cond (cond (cond (cond (decide (0≤ah.Pos)) (decide (ah.Pos≤1099511627776)) false) r1 false) (decide (ah.aw.bv=ah.Pos)) false) r2 false) r3 false) aR false) (ZF n ah.bg) (some default)) λbV=>Option.bind (cond (cond (cond (cond (cond (cond (cond (cond (decide (0≤ah.Pos)) (decide (ah.Pos≤1099511627776)) false) r1 false) (decide (ah.aw.bv=ah.Pos)) false) r2 false) r3 false) aR false) bV false) (Z3 n ah.Queue) (some default)) λaT=>some (cond (cond (cond (cond (cond (cond (cond (cond (decide (0≤ah.Pos)) (decide (ah.Pos≤1099511627776)) false) r1 false) (decide (ah.aw.bv=ah.Pos)) false) r2 false) r3 false) aR false) bV false) aT false)
def R8(ah:bN):Option (bN×Int):=(Z4 n ah).bind λr1=>cond (!r1) (some ((⟨0,⟨0,0,[]⟩,[],[],⟨0,[]⟩,[],[],0⟩:bN),1)) ((Zt n ah.aw ah.Pos).bind λr3=>(An n r3.1 ah.Pos).bind λaR=>some ((⟨ah.Pos,aR.1,ah.cj,ah.cp,ah.Place,ah.bg,ah.Queue,ah.cz⟩:bN),0))
def Z5(a:bN)(b:bN):avc:=(R8 n a).bind λr1=>(R8 n b).bind λr2=>Option.bind (cond (cond (decide (r1.2=0)) (decide (r2.2=0)) false) (Zp n r1.1 r2.1) (some default)) λr3=>some (cond (cond (decide (r1.2=0)) (decide (r2.2=0)) false) r3 false)
def Ax:avc:=(Ym n).bind λr1=>(D0 n r1).bind λr2=>(xh n r2.1 r1.aw 2).bind λr3=>(YN n r1.aw 6 ([(⟨[99],⟨0,0,[]⟩⟩:aU)]:List aU)).bind λaR=>(Af n r3.1 ([120]:au')).bind λbV=>(xh n bV aR.1 2).bind λaT=>(xe n aT.1).bind λbO=>(D4 n bO.1).bind λbH=>(xe n r3.1).bind λcd=>cond (cond (cond (cond (cond (cond (!decide (r2.2=0)) true (!decide (r3.2=0))) true (!decide (aT.2=0))) true (!decide (bO.2.2=0))) true (!decide (bH.2.2=0))) true (!decide (cd.2.2=16))) (some false) (Option.bind (cond (cond (cond (cond (cond (cond (cond (cond (decide (r2.1.cg=5)) (decide (((r3.1.e_.length:Nat):Int)=2)) false) (decide (r3.1.Next=([99]:au'))) false) (!r3.1.dQ) false) (decide (((aT.1.e_.length:Nat):Int)=3)) false) (decide (aT.1.Next=([]:au'))) false) aT.1.dQ false) (decide (bO.2.1=6)) false) (Z5 n bH.1 r1) (some default)) λbx=>Option.bind (cond (cond (cond (cond (cond (cond (cond (cond (cond (decide (r2.1.cg=5)) (decide (((r3.1.e_.length:Nat):Int)=2)) false) (decide (r3.1.Next=([99]:au'))) false) (!r3.1.dQ) false) (decide (((aT.1.e_.length:Nat):Int)=3)) false) (decide (aT.1.Next=([]:au'))) false) aT.1.dQ false) (decide (bO.2.1=6)) false) bx false) (JR n bH.2.1 ([([120]:au')]:List au')) (some default)) λcq=>some (cond (cond (cond (cond (cond (cond (cond (cond (cond (decide (r2.1.cg=5)) (decide (((r3.1.e_.length:Nat):Int)=2)) false) (decide (r3.1.Next=([99]:au'))) false) (!r3.1.dQ) false) (decide (((aT.1.e_.length:Nat):Int)=3)) false) (decide (aT.1.Next=([]:au'))) false) aT.1.dQ false) (decide (bO.2.1=6)) false) bx false) cq false))
def Z6(n:Nat)(v11:Int):avd:=some v11
def R9(n:Nat)(aj:Int→Int→avd)(s:au')(at_:Int)(v6:Int)(bm:Int):avd:=aj bm (ava (v6+1))
def Z7(s:au')(at_:Int)(aj:Int→Int→avd)(v5:Int)(v6:Int):avd:=cond (decide (v6<at_)) (av (aI v6 s.length)<|cond (decide ((((s.getD (v6).toNat 0).toNat:Nat):Int)=10)) (R9 n aj s at_ v6 (ava (v5+1))) (R9 n aj s at_ v6 v5)) (Z6 n v5)
def Ki(n:Nat)(s:au')(at_:Int):Nat→Int→Int→avd
 | 0=>λ_ _=>none
 |m+1=>Z7 n s at_ (Ki n s at_ m)
def R'(s:au')(at_:Int):avd:=Ki n s at_ n 0 0
def Z8(n:Nat)(v22:Int):avd:=some v22
def Z9(n:Nat)(aj:Int→avd)(s:au')(fp:Int→avd)(br:Int):avd:=av (!(decide (br<((s.length:Nat):Int)))||aI br s.length)<|cond (cond (decide (br<((s.length:Nat):Int))) (!decide ((((s.getD (br).toNat 0).toNat:Nat):Int)=10)) false) (fp (ava (br+1))) (aj br)
def Kj(n:Nat)(aj:Int→avd)(s:au'):Nat→Int→avd
 | 0=>λ_=>none
 |m+1=>Z9 n aj s (Kj n aj s m)
def Z'(s:au')(aj:Int→avd)(v11:Int):avd:=cond (decide (v11<((s.length:Nat):Int))) (av (aI v11 s.length)<|cond (decide ((((s.getD (v11).toNat 0).toNat:Nat):Int)=35)) (Kj n aj s n v11) (av (aI v11 s.length)<|av ((decide ((((s.getD (v11).toNat 0).toNat:Nat):Int)=32))||aI v11 s.length)<|av ((cond (decide ((((s.getD (v11).toNat 0).toNat:Nat):Int)=32)) true (decide ((((s.getD (v11).toNat 0).toNat:Nat):Int)=9)))||aI v11 s.length)<|cond (cond (cond (decide ((((s.getD (v11).toNat 0).toNat:Nat):Int)=32)) true (decide ((((s.getD (v11).toNat 0).toNat:Nat):Int)=9))) true (decide ((((s.getD (v11).toNat 0).toNat:Nat):Int)=10))) (aj (ava (v11+1))) (some v11))) (Z8 n v11)
def Kk(n:Nat)(s:au'):Nat→Int→avd
 | 0=>λ_=>none
 |m+1=>Z' n s (Kk n s m)
def Kl(s:au')(at_:Int):avd:=Kk n s n at_
def Z_(n:Nat):Option (List au'):=some ([([61,61]:au'),([33,61]:au'),([60,61]:au'),([62,61]:au'),([43,43]:au'),([40]:au'),([41]:au'),([123]:au'),([125]:au'),([44]:au'),([59]:au'),([58]:au'),([61]:au'),([60]:au'),([62]:au'),([43]:au'),([45]:au'),([42]:au'),([47]:au'),([37]:au')]:List au')
def aaa(n:Nat)(s:au'):avc:=av (!(decide (0<((s.length:Nat):Int)))||aI 0 s.length)<|some (cond (decide (0<((s.length:Nat):Int))) (cond (!decide ((((s.getD 0 0).toNat:Nat):Int)=48)) true (decide (((s.length:Nat):Int)=1))) false)
def aab(s:au')(aj:Int→avc)(v4:Int):avc:=cond (decide (v4<((s.length:Nat):Int))) (av (aI v4 s.length)<|av ((decide ((((s.getD (v4).toNat 0).toNat:Nat):Int)<48))||aI v4 s.length)<|cond (cond (decide ((((s.getD (v4).toNat 0).toNat:Nat):Int)<48)) true (decide (57<(((s.getD (v4).toNat 0).toNat:Nat):Int)))) (some false) (aj (ava (v4+1)))) (aaa n s)
def Er(n:Nat)(s:au'):Nat→Int→avc
 | 0=>λ_=>none
 |m+1=>aab n s (Er n s m)
def aac(s:au'):avc:=Er n s n 0
def aad(n:Nat)(s:au')(br:Int):Option (Int×Int):=cond (cond (decide (0<((s.length:Nat):Int))) (decide ((((s.getD 0 0).toNat:Nat):Int)=45)) false) (some ((ava (IntKind.u64.wrap (0-br))),0)) (some ((ava br),0))
def aae(s:au')(v3:au')(v4:Int)(fp:Int→Int→Option (Int×Int))(v10:Int)(v11:Int):Option (Int×Int):=cond (decide (v11<((v3.length:Nat):Int))) (av (aI v11 v3.length)<|cond (decide ((IntKind.u64.wrap (Int.tdiv (IntKind.u64.wrap (v4-(IntKind.u64.wrap (IntKind.u8.wrap ((((v3.getD (v11).toNat 0).toNat:Nat):Int)-48))))) 10))<v10)) (some (0,3)) (fp (IntKind.u64.wrap ((IntKind.u64.wrap (v10*10))+(IntKind.u64.wrap (IntKind.u8.wrap ((((v3.getD (v11).toNat 0).toNat:Nat):Int)-48))))) (ava (v11+1)))) (aad n s v10)
def Km(n:Nat)(s:au')(v3:au')(v4:Int):Nat→Int→Int→Option (Int×Int)
 | 0=>λ_ _=>none
 |m+1=>aae n s v3 v4 (Km n s v3 v4 m)
def R_(s:au')(v3:au')(v4:Int):Option (Int×Int):=(aac n v3).bind λbV=>cond (cond (!bV) true (cond (cond (decide (0<((s.length:Nat):Int))) (decide ((((s.getD 0 0).toNat:Nat):Int)=45)) false) (decide (v3=([48]:au'))) false)) (some (0,5)) (Km n s v3 v4 n 0 0)
def Sa(s:au'):Option (Int×Int):=av (!(decide (0<((s.length:Nat):Int)))||aI 0 s.length)<|cond (cond (decide (0<((s.length:Nat):Int))) (decide ((((s.getD 0 0).toNat:Nat):Int)=45)) false) (av (gT 1 s.length)<|R_ n s (s.drop 1) 9223372036854775808) (R_ n s s 9223372036854775807)
def Sb(w:au'):Option (Token×Int):=av (aI 0 w.length)<|(Ap n (((w.getD 0 0).toNat:Nat):Int)).bind λr2=>cond r2 ((D_ n w).bind λaR=>cond aR (some ((⟨2,w,0,0⟩:Token),0)) ((ta n w).bind λaT=>cond aT (some ((⟨1,w,0,0⟩:Token),0)) (some ((⟨0,[],0,0⟩:Token),2)))) ((Sa n w).bind λbH=>cond (!decide (bH.2=0)) (some ((⟨0,[],0,0⟩:Token),bH.2)) (some ((⟨3,[],bH.1,0⟩:Token),0)))
def aaf(n:Nat)(bZ:Int):Option (au'×Int×Int):=some (([]:au'),bZ,6)
def Sc(n:Nat)(aj:Int→au'→Option (au'×Int×Int))(s:au')(v10:au')(bL:Int):Option (au'×Int×Int):=cond (decide (((v10.length:Nat):Int)=64)) (some (([]:au'),bL,2)) (av (l4 bL (ava (bL+1)) s.length)<|av (b5 (v10.length+((s.take ((ava (bL+1))).toNat).drop (bL).toNat).length))<|aj (ava (bL+1)) (v10++((s.take ((ava (bL+1))).toNat).drop (bL).toNat)))
def aag(s:au')(aj:Int→au'→Option (au'×Int×Int))(v9:Int)(v10:au'):Option (au'×Int×Int):=cond (decide (v9<((s.length:Nat):Int))) (av (aI v9 s.length)<|cond (decide ((((s.getD (v9).toNat 0).toNat:Nat):Int)=34)) (some (v10,(ava (v9+1)),0)) (cond (decide ((((s.getD (v9).toNat 0).toNat:Nat):Int)=92)) (cond (decide ((ava (v9+1))=((s.length:Nat):Int))) (some (([]:au'),(ava (v9+1)),6)) (av (aI (ava (v9+1)) s.length)<|av (!(!decide ((((s.getD ((ava (v9+1))).toNat 0).toNat:Nat):Int)=34))||aI (ava (v9+1)) s.length)<|cond (cond (!decide ((((s.getD ((ava (v9+1))).toNat 0).toNat:Nat):Int)=34)) (!decide ((((s.getD ((ava (v9+1))).toNat 0).toNat:Nat):Int)=92)) false) (some (([]:au'),(ava (v9+1)),5)) (Sc n aj s v10 (ava (v9+1))))) (cond (cond (decide ((((s.getD (v9).toNat 0).toNat:Nat):Int)<32)) true (decide (126<(((s.getD (v9).toNat 0).toNat:Nat):Int)))) (some (([]:au'),v9,5)) (Sc n aj s v10 v9)))) (aaf n v9)
def Kn(n:Nat)(s:au'):Nat→Int→au'→Option (au'×Int×Int)
 | 0=>λ_ _=>none
 |m+1=>aag n s (Kn n s m)
def aah(s:au')(at_:Int):Option (au'×Int×Int):=Kn n s n (ava (at_+1)) ([]:au')
def aai(n:Nat)(at_:Int):Option (Token×Int×Int):=some ((⟨0,[],0,0⟩:Token),at_,5)
def aaj(s:au')(at_:Int)(dj:(List au'))(aj:Int→Option (Token×Int×Int))(cl:Int):Option (Token×Int×Int):=cond (decide (cl<((dj.length:Nat):Int))) (av (aI cl dj.length)<|av (!(decide ((ava (at_+(((avb dj cl).length:Nat):Int)))≤((s.length:Nat):Int)))||aI cl dj.length)<|av (!(decide ((ava (at_+(((avb dj cl).length:Nat):Int)))≤((s.length:Nat):Int)))||l4 at_ (ava (at_+(((avb dj cl).length:Nat):Int))) s.length)<|av (!(decide ((ava (at_+(((avb dj cl).length:Nat):Int)))≤((s.length:Nat):Int)))||aI cl dj.length)<|cond (cond (decide ((ava (at_+(((avb dj cl).length:Nat):Int)))≤((s.length:Nat):Int))) (decide (((s.take ((ava (at_+(((avb dj cl).length:Nat):Int)))).toNat).drop (at_).toNat)=(avb dj cl))) false) (av (aI cl dj.length)<|av (aI cl dj.length)<|some ((⟨5,(avb dj cl),0,0⟩:Token),(ava (at_+(((avb dj cl).length:Nat):Int))),0)) (aj (ava (cl+1)))) (aai n at_)
def Es(n:Nat)(s:au')(at_:Int)(dj:(List au')):Nat→Int→Option (Token×Int×Int)
 | 0=>λ_=>none
 |m+1=>aaj n s at_ dj (Es n s at_ dj m)
def Sd(s:au')(at_:Int):Option (Token×Int×Int):=av (aI at_ s.length)<|cond (decide ((((s.getD (at_).toNat 0).toNat:Nat):Int)=34)) ((aah n s at_).bind λr3=>some ((⟨4,r3.1,0,0⟩:Token),r3.2.1,r3.2.2)) (av (aI at_ s.length)<|(Ea n (((s.getD (at_).toNat 0).toNat:Nat):Int)).bind λbV=>cond bV ((JX n s at_).bind λbO=>av (l4 at_ bO s.length)<|(Sb n ((s.take (bO).toNat).drop (at_).toNat)).bind λcd=>some (cd.1,bO,cd.2)) ((Z_ n).bind λdj=>Es n s at_ dj n 0))
def aak(n:Nat)(aV:List Token):Option ((List Token)×Int×Int):=some (aV,0,0)
def Se(src:au')(aj:(List Token)→Int→Option ((List Token)×Int×Int))(v9:List Token)(v10:Int):Option ((List Token)×Int×Int):=cond (decide (v10<((src.length:Nat):Int))) ((R' n src v10).bind λbx=>(Sd n src v10).bind λcq=>cond (!decide (cq.2.2=0)) (some (([]:List Token),(ava (bx+1)),cq.2.2)) (av (room (v9.length+([(⟨cq.1.Kind,cq.1.Text,cq.1.N,(ava (bx+1))⟩:Token)]:List Token).length) 40)<|(Kl n src cq.2.1).bind λep=>aj (v9++([(⟨cq.1.Kind,cq.1.Text,cq.1.N,(ava (bx+1))⟩:Token)]:List Token)) ep)) (aak n v9)
def Et(n:Nat)(src:au'):Nat→(List Token)→Int→Option ((List Token)×Int×Int)
 | 0=>λ_ _=>none
 |m+1=>Se n src (Et n src m)
def Sf(src:au'):Option ((List Token)×Int×Int):=cond (decide (16384<((src.length:Nat):Int))) (some (([]:List Token),0,2)) ((Kl n src 0).bind λr2=>Et n src n ([]:List Token) r2)
def Sg(n:Nat)(l:List Token)(at_:Int)(f:Int):avd:=cond (cond (decide (f=0)) (decide (at_<((l.length:Nat):Int))) false) (some 5) (some f)
def Sh(n:Nat)(l:List Token)(at_:Int):avd:=cond (decide (((l.length:Nat):Int)=0)) (some 1) (av (aI (cond (decide ((ava (((l.length:Nat):Int)-1))<at_)) (ava (((l.length:Nat):Int)-1)) at_) l.length)<|some ((avb l (cond (decide ((ava (((l.length:Nat):Int)-1))<at_)) (ava (((l.length:Nat):Int)-1)) at_)).mC))
def kZ(n:Nat)(l:List Token)(at_:Int)(text:au'):avc:=av (!(decide (at_<((l.length:Nat):Int)))||aI at_ l.length)<|av (!(decide (at_<((l.length:Nat):Int)))||((decide ((avb l at_).Kind=2))||aI at_ l.length))<|av (!(cond (decide (at_<((l.length:Nat):Int))) (cond (decide ((avb l at_).Kind=2)) true (decide ((avb l at_).Kind=5))) false)||aI at_ l.length)<|some (cond (cond (decide (at_<((l.length:Nat):Int))) (cond (decide ((avb l at_).Kind=2)) true (decide ((avb l at_).Kind=5))) false) (decide (((avb l at_).Text)=text)) false)
def xo(n:Nat)(l:List Token)(at_:Int):avd:=cond (decide (((l.length:Nat):Int)≤at_)) (some 6) (some 5)
def Si(n:Nat)(b0:Int):Option (Int×Int):=some (b0,0)
def Sj(l:List Token)(words:List au')(aj:Int→Int→Option (Int×Int))(v6:Int)(bp:Int):Option (Int×Int):=cond (decide (bp<((words.length:Nat):Int))) (av (aI bp words.length)<|(kZ n l v6 (words.getD (bp).toNat default)).bind λcd=>cond (!cd) ((xo n l v6).bind λdj=>some (v6,dj)) (aj (ava (v6+1)) (ava (bp+1)))) (Si n v6)
def Ko(n:Nat)(l:List Token)(words:List au'):Nat→Int→Int→Option (Int×Int)
 | 0=>λ_ _=>none
 |m+1=>Sj n l words (Ko n l words m)
def kD(l:List Token)(at_:Int)(words:List au'):Option (Int×Int):=Ko n l words n at_ 0
def aal(n:Nat):avd:=some 0
def aam(l:List Token)(at_:Int)(level:Int)(aj:Int→avd)(v6:Int):avd:=cond (decide (v6<((([([111,114]:au'),([97,110,100]:au'),([61,61]:au'),([33,61]:au'),([60]:au'),([60,61]:au'),([62]:au'),([62,61]:au'),([43,43]:au'),([43]:au'),([45]:au'),([42]:au'),([47]:au'),([37]:au')]:List au').length:Nat):Int))) (av (aI v6 ([1,2,4,4,4,4,4,4,5,6,6,7,7,7]:List Int).length)<|av (!(decide ((([1,2,4,4,4,4,4,4,5,6,6,7,7,7]:List Int).getD (v6).toNat default)=level))||aI v6 ([([111,114]:au'),([97,110,100]:au'),([61,61]:au'),([33,61]:au'),([60]:au'),([60,61]:au'),([62]:au'),([62,61]:au'),([43,43]:au'),([43]:au'),([45]:au'),([42]:au'),([47]:au'),([37]:au')]:List au').length)<|Option.bind (cond (decide ((([1,2,4,4,4,4,4,4,5,6,6,7,7,7]:List Int).getD (v6).toNat default)=level)) (kZ n l at_ (([([111,114]:au'),([97,110,100]:au'),([61,61]:au'),([33,61]:au'),([60]:au'),([60,61]:au'),([62]:au'),([62,61]:au'),([43,43]:au'),([43]:au'),([45]:au'),([42]:au'),([47]:au'),([37]:au')]:List au').getD (v6).toNat default)) (some default)) λcd=>cond (cond (decide ((([1,2,4,4,4,4,4,4,5,6,6,7,7,7]:List Int).getD (v6).toNat default)=level)) cd false) (av (aI v6 ([17,16,10,11,12,13,14,15,19,4,5,6,7,8]:List Int).length)<|some (([17,16,10,11,12,13,14,15,19,4,5,6,7,8]:List Int).getD (v6).toNat default)) (aj (ava (v6+1)))) (aal n)
def Kp(n:Nat)(l:List Token)(at_:Int)(level:Int):Nat→Int→avd
 | 0=>λ_=>none
 |m+1=>aam n l at_ level (Kp n l at_ level m)
def aan(l:List Token)(at_:Int)(level:Int):avd:=Kp n l at_ level n 0
def Sk(l:List Token)(at_:Int)(level:Int):avd:=Option.bind (cond (decide (level=3)) (kZ n l at_ ([110,111,116]:au')) (some default)) λr1=>cond (cond (decide (level=3)) r1 false) (some 18) (Option.bind (cond (decide (level=8)) (kZ n l at_ ([45]:au')) (some default)) λr3=>cond (cond (decide (level=8)) r3 false) (some 9) (some 0))
def aao(n:Nat):avd:=some 0
def aap(l:List Token)(at_:Int)(aj:Int→avd)(v5:Int):avd:=cond (decide (v5<((([([116,101,120,116]:au'),([108,101,110]:au'),([103,101,116,105,110,116]:au'),([103,101,116,115,116,114]:au'),([104,97,115]:au'),([110,111,119]:au'),([114,97,110,100,111,109]:au'),([110,111,100,101]:au')]:List au').length:Nat):Int))) (av (aI v5 ([([116,101,120,116]:au'),([108,101,110]:au'),([103,101,116,105,110,116]:au'),([103,101,116,115,116,114]:au'),([104,97,115]:au'),([110,111,119]:au'),([114,97,110,100,111,109]:au'),([110,111,100,101]:au')]:List au').length)<|(kZ n l at_ (([([116,101,120,116]:au'),([108,101,110]:au'),([103,101,116,105,110,116]:au'),([103,101,116,115,116,114]:au'),([104,97,115]:au'),([110,111,119]:au'),([114,97,110,100,111,109]:au'),([110,111,100,101]:au')]:List au').getD (v5).toNat default)).bind λbO=>cond bO (av (aI v5 ([20,21,22,23,24,25,26,27]:List Int).length)<|some (([20,21,22,23,24,25,26,27]:List Int).getD (v5).toNat default)) (aj (ava (v5+1)))) (aao n)
def Kq(n:Nat)(l:List Token)(at_:Int):Nat→Int→avd
 | 0=>λ_=>none
 |m+1=>aap n l at_ (Kq n l at_ m)
def aaq(l:List Token)(at_:Int):avd:=Kq n l at_ n 0
def Ay(n:Nat)(mF:(List Token)→Int→Int→Int→Option (Expr×Int×Int))(oT:(List Token)→Int→Int→Option (Expr×Int×Int))(nW:(List Token)→Int→Int→Option (Expr×Int×Int))(v30:Int)(v31:Int):Option (Expr×Int×Int):=some ((⟨0,0,[],[]⟩:Expr),v30,v31)
def uW(mF:(List Token)→Int→Int→Int→Option (Expr×Int×Int))(oT:(List Token)→Int→Int→Option (Expr×Int×Int))(nW:(List Token)→Int→Int→Option (Expr×Int×Int))(l:List Token)(level:Int)(dK:Int)(aj:Int→Int→au'→(List Expr)→Int→Int→Option (Expr×Int×Int))(cW:Int)(aV:Int)(cl:au')(bZ:List Expr)(v20:Int)(v21:Int):Option (Expr×Int×Int):=cond (decide (v21=0)) ((aan n l v20 level).bind λdp=>cond (decide (dp=0)) (some ((⟨cW,aV,cl,bZ⟩:Expr),v20,0)) ((mF l (ava (v20+1)) (ava (level+1)) dK).bind λeo=>cond (cond (decide (eo.2.2=0)) (decide (level=4)) false) (some ((⟨dp,0,[],[⟨cW,aV,cl,bZ⟩,eo.1]⟩:Expr),eo.2.1,0)) (aj dp 0 ([]:au') ([(⟨cW,aV,cl,bZ⟩:Expr),eo.1]:List Expr) eo.2.1 eo.2.2))) (Ay n mF oT nW v20 v21)
def rL(n:Nat)(mF:(List Token)→Int→Int→Int→Option (Expr×Int×Int))(oT:(List Token)→Int→Int→Option (Expr×Int×Int))(nW:(List Token)→Int→Int→Option (Expr×Int×Int))(l:List Token)(level:Int)(dK:Int):Nat→Int→Int→au'→(List Expr)→Int→Int→Option (Expr×Int×Int)
 | 0=>λ_ _ _ _ _ _=>none
 |m+1=>uW n mF oT nW l level dK (rL n mF oT nW l level dK m)
def Kr(mF:(List Token)→Int→Int→Int→Option (Expr×Int×Int))(oT:(List Token)→Int→Int→Option (Expr×Int×Int))(nW:(List Token)→Int→Int→Option (Expr×Int×Int))(l:List Token)(at_:Int)(level:Int)(dK:Int):Option (Expr×Int×Int):=cond (decide (level=9)) ((oT l at_ dK).bind λr2=>some (r2.1,r2.2.1,r2.2.2)) ((Sk n l at_ level).bind λr3=>cond (!decide (r3=0)) (cond (decide (dK=24)) (some ((⟨0,0,[],[]⟩:Expr),at_,2)) ((mF l (ava (at_+1)) level (ava (dK+1))).bind λaT=>some ((⟨r3,0,[],[aT.1]⟩:Expr),aT.2.1,aT.2.2))) ((mF l at_ (ava (level+1)) dK).bind λbO=>rL n mF oT nW l level dK n bO.1.Op bO.1.N bO.1.S bO.1.ax bO.2.1 bO.2.2))
def Ks(mF:(List Token)→Int→Int→Int→Option (Expr×Int×Int))(oT:(List Token)→Int→Int→Option (Expr×Int×Int))(nW:(List Token)→Int→Int→Option (Expr×Int×Int))(l:List Token)(at_:Int)(dK:Int):Option (Expr×Int×Int):=(aaq n l at_).bind λbV=>cond (decide (25≤bV)) ((kD n l (ava (at_+1)) ([([40]:au'),([41]:au')]:List au')).bind λbO=>some ((⟨bV,0,[],[]⟩:Expr),bO.1,bO.2)) (Option.bind (cond (decide (bV=0)) (kZ n l at_ ([40]:au')) (some default)) λbH=>cond (cond (decide (bV=0)) (!bH) false) ((xo n l at_).bind λdj=>some ((⟨0,0,[],[]⟩:Expr),at_,dj)) (cond (decide (dK=24)) (some ((⟨0,0,[],[]⟩:Expr),at_,2)) (cond (decide (bV=0)) ((nW l at_ (ava (dK+1))).bind λde=>some (de.1,de.2.1,de.2.2)) ((nW l (ava (at_+1)) (ava (dK+1))).bind λep=>some ((⟨bV,0,[],[ep.1]⟩:Expr),ep.2.1,ep.2.2)))))
def Sl(mF:(List Token)→Int→Int→Int→Option (Expr×Int×Int))(oT:(List Token)→Int→Int→Option (Expr×Int×Int))(nW:(List Token)→Int→Int→Option (Expr×Int×Int))(l:List Token)(at_:Int)(dK:Int):Option (Expr×Int×Int):=cond (decide (at_<((l.length:Nat):Int))) (av (aI at_ l.length)<|cond (decide ((avb l at_).Kind=3)) (av (aI at_ l.length)<|some ((⟨1,(avb l at_).N,[],[]⟩:Expr),(ava (at_+1)),0)) (cond (decide ((avb l at_).Kind=4)) (av (aI at_ l.length)<|some ((⟨2,0,(avb l at_).Text,[]⟩:Expr),(ava (at_+1)),0)) (cond (decide ((avb l at_).Kind=1)) (av (aI at_ l.length)<|some ((⟨3,0,(avb l at_).Text,[]⟩:Expr),(ava (at_+1)),0)) (Ks n mF oT nW l at_ dK)))) (Ks n mF oT nW l at_ dK)
def Kt(mF:(List Token)→Int→Int→Int→Option (Expr×Int×Int))(oT:(List Token)→Int→Int→Option (Expr×Int×Int))(nW:(List Token)→Int→Int→Option (Expr×Int×Int))(l:List Token)(at_:Int)(dK:Int):Option (Expr×Int×Int):=(kD n l at_ ([([40]:au')]:List au')).bind λr1=>cond (!decide (r1.2=0)) (some ((⟨0,0,[],[]⟩:Expr),r1.1,r1.2)) ((mF l r1.1 1 dK).bind λr3=>cond (!decide (r3.2.2=0)) (some ((⟨0,0,[],[]⟩:Expr),r3.2.1,r3.2.2)) ((kD n l r3.2.1 ([([41]:au')]:List au')).bind λbV=>some (r3.1,bV.1,bV.2)))
def pH:Nat→((List Token)→Int→Int→Int→Option (Expr×Int×Int))×((List Token)→Int→Int→Option (Expr×Int×Int))×((List Token)→Int→Int→Option (Expr×Int×Int))
 | 0=>(λ_ _ _ _=>none,λ_ _ _=>none,λ_ _ _=>none)
 |m+1=>(Kr m ((pH m).1) ((pH m).2.1) ((pH m).2.2),Sl m ((pH m).1) ((pH m).2.1) ((pH m).2.2),Kt m ((pH m).1) ((pH m).2.1) ((pH m).2.2))
def pI:(List Token)→Int→Int→Int→Option (Expr×Int×Int):=(pH n).1
def uX:(List Token)→Int→Int→Option (Expr×Int×Int):=(pH n).2.1
def xp:(List Token)→Int→Int→Option (Expr×Int×Int):=(pH n).2.2
def aar(n:Nat):avd:=some 0
def aas(l:List Token)(at_:Int)(aj:Int→avd)(v5:Int):avd:=cond (decide (v5<((([([108,101,116]:au'),([112,117,116]:au'),([100,101,108,101,116,101]:au'),([105,102]:au'),([102,111,114]:au'),([101,109,105,116]:au'),([97,98,111,114,116]:au')]:List au').length:Nat):Int))) (av (aI v5 ([([108,101,116]:au'),([112,117,116]:au'),([100,101,108,101,116,101]:au'),([105,102]:au'),([102,111,114]:au'),([101,109,105,116]:au'),([97,98,111,114,116]:au')]:List au').length)<|(kZ n l at_ (([([108,101,116]:au'),([112,117,116]:au'),([100,101,108,101,116,101]:au'),([105,102]:au'),([102,111,114]:au'),([101,109,105,116]:au'),([97,98,111,114,116]:au')]:List au').getD (v5).toNat default)).bind λbO=>cond bO (av (aI v5 ([1,3,4,5,6,7,8]:List Int).length)<|some (([1,3,4,5,6,7,8]:List Int).getD (v5).toNat default)) (aj (ava (v5+1)))) (aar n)
def Ku(n:Nat)(l:List Token)(at_:Int):Nat→Int→avd
 | 0=>λ_=>none
 |m+1=>aas n l at_ (Ku n l at_ m)
def aat(l:List Token)(at_:Int):avd:=Ku n l at_ n 0
def tf(l:List Token)(at_:Int)(kind:Int):Option (Token×Int×Int):=av ((decide (((l.length:Nat):Int)≤at_))||aI at_ l.length)<|cond (cond (decide (((l.length:Nat):Int)≤at_)) true (!decide ((avb l at_).Kind=kind))) ((xo n l at_).bind λr3=>some ((⟨0,[],0,0⟩:Token),at_,r3)) (av (aI at_ l.length)<|some ((avb l at_),(ava (at_+1)),0))
def aau(n:Nat)(ir:(List Token)→Int→Int→Option ((List Stmt)×Int×Int))(iW:(List Token)→Int→Int→Option (Stmt×Int×Int))(iF:(List Token)→Int→Stmt→Int→Option (Stmt×Int×Int))(iX:(List Token)→Int→Stmt→Int→Option (Stmt×Int×Int))(cW:Int)(aV:List Stmt):Option ((List Stmt)×Int×Int):=some (aV,(ava (cW+1)),0)
def aav(ir:(List Token)→Int→Int→Option ((List Stmt)×Int×Int))(iW:(List Token)→Int→Int→Option (Stmt×Int×Int))(iF:(List Token)→Int→Stmt→Int→Option (Stmt×Int×Int))(iX:(List Token)→Int→Stmt→Int→Option (Stmt×Int×Int))(l:List Token)(depth:Int)(aj:Int→(List Stmt)→Option ((List Stmt)×Int×Int))(v9:Int)(v10:List Stmt):Option ((List Stmt)×Int×Int):=(kZ n l v9 ([125]:au')).bind λbx=>cond (!bx) ((iW l v9 depth).bind λcq=>cond (!decide (cq.2.2=0)) (some (([]:List Stmt),cq.2.1,cq.2.2)) (av (room (v10.length+([(⟨cq.1.Op,cq.1.Name,cq.1.Max,⟨cq.1.A.Op,cq.1.A.N,cq.1.A.S,cq.1.A.ax⟩,⟨cq.1.B.Op,cq.1.B.N,cq.1.B.S,cq.1.B.ax⟩,cq.1.Body,cq.1.bM⟩:Stmt)]:List Stmt).length) 192)<|aj cq.2.1 (v10++([(⟨cq.1.Op,cq.1.Name,cq.1.Max,⟨cq.1.A.Op,cq.1.A.N,cq.1.A.S,cq.1.A.ax⟩,⟨cq.1.B.Op,cq.1.B.N,cq.1.B.S,cq.1.B.ax⟩,cq.1.Body,cq.1.bM⟩:Stmt)]:List Stmt)))) (aau n ir iW iF iX v9 v10)
def Kv(n:Nat)(ir:(List Token)→Int→Int→Option ((List Stmt)×Int×Int))(iW:(List Token)→Int→Int→Option (Stmt×Int×Int))(iF:(List Token)→Int→Stmt→Int→Option (Stmt×Int×Int))(iX:(List Token)→Int→Stmt→Int→Option (Stmt×Int×Int))(l:List Token)(depth:Int):Nat→Int→(List Stmt)→Option ((List Stmt)×Int×Int)
 | 0=>λ_ _=>none
 |m+1=>aav n ir iW iF iX l depth (Kv n ir iW iF iX l depth m)
def Sm(ir:(List Token)→Int→Int→Option ((List Stmt)×Int×Int))(iW:(List Token)→Int→Int→Option (Stmt×Int×Int))(iF:(List Token)→Int→Stmt→Int→Option (Stmt×Int×Int))(iX:(List Token)→Int→Stmt→Int→Option (Stmt×Int×Int))(l:List Token)(at_:Int)(depth:Int):Option ((List Stmt)×Int×Int):=(kD n l at_ ([([123]:au')]:List au')).bind λr1=>cond (!decide (r1.2=0)) (some (([]:List Stmt),r1.1,r1.2)) (cond (decide (12<depth)) (some (([]:List Stmt),(ava (r1.1-1)),2)) (Kv n ir iW iF iX l depth n r1.1 ([]:List Stmt)))
def xq(n:Nat)(ir:(List Token)→Int→Int→Option ((List Stmt)×Int×Int))(iW:(List Token)→Int→Int→Option (Stmt×Int×Int))(iF:(List Token)→Int→Stmt→Int→Option (Stmt×Int×Int))(iX:(List Token)→Int→Stmt→Int→Option (Stmt×Int×Int))(l:List Token)(depth:Int)(v4:Int)(bm:au')(cq:Expr×Int×Int)(aV:List Expr)(cl:Int)(bZ:Int)(v20:au')(v21:Int):Option (Stmt×Int×Int):=(iX l v21 (⟨v4,bm,0,cq.1,⟨cl,bZ,v20,aV⟩,[],[]⟩:Stmt) depth).bind λdp=>some ((⟨dp.1.Op,dp.1.Name,dp.1.Max,⟨dp.1.A.Op,dp.1.A.N,dp.1.A.S,dp.1.A.ax⟩,⟨dp.1.B.Op,dp.1.B.N,dp.1.B.S,dp.1.B.ax⟩,dp.1.Body,dp.1.bM⟩:Stmt),dp.2.1,dp.2.2)
def Kw(ir:(List Token)→Int→Int→Option ((List Stmt)×Int×Int))(iW:(List Token)→Int→Int→Option (Stmt×Int×Int))(iF:(List Token)→Int→Stmt→Int→Option (Stmt×Int×Int))(iX:(List Token)→Int→Stmt→Int→Option (Stmt×Int×Int))(l:List Token)(cq:Expr×Int×Int)(depth:Int)(v4:Int)(bm:au')(bL:au'):Option (Stmt×Int×Int):=(kD n l cq.2.1 ([bL]:List au')).bind λdx=>cond (!decide (dx.2=0)) (some ((⟨v4,bm,0,cq.1,⟨0,0,[],[]⟩,[],[]⟩:Stmt),dx.1,dx.2)) ((pI n l dx.1 1 0).bind λb8=>cond (!decide (b8.2.2=0)) (some ((⟨v4,bm,0,cq.1,b8.1,[],[]⟩:Stmt),b8.2.1,b8.2.2)) (xq n ir iW iF iX l depth v4 bm cq b8.1.ax b8.1.Op b8.1.N b8.1.S b8.2.1))
def nX(ir:(List Token)→Int→Int→Option ((List Stmt)×Int×Int))(iW:(List Token)→Int→Int→Option (Stmt×Int×Int))(iF:(List Token)→Int→Stmt→Int→Option (Stmt×Int×Int))(iX:(List Token)→Int→Stmt→Int→Option (Stmt×Int×Int))(l:List Token)(depth:Int)(v4:Int)(bm:au')(v9:Int):Option (Stmt×Int×Int):=cond (decide (v4=8)) ((iF l v9 (⟨v4,bm,0,⟨0,0,[],[]⟩,⟨0,0,[],[]⟩,[],[]⟩:Stmt) depth).bind λbx=>some ((⟨bx.1.Op,bx.1.Name,bx.1.Max,⟨bx.1.A.Op,bx.1.A.N,bx.1.A.S,bx.1.A.ax⟩,⟨bx.1.B.Op,bx.1.B.N,bx.1.B.S,bx.1.B.ax⟩,bx.1.Body,bx.1.bM⟩:Stmt),bx.2.1,bx.2.2)) ((pI n l v9 1 0).bind λcq=>cond (!decide (cq.2.2=0)) (some ((⟨v4,bm,0,cq.1,⟨0,0,[],[]⟩,[],[]⟩:Stmt),cq.2.1,cq.2.2)) (cond (cond (decide (v4=3)) true (decide (v4=6))) (cond (decide (v4=6)) (Kw n ir iW iF iX l cq depth v4 bm ([116,111]:au')) (Kw n ir iW iF iX l cq depth v4 bm ([61]:au'))) (xq n ir iW iF iX l depth v4 bm cq ([]:List Expr) 0 0 ([]:au') cq.2.1)))
def rM(ir:(List Token)→Int→Int→Option ((List Stmt)×Int×Int))(iW:(List Token)→Int→Int→Option (Stmt×Int×Int))(iF:(List Token)→Int→Stmt→Int→Option (Stmt×Int×Int))(iX:(List Token)→Int→Stmt→Int→Option (Stmt×Int×Int))(l:List Token)(depth:Int)(v4:Int)(v5:Int):Option (Stmt×Int×Int):=cond (cond (cond (decide (v4=1)) true (decide (v4=2))) true (decide (v4=6))) ((tf n l (ava (v5+1)) 1).bind λaT=>cond (!decide (aT.2.2=0)) (some ((⟨v4,[],0,⟨0,0,[],[]⟩,⟨0,0,[],[]⟩,[],[]⟩:Stmt),aT.2.1,aT.2.2)) ((kD n l aT.2.1 ([([61]:au')]:List au')).bind λbO=>cond (!decide (bO.2=0)) (some ((⟨v4,aT.1.Text,0,⟨0,0,[],[]⟩,⟨0,0,[],[]⟩,[],[]⟩:Stmt),bO.1,bO.2)) (nX n ir iW iF iX l depth v4 aT.1.Text bO.1))) (nX n ir iW iF iX l depth v4 ([]:au') (ava (v5+1)))
def Sn(ir:(List Token)→Int→Int→Option ((List Stmt)×Int×Int))(iW:(List Token)→Int→Int→Option (Stmt×Int×Int))(iF:(List Token)→Int→Stmt→Int→Option (Stmt×Int×Int))(iX:(List Token)→Int→Stmt→Int→Option (Stmt×Int×Int))(l:List Token)(at_:Int)(depth:Int):Option (Stmt×Int×Int):=(aat n l at_).bind λr1=>cond (decide (r1=0)) (av ((decide (((l.length:Nat):Int)≤at_))||aI at_ l.length)<|cond (cond (decide (((l.length:Nat):Int)≤at_)) true (!decide ((avb l at_).Kind=1))) ((xo n l at_).bind λr3=>some ((⟨r1,[],0,⟨0,0,[],[]⟩,⟨0,0,[],[]⟩,[],[]⟩:Stmt),at_,r3)) (rM n ir iW iF iX l depth 2 (ava (at_-1)))) (rM n ir iW iF iX l depth r1 at_)
def Kx(ir:(List Token)→Int→Int→Option ((List Stmt)×Int×Int))(iW:(List Token)→Int→Int→Option (Stmt×Int×Int))(iF:(List Token)→Int→Stmt→Int→Option (Stmt×Int×Int))(iX:(List Token)→Int→Stmt→Int→Option (Stmt×Int×Int))(l:List Token)(at_:Int)(s:Stmt)(depth:Int):Option (Stmt×Int×Int):=(tf n l at_ 3).bind λr1=>cond (!decide (r1.2.2=0)) (some ((⟨s.Op,s.Name,s.Max,⟨s.A.Op,s.A.N,s.A.S,s.A.ax⟩,⟨s.B.Op,s.B.N,s.B.S,s.B.ax⟩,s.Body,s.bM⟩:Stmt),r1.2.1,r1.2.2)) (cond (decide (s.Op=8)) ((kD n l r1.2.1 ([([59]:au')]:List au')).bind λaR=>some ((⟨s.Op,s.Name,r1.1.N,⟨s.A.Op,s.A.N,s.A.S,s.A.ax⟩,⟨s.B.Op,s.B.N,s.B.S,s.B.ax⟩,s.Body,s.bM⟩:Stmt),aR.1,aR.2)) ((ir l r1.2.1 (ava (depth+1))).bind λbV=>some ((⟨s.Op,s.Name,r1.1.N,⟨s.A.Op,s.A.N,s.A.S,s.A.ax⟩,⟨s.B.Op,s.B.N,s.B.S,s.B.ax⟩,bV.1,s.bM⟩:Stmt),bV.2.1,bV.2.2)))
def So(n:Nat)(ir:(List Token)→Int→Int→Option ((List Stmt)×Int×Int))(iW:(List Token)→Int→Int→Option (Stmt×Int×Int))(iF:(List Token)→Int→Stmt→Int→Option (Stmt×Int×Int))(iX:(List Token)→Int→Stmt→Int→Option (Stmt×Int×Int))(s:Stmt)(aT:(List Stmt)×Int×Int)(v9:List Stmt)(v10:Int)(v11:Int):Option (Stmt×Int×Int):=some ((⟨s.Op,s.Name,s.Max,⟨s.A.Op,s.A.N,s.A.S,s.A.ax⟩,⟨s.B.Op,s.B.N,s.B.S,s.B.ax⟩,aT.1,v9⟩:Stmt),v10,v11)
def Eu(ir:(List Token)→Int→Int→Option ((List Stmt)×Int×Int))(iW:(List Token)→Int→Int→Option (Stmt×Int×Int))(iF:(List Token)→Int→Stmt→Int→Option (Stmt×Int×Int))(iX:(List Token)→Int→Stmt→Int→Option (Stmt×Int×Int))(l:List Token)(at_:Int)(s:Stmt)(depth:Int):Option (Stmt×Int×Int):=cond (decide (s.Op=6)) ((kD n l at_ ([([109,97,120]:au')]:List au')).bind λr2=>cond (!decide (r2.2=0)) (some ((⟨s.Op,s.Name,s.Max,⟨s.A.Op,s.A.N,s.A.S,s.A.ax⟩,⟨s.B.Op,s.B.N,s.B.S,s.B.ax⟩,s.Body,s.bM⟩:Stmt),r2.1,r2.2)) ((iF l r2.1 (⟨s.Op,s.Name,s.Max,⟨s.A.Op,s.A.N,s.A.S,s.A.ax⟩,⟨s.B.Op,s.B.N,s.B.S,s.B.ax⟩,s.Body,s.bM⟩:Stmt) depth).bind λaR=>some ((⟨aR.1.Op,aR.1.Name,aR.1.Max,⟨aR.1.A.Op,aR.1.A.N,aR.1.A.S,aR.1.A.ax⟩,⟨aR.1.B.Op,aR.1.B.N,aR.1.B.S,aR.1.B.ax⟩,aR.1.Body,aR.1.bM⟩:Stmt),aR.2.1,aR.2.2))) (cond (decide (s.Op=5)) ((ir l at_ (ava (depth+1))).bind λaT=>Option.bind (cond (decide (aT.2.2=0)) (kZ n l aT.2.1 ([101,108,115,101]:au')) (some default)) λbO=>cond (cond (decide (aT.2.2=0)) bO false) ((ir l (ava (aT.2.1+1)) (ava (depth+1))).bind λbH=>So n ir iW iF iX s aT bH.1 bH.2.1 bH.2.2) (So n ir iW iF iX s aT s.bM aT.2.1 aT.2.2)) ((kD n l at_ ([([59]:au')]:List au')).bind λde=>some ((⟨s.Op,s.Name,s.Max,⟨s.A.Op,s.A.N,s.A.S,s.A.ax⟩,⟨s.B.Op,s.B.N,s.B.S,s.B.ax⟩,s.Body,s.bM⟩:Stmt),de.1,de.2)))
def k0:Nat→((List Token)→Int→Int→Option ((List Stmt)×Int×Int))×((List Token)→Int→Int→Option (Stmt×Int×Int))×((List Token)→Int→Stmt→Int→Option (Stmt×Int×Int))×((List Token)→Int→Stmt→Int→Option (Stmt×Int×Int))
 | 0=>(λ_ _ _=>none,λ_ _ _=>none,λ_ _ _ _=>none,λ_ _ _ _=>none)
 |m+1=>(Sm m ((k0 m).1) ((k0 m).2.1) ((k0 m).2.2.1) ((k0 m).2.2.2),Sn m ((k0 m).1) ((k0 m).2.1) ((k0 m).2.2.1) ((k0 m).2.2.2),Kx m ((k0 m).1) ((k0 m).2.1) ((k0 m).2.2.1) ((k0 m).2.2.2),Eu m ((k0 m).1) ((k0 m).2.1) ((k0 m).2.2.1) ((k0 m).2.2.2))
def nd:(List Token)→Int→Int→Option ((List Stmt)×Int×Int):=(k0 n).1
def oU:(List Token)→Int→Int→Option (Stmt×Int×Int):=(k0 n).2.1
def pJ:(List Token)→Int→Stmt→Int→Option (Stmt×Int×Int):=(k0 n).2.2.1
def nY:(List Token)→Int→Stmt→Int→Option (Stmt×Int×Int):=(k0 n).2.2.2
def Ky(dc:Int→(List Param)→Option ((List Param)×Int×Int))(l:List Token)(e9:Int×Int)(cW:List Param)(df:Token×Int×Int)(v23:Int):Option ((List Param)×Int×Int):=av (room (cW.length+([(⟨df.1.Text,v23⟩:Param)]:List Param).length) 24)<|(kZ n l (ava (e9.1+1)) ([41]:au')).bind λfi=>cond fi (some ((cW++([(⟨df.1.Text,v23⟩:Param)]:List Param)),(ava ((ava (e9.1+1))+1)),0)) ((kD n l (ava (e9.1+1)) ([([44]:au')]:List au')).bind λr26=>cond (!decide (r26.2=0)) (some (([]:List Param),r26.1,r26.2)) (dc r26.1 (cW++([(⟨df.1.Text,v23⟩:Param)]:List Param))))
def Kz(l:List Token)(dc:Int→(List Param)→Option ((List Param)×Int×Int))(br:Int)(cW:List Param):Option ((List Param)×Int×Int):=(tf n l br 1).bind λdf=>cond (!decide (df.2.2=0)) (some (([]:List Param),df.2.1,df.2.2)) ((kD n l df.2.1 ([([58]:au')]:List au')).bind λe9=>cond (!decide (e9.2=0)) (some (([]:List Param),e9.1,e9.2)) ((kZ n l e9.1 ([105,110,116]:au')).bind λeW=>cond eW (Ky n dc l e9 cW df 1) ((kZ n l e9.1 ([115,116,114]:au')).bind λdW=>cond dW (Ky n dc l e9 cW df 2) ((kZ n l e9.1 ([98,111,111,108]:au')).bind λeT=>cond eT (Ky n dc l e9 cW df 3) ((xo n l e9.1).bind λdp=>some (([]:List Param),e9.1,dp))))))
def xr(n:Nat)(l:List Token):Nat→Int→(List Param)→Option ((List Param)×Int×Int)
 | 0=>λ_ _=>none
 |m+1=>Kz n l (xr n l m)
def aaw(l:List Token)(at_:Int):Option ((List Param)×Int×Int):=(kZ n l at_ ([41]:au')).bind λr1=>cond r1 (some (([]:List Param),(ava (at_+1)),0)) (xr n l n at_ ([]:List Param))
def Ev(l:List Token)(at_:Int):Option (bb×Int×Int):=(kD n l at_ ([([112,114,111,99]:au')]:List au')).bind λr1=>cond (!decide (r1.2=0)) (some ((⟨[],[],[]⟩:bb),r1.1,r1.2)) ((tf n l r1.1 1).bind λr3=>cond (!decide (r3.2.2=0)) (some ((⟨[],[],[]⟩:bb),r3.2.1,r3.2.2)) ((kD n l r3.2.1 ([([40]:au')]:List au')).bind λbV=>cond (!decide (bV.2=0)) (some ((⟨[],[],[]⟩:bb),bV.1,bV.2)) ((aaw n l bV.1).bind λbO=>cond (!decide (bO.2.2=0)) (some ((⟨[],[],[]⟩:bb),bO.2.1,bO.2.2)) ((nd n l bO.2.1 0).bind λcd=>some ((⟨r3.1.Text,bO.1,cd.1⟩:bb),cd.2.1,cd.2.2)))))
def KA(src:au'):Option (bb×Int×Int):=(Sf n src).bind λr1=>cond (!decide (r1.2.2=0)) (some ((⟨[],[],[]⟩:bb),r1.2.1,r1.2.2)) ((Ev n r1.1 0).bind λr3=>(Sg n r1.1 r3.2.1 r3.2.2).bind λaR=>cond (!decide (aR=0)) ((Sh n r1.1 r3.2.1).bind λaT=>some ((⟨[],[],[]⟩:bb),aT,aR)) ((Ei n r3.1).bind λbO=>cond (!decide (bO=0)) (some ((⟨[],[],[]⟩:bb),0,bO)) (some (r3.1,0,0))))
def aax(n:Nat)(aV:List bb):Option ((List bb)×Bool):=some (aV,true)
def Sp(l:List au')(aj:(List bb)→Int→Option ((List bb)×Bool))(bm:List bb)(v9:Int):Option ((List bb)×Bool):=cond (decide (v9<((l.length:Nat):Int))) (av (aI v9 l.length)<|(KA n (avb l v9)).bind λbx=>Option.bind (cond (!(!decide (bx.2.2=0))) (xn n bx.1) (some default)) λcq=>av ((!decide (bx.2.2=0))||aI v9 l.length)<|cond (cond (!decide (bx.2.2=0)) true (!(decide (cq=(avb l v9))))) (some (([]:List bb),false)) (av (room (bm.length+([bx.1]:List bb).length) 64)<|aj (bm++([bx.1]:List bb)) (ava (v9+1)))) (aax n bm)
def Ew(n:Nat)(l:List au'):Nat→(List bb)→Int→Option ((List bb)×Bool)
 | 0=>λ_ _=>none
 |m+1=>Sp n l (Ew n l m)
def ajt(l:List au'):Option ((List bb)×Bool):=Ew n l n ([]:List bb) 0
def Sq(s:au')(r3:bN×(List au')×Int)(bH:dw×Int)(bZ:dw):avc:=(xe n bZ).bind λdW=>Option.bind (cond (cond (cond (cond (decide (bH.2=0)) (decide (dW.2.2=0)) false) (decide (dW.1=s)) false) (decide (dW.2.1=(ava (r3.1.Pos+((r3.2.1.length:Nat):Int))))) false) (Ax n) (some default)) λeT=>some (cond (cond (cond (cond (decide (bH.2=0)) (decide (dW.2.2=0)) false) (decide (dW.1=s)) false) (decide (dW.2.1=(ava (r3.1.Pos+((r3.2.1.length:Nat):Int))))) false) eT false)
def KB(s:au')(r3:bN×(List au')×Int)(bH:dw×Int)(aj:dw→Int→avc)(b0:dw)(bL:Int):avc:=cond (decide (bL<((r3.2.1.length:Nat):Int))) (av (aI bL r3.2.1.length)<|(Af n b0 (avb r3.2.1 bL)).bind λb8=>aj b8 (ava (bL+1))) (Sq n s r3 bH b0)
def Az(n:Nat)(s:au')(r3:bN×(List au')×Int)(bH:dw×Int):Nat→dw→Int→avc
 | 0=>λ_ _=>none
 |m+1=>KB n s r3 bH (Az n s r3 bH m)
def Sr(s:au'):avc:=cond (decide (4000<((s.length:Nat):Int))) ((Ax n).bind λr2=>some r2) ((D4 n s).bind λr3=>cond (!decide (r3.2.2=0)) (Option.bind (cond (cond (decide (((r3.2.1.length:Nat):Int)=0)) (decide (r3.1.Pos=0)) false) (Ax n) (some default)) λbV=>some (cond (cond (decide (((r3.2.1.length:Nat):Int)=0)) (decide (r3.1.Pos=0)) false) bV false)) ((D0 n r3.1).bind λaT=>cond (!decide (aT.2=0)) (some false) ((xh n aT.1 r3.1.aw 4000).bind λbH=>Az n s r3 bH n bH.1 0)))
end Go.Ab.Y

/- What each function computes, over plain data, with fuel. Printed by a program. -/
import Derived.Test.YtbncfepdlmnmiaaGreatDoorHand
set_option linter.all false
namespace Go.Ab.Y
open Go Go.Ab Go.Proofs
variable (n:Nat)
def PF(n:Nat)(c:Int):auN:=some (cond (cond (cond (cond (cond (cond (decide (97≤c)) (decide (c≤122)) false) true (cond (decide (48≤c)) (decide (c≤57)) false)) true (decide (c=47))) true (decide (c=46))) true (decide (c=95))) true (decide (c=45)))
def PG(n:Nat):auN:=some true
def Ig(s:auJ)(aj:Int→auN)(v5:Int):auN:=cond (decide (v5<((s.length:Nat):Int))) (ar (aN v5 s.length)<|(PF n (((s.getD (v5).toNat 0).toNat:Nat):Int)).bind λbz=>cond (!bz) (some false) (aj (auL (v5+1)))) (PG n)
def za(n:Nat)(s:auJ):Nat→Int→auN
 | 0=>λ_=>none
 |m+1=>Ig n s (za n s m)
def Ih(s:auJ):auN:=cond (decide (24<((s.length:Nat):Int))) (some false) (za n s n 0)
def wB(k:auJ):auN:=Option.bind (cond (!(decide (k=([]:auJ)))) (Ih n k) (some default)) λr1=>some (cond (!(decide (k=([]:auJ)))) r1 false)
def PH(n:Nat)(l:List auJ):auN:=some (decide (((l.length:Nat):Int)≤64))
def Ii(l:List auJ)(aj:Int→auN)(v5:Int):auN:=cond (decide (v5<((l.length:Nat):Int))) (ar (aN v5 l.length)<|(wB n (auM l v5)).bind λbz=>ar ((!bz)||(!(decide (0<v5))||aN (auL (v5-1)) l.length))<|cond (cond (!bz) true (cond (decide (0<v5)) ((Op.bytesLess (auM l v5) (auM l (auL (v5-1))))||(decide ((auM l v5)=(auM l (auL (v5-1)))))) false)) (some false) (aj (auL (v5+1)))) (PH n l)
def zb(n:Nat)(l:List auJ):Nat→Int→auN
 | 0=>λ_=>none
 |m+1=>Ii n l (zb n l m)
def C8(l:List auJ):auN:=zb n l n 0
def C9(f:ff):auN:=cond f.eN (some (cond (decide (((f.Reads.length:Nat):Int)=0)) (decide (((f.dz.length:Nat):Int)=0)) false)) ((C8 n f.Reads).bind λr2=>Option.bind (cond r2 (C8 n f.dz) (some default)) λr3=>some (cond r2 r3 false))
def PI(n:Nat):auN:=some false
def iD(v1:Bool):auN:=cond v1 (some true) (PI n)
def C'(s:auJ):auN:=cond (decide (s=([112,114,111,99]:auJ))) (iD n (decide (s=([112,114,111,99]:auJ)))) (cond (decide (s=([108,101,116]:auJ))) (iD n (decide (s=([108,101,116]:auJ)))) (cond (decide (s=([112,117,116]:auJ))) (iD n (decide (s=([112,117,116]:auJ)))) (cond (decide (s=([100,101,108,101,116,101]:auJ))) (iD n (decide (s=([100,101,108,101,116,101]:auJ)))) (cond (decide (s=([105,102]:auJ))) (iD n (decide (s=([105,102]:auJ)))) (cond (decide (s=([101,108,115,101]:auJ))) (iD n (decide (s=([101,108,115,101]:auJ)))) (cond (decide (s=([102,111,114]:auJ))) (iD n (decide (s=([102,111,114]:auJ)))) (cond (decide (s=([116,111]:auJ))) (iD n (decide (s=([116,111]:auJ)))) (cond (decide (s=([109,97,120]:auJ))) (iD n (decide (s=([109,97,120]:auJ)))) (cond (decide (s=([101,109,105,116]:auJ))) (iD n (decide (s=([101,109,105,116]:auJ)))) (cond (decide (s=([97,98,111,114,116]:auJ))) (iD n (decide (s=([97,98,111,114,116]:auJ)))) (cond (decide (s=([110,111,116]:auJ))) (iD n (decide (s=([110,111,116]:auJ)))) (cond (decide (s=([97,110,100]:auJ))) (iD n (decide (s=([97,110,100]:auJ)))) (cond (decide (s=([111,114]:auJ))) (iD n (decide (s=([111,114]:auJ)))) (cond (decide (s=([105,110,116]:auJ))) (iD n (decide (s=([105,110,116]:auJ)))) (cond (decide (s=([115,116,114]:auJ))) (iD n (decide (s=([115,116,114]:auJ)))) (cond (decide (s=([98,111,111,108]:auJ))) (iD n (decide (s=([98,111,111,108]:auJ)))) (cond (decide (s=([116,101,120,116]:auJ))) (iD n (decide (s=([116,101,120,116]:auJ)))) (cond (decide (s=([108,101,110]:auJ))) (iD n (decide (s=([108,101,110]:auJ)))) (cond (decide (s=([103,101,116,105,110,116]:auJ))) (iD n (decide (s=([103,101,116,105,110,116]:auJ)))) (cond (decide (s=([103,101,116,115,116,114]:auJ))) (iD n (decide (s=([103,101,116,115,116,114]:auJ)))) (cond (decide (s=([104,97,115]:auJ))) (iD n (decide (s=([104,97,115]:auJ)))) (cond (decide (s=([110,111,119]:auJ))) (iD n (decide (s=([110,111,119]:auJ)))) (cond (decide (s=([114,97,110,100,111,109]:auJ))) (iD n (decide (s=([114,97,110,100,111,109]:auJ)))) (iD n (decide (s=([110,111,100,101]:auJ)))))))))))))))))))))))))))
def C_(n:Nat)(c:Int):auN:=some (cond (decide (97≤c)) (decide (c≤122)) false)
def sM(s:auJ):auN:=ar (!(cond (!(decide (s=([]:auJ)))) (decide (((s.length:Nat):Int)≤16)) false)||aN 0 s.length)<|Option.bind (cond (cond (!(decide (s=([]:auJ)))) (decide (((s.length:Nat):Int)≤16)) false) (C_ n (IntKind.i32.wrap (((s.getD 0 0).toNat:Nat):Int))) (some default)) λr2=>Option.bind (cond (cond (cond (!(decide (s=([]:auJ)))) (decide (((s.length:Nat):Int)≤16)) false) r2 false) (y9 n s) (some default)) λr3=>Option.bind (cond (cond (cond (cond (!(decide (s=([]:auJ)))) (decide (((s.length:Nat):Int)≤16)) false) r2 false) (decide (r3=((s.length:Nat):Int))) false) (C' n s) (some default)) λaB=>some (cond (cond (cond (cond (!(decide (s=([]:auJ)))) (decide (((s.length:Nat):Int)≤16)) false) r2 false) (decide (r3=((s.length:Nat):Int))) false) (!aB) false)
def Zu(n:Nat)(s:auJ):auN:=some (decide (((s.length:Nat):Int)≤64))
def PJ(s:auJ)(aj:Int→auN)(v4:Int):auN:=cond (decide (v4<((s.length:Nat):Int))) (ar (aN v4 s.length)<|ar ((decide ((((s.getD (v4).toNat 0).toNat:Nat):Int)<32))||aN v4 s.length)<|cond (cond (decide ((((s.getD (v4).toNat 0).toNat:Nat):Int)<32)) true (decide (126<(((s.getD (v4).toNat 0).toNat:Nat):Int)))) (some false) (aj (auL (v4+1)))) (Zu n s)
def Da(n:Nat)(s:auJ):Nat→Int→auN
 | 0=>λ_=>none
 |m+1=>PJ n s (Da n s m)
def Db(s:auJ):auN:=Da n s n 0
def sN(v:bn):auN:=cond (decide (v.Kind=0)) (some ((decide (v.Kind=0))&&((decide (v.N=0))&&((decide (v.S=([]:auJ)))&&true)))) (cond (decide (v.Kind=1)) (some (decide (v.S=([]:auJ)))) (cond (decide (v.Kind=2)) (Option.bind (cond (decide (v.N=0)) (Db n v.S) (some default)) λaB=>some (cond (decide (v.N=0)) aB false)) (some false)))
def PK(v:bn):auN:=Option.bind (cond (!(decide (v.Kind=0))) (sN n v) (some default)) λr1=>some (cond (decide (v.Kind=0)) true (!r1))
def PL(n:Nat):auO:=some (-1)
def Ij(s:List bn)(aj:Int→auO)(v4:Int):auO:=cond (decide (v4<((s.length:Nat):Int))) (ar (aN v4 s.length)<|(PK n (auM s v4)).bind λaU=>cond aU (some v4) (aj (auL (v4+1)))) (PL n)
def zc(n:Nat)(s:List bn):Nat→Int→auO
 | 0=>λ_=>none
 |m+1=>Ij n s (zc n s m)
def PM(s:List bn):auO:=zc n s n 0
def PN(s:List bn):auN:=(PM n s).bind λr1=>some (decide (0≤r1))
def zd(ai:Request):auO:=cond (cond (cond (cond (decide (ai.Client<1)) true (decide (32<ai.Client))) true (decide (ai.Seq<1))) true (decide (1099511627776<ai.Seq))) (some 1) ((sM n ai.be).bind λr2=>cond (!r2) (some 7) (cond (decide (6<((ai.an.length:Nat):Int))) (some 2) ((PN n ai.an).bind λbu=>cond bu (some 1) ((C9 n ai.bP).bind λbz=>cond (cond (cond (!bz) true ai.bP.eN) true (cond (!ai.f_) (decide (0<(auL (((ai.bP.Reads.length:Nat):Int)+((ai.bP.dz.length:Nat):Int))))) false)) (some 1) (some 0)))))
def Zv(n:Nat)(b:List Int)(c:Int):Option (List Int):=ar (room (b.length+([c]:List Int).length) 1)<|some (b++([c]:List Int))
def Zw(v9:Int)(v10:List Int):Option auJ:=(Zv n v10 (IntKind.u8.wrap v9)).bind λa'=>ar (nz a')<|some (kf a')
def Zx(aj:Int→(List Int)→Option auJ)(v4:Int)(v5:List Int):Option auJ:=cond (decide (128≤v4)) (none) (Zw n v4 v5)
def PO(n:Nat):Nat→Int→(List Int)→Option auJ
 | 0=>λ_ _=>none
 |m+1=>Zx n (PO n m)
def pt(u:Int):Option auJ:=PO n n u ([]:List Int)
def ze(s:auJ):Option auJ:=(pt n (IntKind.u64.wrap ((s.length:Nat):Int))).bind λr1=>ar (cq (r1.length+s.length))<|some (r1++s)
def wC(cX:Int):Option auJ:=(pt n (o2 .u64 (sj .u64 (IntKind.u64.wrap cX) 1) (IntKind.u64.wrap (tI .i64 cX 63)))).bind λr1=>some r1
def Zy(v:bn):Option auJ:=cond (decide (v.Kind=1)) ((pt n 1).bind λr2=>(wC n v.N).bind λr3=>ar (cq (r2.length+r3.length))<|some (r2++r3)) (none)
def Zz(n:Nat)(aP:auJ):Option auJ:=some aP
def ZA(l:List Request)(aj:Int→auJ→Option auJ)(v9:Int)(v10:auJ):Option auJ:=cond (decide (v9<((l.length:Nat):Int))) (none) (Zz n v10)
def PP(n:Nat)(l:List Request):Nat→Int→auJ→Option auJ
 | 0=>λ_ _=>none
 |m+1=>ZA n l (PP n l m)
def ZB(l:List Request):Option auJ:=cond (decide (64<((l.length:Nat):Int))) (none) ((pt n (IntKind.u64.wrap ((l.length:Nat):Int))).bind λr2=>PP n l n 0 r2)
def PQ(n:Nat):auN:=some true
def Ik(floor:Int)(last:Int)(ai:Row)(aj:Int→auN)(bf:Int):auN:=cond (decide (bf<((ai.bZ.length:Nat):Int))) (ar (aN bf ai.bZ.length)<|Option.bind (cond (!(cond (decide ((auM ai.bZ bf).dD<floor)) true (decide (last<(auM ai.bZ bf).dD)))) (sN n (⟨((auM ai.bZ bf).bx).Kind,((auM ai.bZ bf).bx).N,((auM ai.bZ bf).bx).S⟩:bn)) (some default)) λdd=>cond (cond (cond (decide ((auM ai.bZ bf).dD<floor)) true (decide (last<(auM ai.bZ bf).dD))) true (!dd)) (some false) (ar (!(decide (0<bf))||aN (auL (bf-1)) ai.bZ.length)<|ar (!(decide (0<bf))||((decide ((auM ai.bZ bf).dD≤(auM ai.bZ (auL (bf-1))).dD))||aN (auL (bf-1)) ai.bZ.length))<|cond (cond (decide (0<bf)) (cond (decide ((auM ai.bZ bf).dD≤(auM ai.bZ (auL (bf-1))).dD)) true ((decide (((auM ai.bZ bf).bx).Kind=((auM ai.bZ (auL (bf-1))).bx).Kind))&&((decide (((auM ai.bZ bf).bx).N=((auM ai.bZ (auL (bf-1))).bx).N))&&((decide (((auM ai.bZ bf).bx).S=((auM ai.bZ (auL (bf-1))).bx).S))&&true)))) false) (some false) (aj (auL (bf+1))))) (PQ n)
def zf(n:Nat)(floor:Int)(last:Int)(ai:Row):Nat→Int→auN
 | 0=>λ_=>none
 |m+1=>Ik n floor last ai (zf n floor last ai m)
def Il(ai:Row)(floor:Int)(last:Int):auN:=ar ((decide (((ai.bZ.length:Nat):Int)=0))||aN 0 ai.bZ.length)<|cond (cond (decide (((ai.bZ.length:Nat):Int)=0)) true (decide (((ai.bZ.getD 0 default).bx).Kind=0))) (some false) (zf n floor last ai n 0)
def PR(n:Nat):auN:=some true
def Im(s:au)(aj:Int→auN)(bE:Int):auN:=cond (decide (bE<((s.Rows.length:Nat):Int))) (ar (aN bE s.Rows.length)<|(wB n ((auM s.Rows bE).Key)).bind λb9=>ar ((!b9)||(!(decide (0<bE))||aN (auL (bE-1)) s.Rows.length))<|Option.bind (cond (!(cond (!b9) true (cond (decide (0<bE)) ((Op.bytesLess ((auM s.Rows bE).Key) ((auM s.Rows (auL (bE-1))).Key))||(decide (((auM s.Rows bE).Key)=((auM s.Rows (auL (bE-1))).Key)))) false))) (Il n (auM s.Rows bE) s.bX s.bN) (some default)) λa'=>cond (cond (cond (!b9) true (cond (decide (0<bE)) ((Op.bytesLess ((auM s.Rows bE).Key) ((auM s.Rows (auL (bE-1))).Key))||(decide (((auM s.Rows bE).Key)=((auM s.Rows (auL (bE-1))).Key)))) false)) true (!a')) (some false) (aj (auL (bE+1)))) (PR n)
def zg(n:Nat)(s:au):Nat→Int→auN
 | 0=>λ_=>none
 |m+1=>Im n s (zg n s m)
def zh(s:au):auN:=cond (cond (cond (decide (s.bX<0)) true (decide (s.bN<s.bX))) true (decide (1099511627776<s.bN))) (some false) (zg n s n 0)
def ZC(n:Nat)(s:au)(at_:Int):auO:=cond (cond (decide (at_<s.bX)) true (decide (s.bN<at_))) (none) (some 0)
def ZD(n:Nat)(v6:Int):auO:=some v6
def ZE(at_:Int)(ai:Row)(aj:Int→auO)(v3:Int):auO:=ar (!(decide (v3<((ai.bZ.length:Nat):Int)))||aN v3 ai.bZ.length)<|cond (cond (decide (v3<((ai.bZ.length:Nat):Int))) (decide ((auM ai.bZ v3).dD≤at_)) false) (aj (auL (v3+1))) (ZD n v3)
def PS(n:Nat)(at_:Int)(ai:Row):Nat→Int→auO
 | 0=>λ_=>none
 |m+1=>ZE n at_ ai (PS n at_ ai m)
def ZF(ai:Row)(at_:Int):auO:=PS n at_ ai n 0
def ZG(ai:Row)(at_:Int):Option bn:=(ZF n ai at_).bind λr1=>cond (decide (r1=0)) (none) (ar (aN (auL (r1-1)) ai.bZ.length)<|some (⟨((auM ai.bZ (auL (r1-1))).bx).Kind,((auM ai.bZ (auL (r1-1))).bx).N,((auM ai.bZ (auL (r1-1))).bx).S⟩:bn))
def ZH(n:Nat)(b6:List aY):Option ((List aY)×Int):=some (b6,0)
def ZI(n:Nat)(aj:Int→(List aY)→Option ((List aY)×Int))(at_:Int)(s:au)(v11:Int)(ck:List aY):Option ((List aY)×Int):=aj (auL (v11+1)) ck
def ZJ(at_:Int)(s:au)(aj:Int→(List aY)→Option ((List aY)×Int))(v11:Int)(v12:List aY):Option ((List aY)×Int):=cond (decide (v11<((s.Rows.length:Nat):Int))) (ar (aN v11 s.Rows.length)<|(ZG n (auM s.Rows v11) at_).bind λdQ=>cond (!decide (dQ.Kind=0)) (ar (room (v12.length+([(⟨(auM s.Rows v11).Key,dQ⟩:aY)]:List aY).length) 48)<|ZI n aj at_ s v11 (v12++([(⟨(auM s.Rows v11).Key,dQ⟩:aY)]:List aY))) (none)) (ZH n v12)
def PT(n:Nat)(at_:Int)(s:au):Nat→Int→(List aY)→Option ((List aY)×Int)
 | 0=>λ_ _=>none
 |m+1=>ZJ n at_ s (PT n at_ s m)
def PU(s:au)(at_:Int):Option ((List aY)×Int):=(zh n s).bind λr1=>cond (!r1) (none) ((ZC n s at_).bind λr3=>cond (!decide (r3=0)) (none) (PT n at_ s n 0 ([]:List aY)))
def ZK(n:Nat)(m6:auJ):Option auJ:=some m6
def ZL(p:b1)(aj:Int→auJ→Option auJ)(aP:Int)(bQ:auJ):Option auJ:=cond (decide (aP<((p.aL.length:Nat):Int))) (ar (aN aP p.aL.length)<|(wC n ((auM p.aL aP).Id)).bind λel=>(ze n ((auM p.aL aP).ed)).bind λeZ=>ar (cq (el.length+eZ.length))<|(wC n ((auM p.aL aP).Node)).bind λey=>ar (cq ((el++eZ).length+ey.length))<|(wC n ((auM p.aL aP).fQ)).bind λfJ=>ar (cq (((el++eZ)++ey).length+fJ.length))<|(ze n ((auM p.aL aP).eH)).bind λr27=>ar (cq ((((el++eZ)++ey)++fJ).length+r27.length))<|ar (cq (bQ.length+((((el++eZ)++ey)++fJ)++r27).length))<|aj (auL (aP+1)) (bQ++((((el++eZ)++ey)++fJ)++r27))) (ZK n bQ)
def PV(n:Nat)(p:b1):Nat→Int→auJ→Option auJ
 | 0=>λ_ _=>none
 |m+1=>ZL n p (PV n p m)
def ZM(p:b1):Option auJ:=(wC n p.Version).bind λr1=>(pt n (IntKind.u64.wrap ((p.aL.length:Nat):Int))).bind λr2=>ar (cq (r1.length+r2.length))<|PV n p n 0 (r1++r2)
def PW(n:Nat)(y:Param)(af:Param):auN:=some (decide (y.Name=af.Name))
def PX(n:Nat)(af:Param):auO:=some (-1)
def PY(s:List Param)(af:Param)(aj:Int→auO)(v4:Int):auO:=cond (decide (v4<((s.length:Nat):Int))) (ar (aN v4 s.length)<|(PW n (auM s v4) af).bind λaU=>cond aU (some v4) (aj (auL (v4+1)))) (PX n af)
def zi(n:Nat)(s:List Param)(af:Param):Nat→Int→auO
 | 0=>λ_=>none
 |m+1=>PY n s af (zi n s af m)
def PZ(s:List Param)(af:Param):auO:=zi n s af n 0
def In(s:List Param)(af:Param):auN:=(PZ n s af).bind λr1=>some (decide (0≤r1))
def P0(n:Nat):auO:=some 0
def P1(l:List Param)(aj:Int→auO)(bE:Int):auO:=cond (decide (bE<((l.length:Nat):Int))) (ar (aN bE l.length)<|(sM n ((auM l bE).Name)).bind λb9=>cond (!b9) (some 7) (cond (cond (decide ((auM l bE).f'<1)) true (decide (3<(auM l bE).f'))) (some 10) (ar (hE bE l.length)<|(In n (l.take (bE).toNat) (auM l bE)).bind λa'=>cond a' (some 8) (aj (auL (bE+1)))))) (P0 n)
def zj(n:Nat)(l:List Param):Nat→Int→auO
 | 0=>λ_=>none
 |m+1=>P1 n l (zj n l m)
def Io(l:List Param):auO:=cond (decide (6<((l.length:Nat):Int))) (some 2) (zj n l n 0)
def Ip(n:Nat)(op:Int):auO:=cond (cond (decide (op<1)) true (decide (27<op))) (some (-1)) (cond (cond (decide (op≤3)) true (decide (25≤op))) (some 0) (cond (cond (cond (decide (op=9)) true (decide (op=18))) true (decide (20≤op))) (some 1) (some 2)))
def P2(n:Nat)(s:auJ):auN:=some (decide (((s.length:Nat):Int)≤64))
def P3(s:auJ)(aj:Int→auN)(v4:Int):auN:=cond (decide (v4<((s.length:Nat):Int))) (ar (aN v4 s.length)<|ar ((decide ((((s.getD (v4).toNat 0).toNat:Nat):Int)<32))||aN v4 s.length)<|cond (cond (decide ((((s.getD (v4).toNat 0).toNat:Nat):Int)<32)) true (decide (126<(((s.getD (v4).toNat 0).toNat:Nat):Int)))) (some false) (aj (auL (v4+1)))) (P2 n s)
def zk(n:Nat)(s:auJ):Nat→Int→auN
 | 0=>λ_=>none
 |m+1=>P3 n s (zk n s m)
def P4(s:auJ):auN:=zk n s n 0
def Iq(e:Expr)(depth:Int):auO:=(Ip n e.Op).bind λr1=>cond (cond (cond (decide (r1<0)) true (cond (!decide (e.Op=1)) (!decide (e.N=0)) false)) true (cond (cond (!decide (e.Op=2)) (!decide (e.Op=3)) false) (!(decide (e.S=([]:auJ)))) false)) (some 1) (Option.bind (cond (decide (e.Op=3)) (sM n e.S) (some default)) λr3=>cond (cond (decide (e.Op=3)) (!r3) false) (some 7) (Option.bind (cond ((!(cond (decide (e.Op=1)) (decide (e.N<0)) false))&&(decide (e.Op=2))) (P4 n e.S) (some default)) λbu=>cond (cond (cond (cond (decide (e.Op=1)) (decide (e.N<0)) false) true (cond (decide (e.Op=2)) (!bu) false)) true (!decide (((e.an.length:Nat):Int)=r1))) (some 1) (cond (decide (12<depth)) (some 2) (some 0))))
def P5(n:Nat)(nD:Expr→Int→auO):auO:=some 0
def P6(nD:Expr→Int→auO)(depth:Int)(e:Expr)(aj:Int→auO)(v6:Int):auO:=cond (decide (v6<((e.an.length:Nat):Int))) (ar (aN v6 e.an.length)<|(nD (auM e.an v6) (auL (depth+1))).bind λcg=>cond (!decide (cg=0)) (some cg) (aj (auL (v6+1)))) (P5 n nD)
def Dc(n:Nat)(nD:Expr→Int→auO)(depth:Int)(e:Expr):Nat→Int→auO
 | 0=>λ_=>none
 |m+1=>P6 n nD depth e (Dc n nD depth e m)
def P7(nD:Expr→Int→auO)(e:Expr)(depth:Int):auO:=(Iq n e depth).bind λr1=>cond (!decide (r1=0)) (some r1) (Dc n nD depth e n 0)
def zl:Nat→Expr→Int→auO
 | 0=>λ_ _=>none
 |m+1=>P7 m (zl m)
def Dd(e:Expr):auO:=(zl n e 1).bind λr1=>some r1
def zm(n:Nat)(e:Expr):auN:=some (cond (cond (cond (decide (e.Op=0)) (decide (e.N=0)) false) (decide (e.S=([]:auJ))) false) (decide (((e.an.length:Nat):Int)=0)) false)
def Ir(s:Stmt)(u:lu):auN:=Option.bind (cond ((!(cond (!u.name) (!(decide (s.Name=([]:auJ)))) false))&&(!u.a)) (zm n (⟨s.A.Op,s.A.N,s.A.S,s.A.an⟩:Expr)) (some default)) λr1=>Option.bind (cond ((!(cond (cond (!u.name) (!(decide (s.Name=([]:auJ)))) false) true (cond (!u.a) (!r1) false)))&&(!u.b)) (zm n (⟨s.B.Op,s.B.N,s.B.S,s.B.an⟩:Expr)) (some default)) λr2=>cond (cond (cond (cond (cond (cond (cond (!u.name) (!(decide (s.Name=([]:auJ)))) false) true (cond (!u.a) (!r1) false)) true (cond (!u.b) (!r2) false)) true (cond (!u.max) (!decide (s.Max=0)) false)) true (cond (!u.body) (decide (0<((s.Body.length:Nat):Int))) false)) true (cond (!u.other) (decide (0<((s.bK.length:Nat):Int))) false)) (some false) (cond (decide (s.Op=6)) (some (cond (decide (1≤s.Max)) (decide (s.Max≤16)) false)) (cond (decide (s.Op=8)) (some (cond (decide (0≤s.Max)) (decide (s.Max≤999)) false)) (some true)))
def P8(n:Nat):Option (lu×Bool):=some ((⟨false,false,false,false,false,false⟩:lu),false)
def Is(op:Int)(v2:Bool):Option (lu×Bool):=cond v2 (some ((⟨false,true,false,false,false,false⟩:lu),true)) (cond (decide (op=5)) (some ((⟨false,true,false,false,true,true⟩:lu),true)) (cond (decide (op=6)) (some ((⟨true,true,true,true,true,false⟩:lu),true)) (cond (decide (op=8)) (some ((⟨false,false,false,true,false,false⟩:lu),true)) (P8 n))))
def It(op:Int)(v1:Bool):Option (lu×Bool):=cond v1 (some ((⟨true,true,false,false,false,false⟩:lu),true)) (cond (decide (op=3)) (some ((⟨false,true,true,false,false,false⟩:lu),true)) (cond (decide (op=4)) (Is n op (decide (op=4))) (Is n op (decide (op=7)))))
def Iu(op:Int):Option (lu×Bool):=cond (decide (op=1)) (It n op (decide (op=1))) (It n op (decide (op=2)))
def Iv(n:Nat)(depth:Int):auO:=cond (decide (12<depth)) (some 2) (some 0)
def Iw(depth:Int)(s:Stmt)(r1:lu×Bool):auO:=cond r1.1.b ((Dd n (⟨s.B.Op,s.B.N,s.B.S,s.B.an⟩:Expr)).bind λbz=>cond (!decide (bz=0)) (some bz) (Iv n depth)) (Iv n depth)
def Ix(s:Stmt)(depth:Int):auO:=(Iu n s.Op).bind λr1=>Option.bind (cond (!(!r1.2)) (Ir n (⟨s.Op,s.Name,s.Max,⟨s.A.Op,s.A.N,s.A.S,s.A.an⟩,⟨s.B.Op,s.B.N,s.B.S,s.B.an⟩,s.Body,s.bK⟩:Stmt) r1.1) (some default)) λr2=>cond (cond (!r1.2) true (!r2)) (some 1) (Option.bind (cond r1.1.name (sM n s.Name) (some default)) λaB=>cond (cond r1.1.name (!aB) false) (some 7) (cond r1.1.a ((Dd n (⟨s.A.Op,s.A.N,s.A.S,s.A.an⟩:Expr)).bind λaU=>cond (!decide (aU=0)) (some aU) (Iw n depth s r1)) (Iw n depth s r1)))
def Iy(s:Stmt)(depth:Int)(af:Int):auO:=cond (decide (af=0)) ((Ix n (⟨s.Op,s.Name,s.Max,⟨s.A.Op,s.A.N,s.A.S,s.A.an⟩,⟨s.B.Op,s.B.N,s.B.S,s.B.an⟩,s.Body,s.bK⟩:Stmt) depth).bind λr2=>some r2) (some af)
def P9(n:Nat)(a0:Expr):Option Unit:=some ()
def P'(n:Nat)(qt:Expr→Int→Int→auO)(e:Expr)(fS:Int)(ef:Int→Int→auO)(v6:Int)(bE:Int):auO:=cond (decide (bE<((e.an.length:Nat):Int))) (ar (aN bE e.an.length)<|(qt (auM e.an bE) v6 fS).bind λb9=>ef b9 (auL (bE+1))) (some v6)
def De(n:Nat)(qt:Expr→Int→Int→auO)(e:Expr)(fS:Int):Nat→Int→Int→auO
 | 0=>λ_ _=>none
 |m+1=>P' n qt e fS (De n qt e fS m)
def P_(qt:Expr→Int→Int→auO)(e:Expr)(jM:Int)(fS:Int):auO:=cond (decide (jM=0)) (some jM) (De n qt e fS n (auL (jM-1)) 0)
def zn:Nat→Expr→Int→Int→auO
 | 0=>λ_ _ _=>none
 |m+1=>P_ m (zn m)
def Df(e:Expr)(jM:Int)(fS:Int):auO:=Option.bind (cond (!(decide (jM=0))) (zm n e) (some default)) λr1=>cond (cond (decide (jM=0)) true r1) (some jM) ((P9 n e).bind λr3=>(zn n e jM fS).bind λaB=>some aB)
def Qa(pu:(List Stmt)→Int→Int→Int→Option (Int×Int))(depth:Int)(l:List Stmt)(ef:Int→Int→Int→Option (Int×Int))(v10:Int)(v11:Int)(v12:Int):Option (Int×Int):=cond (decide (v12<((l.length:Nat):Int))) (ar (aN v12 l.length)<|cond (decide (v10=0)) (some (v10,v11)) ((Iy n (⟨(auM l v12).Op,(auM l v12).Name,(auM l v12).Max,⟨((auM l v12).A).Op,((auM l v12).A).N,((auM l v12).A).S,((auM l v12).A).an⟩,⟨((auM l v12).B).Op,((auM l v12).B).N,((auM l v12).B).S,((auM l v12).B).an⟩,(auM l v12).Body,(auM l v12).bK⟩:Stmt) depth v11).bind λdQ=>(Df n (⟨((auM l v12).A).Op,((auM l v12).A).N,((auM l v12).A).S,((auM l v12).A).an⟩:Expr) (auL (v10-1)) dQ).bind λdi=>(Df n (⟨((auM l v12).B).Op,((auM l v12).B).N,((auM l v12).B).S,((auM l v12).B).an⟩:Expr) di dQ).bind λcC=>(pu ((auM l v12).Body) (auL (depth+1)) cC dQ).bind λdB=>(pu ((auM l v12).bK) (auL (depth+1)) dB.1 dB.2).bind λe8=>ef e8.1 e8.2 (auL (v12+1)))) (some (v10,v11))
def Dg(n:Nat)(pu:(List Stmt)→Int→Int→Int→Option (Int×Int))(depth:Int)(l:List Stmt):Nat→Int→Int→Int→Option (Int×Int)
 | 0=>λ_ _ _=>none
 |m+1=>Qa n pu depth l (Dg n pu depth l m)
def Qb(pu:(List Stmt)→Int→Int→Int→Option (Int×Int))(l:List Stmt)(depth:Int)(jM:Int)(fS:Int):Option (Int×Int):=Dg n pu depth l n jM fS 0
def wD:Nat→(List Stmt)→Int→Int→Int→Option (Int×Int)
 | 0=>λ_ _ _ _=>none
 |m+1=>Qb m (wD m)
def Qc(p:be)(af:Int):Option (Int×Int):=(wD n p.Body 1 401 af).bind λr1=>some ((auL (401-r1.1)),r1.2)
def Dh(p:be):auO:=(sM n p.Name).bind λr1=>cond (!r1) (some 7) ((Io n p.Params).bind λr3=>cond (!decide (r3=0)) (some r3) ((Qc n p r3).bind λbu=>cond (cond (decide (bu.2=0)) (decide (400<bu.1)) false) (some 2) (some bu.2)))
def Iz(n:Nat)(ty:Int):Option auJ:=cond (decide (ty=1)) (some ([105,110,116]:auJ)) (cond (decide (ty=2)) (some ([115,116,114]:auJ)) (some ([98,111,111,108]:auJ)))
def rC(n:Nat)(op:Int):Option (Unit ⊕ Unit ⊕ Unit ⊕ Unit ⊕ Unit ⊕ Unit ⊕ Unit ⊕ Unit):=cond (decide (op=1)) (some (.inl ())) (cond (decide (op=2)) (some (.inr (.inl ()))) (cond (decide (op=3)) (some (.inr (.inr (.inl ())))) (cond (decide (op=4)) (some (.inr (.inr (.inr (.inl ()))))) (cond (decide (op=5)) (some (.inr (.inr (.inr (.inr (.inl ())))))) (cond (decide (op=6)) (some (.inr (.inr (.inr (.inr (.inr (.inl ()))))))) (cond (decide (op=7)) (some (.inr (.inr (.inr (.inr (.inr (.inr (.inl ())))))))) (some (.inr (.inr (.inr (.inr (.inr (.inr (.inr ()))))))))))))))
def wE(cX:Int):Option auJ:=(Ic n cX 10).bind λr1=>some r1
def zo(n:Nat)(cd:List Int)(ct:Int):Option Unit:=some ()
def IA(c:Int)(cd:List Int)(ct:Int):Option (List Int):=(zo n cd ct).bind λr1=>ar (room (cd.length+([c]:List Int).length) 1)<|some (cd++([c]:List Int))
def Di(s:auJ)(cd:List Int)(ct:Int):Option (Int×(List Int)):=(zo n cd ct).bind λr1=>ar (room (cd.length+s.length) 1)<|some (((s.length:Nat):Int),(cd++s.map λb=>(b.toNat:Int)))
def Qd(ct:Int)(v20:List Int):Option (List Int):=(IA n 10 v20 ct).bind λeZ=>some eZ
def Qe(parts:List auJ)(ct:Int)(fW:(List Int)→Int→Option (List Int))(bI:List Int)(bA:Int):Option (List Int):=cond (decide (bA<((parts.length:Nat):Int))) (ar (aN bA parts.length)<|(Di n (auM parts bA) bI ct).bind λdB=>fW dB.2 (auL (bA+1))) (Qd n ct bI)
def Dj(n:Nat)(parts:List auJ)(ct:Int):Nat→(List Int)→Int→Option (List Int)
 | 0=>λ_ _=>none
 |m+1=>Qe n parts ct (Dj n parts ct m)
def Qf(parts:List auJ)(ct:Int)(v9:List Int):Option (List Int):=Dj n parts ct n v9 0
def Qg(parts:List auJ)(ct:Int)(gw:(List Int)→Int→Option (List Int))(v4:List Int)(v5:Int):Option (List Int):=cond (decide (v5<ct)) ((Di n ([32,32,32,32]:auJ) v4 ct).bind λaU=>gw aU.2 (auL (v5+1))) (Qf n parts ct v4)
def Dk(n:Nat)(parts:List auJ)(ct:Int):Nat→(List Int)→Int→Option (List Int)
 | 0=>λ_ _=>none
 |m+1=>Qg n parts ct (Dk n parts ct m)
def mG(parts:List auJ)(cd:List Int)(ct:Int):Option (List Int):=Dk n parts ct n cd 0
def Qh(s:Stmt)(cd:List Int)(ct:Int):Option (List Int):=(wE n s.Max).bind λr1=>(mG n ([([97,98,111,114,116,32]:auJ),r1,([59]:auJ)]:List auJ) cd ct).bind λr2=>some r2
def Qi(n:Nat):auN:=some true
def Qj(s:auJ)(aj:Int→auN)(v4:Int):auN:=cond (decide (v4<((s.length:Nat):Int))) (ar (aN v4 s.length)<|ar ((decide ((((s.getD (v4).toNat 0).toNat:Nat):Int)<32))||aN v4 s.length)<|cond (cond (decide ((((s.getD (v4).toNat 0).toNat:Nat):Int)<32)) true (decide (126<(((s.getD (v4).toNat 0).toNat:Nat):Int)))) (some false) (aj (auL (v4+1)))) (Qi n)
def Dl(n:Nat)(s:auJ):Nat→Int→auN
 | 0=>λ_=>none
 |m+1=>Qj n s (Dl n s m)
def Qk(s:auJ):auN:=Dl n s n 0
def uu(n:Nat)(cd:List Int):Option (auJ×(List Int)):=ar (nz cd&&decide (cd.length≤9223372036854775807))<|some (kf cd,cd)
def Dm(n:Nat)(cd:List Int):Option Unit:=some ()
def rD(c:Int)(cd:List Int):Option (List Int):=(Dm n cd).bind λr1=>ar (room (cd.length+([c]:List Int).length) 1)<|some (cd++([c]:List Int))
def Ql(v25:List Int):Option (auJ×Int):=(rD n 34 v25).bind λr26=>(uu n r26).bind λr27=>some (r27.1,0)
def Qm(n:Nat)(aj:(List Int)→Int→Option (auJ×Int))(s:auJ)(bA:Int)(v22:List Int):Option (auJ×Int):=aj v22 (auL (bA+1))
def IB(aj:(List Int)→Int→Option (auJ×Int))(s:auJ)(bA:Int)(b6:List Int):Option (auJ×Int):=ar (aN bA s.length)<|(rD n (((s.getD (bA).toNat 0).toNat:Nat):Int) b6).bind λeZ=>Qm n aj s bA eZ
def Qn(s:auJ)(aj:(List Int)→Int→Option (auJ×Int))(bI:List Int)(bA:Int):Option (auJ×Int):=cond (decide (bA<((s.length:Nat):Int))) (ar (aN bA s.length)<|ar ((decide ((((s.getD (bA).toNat 0).toNat:Nat):Int)=34))||aN bA s.length)<|cond (cond (decide ((((s.getD (bA).toNat 0).toNat:Nat):Int)=34)) true (decide ((((s.getD (bA).toNat 0).toNat:Nat):Int)=92))) ((rD n 92 bI).bind λe8=>IB n aj s bA e8) (IB n aj s bA bI)) (Ql n bI)
def Dn(n:Nat)(s:auJ):Nat→(List Int)→Int→Option (auJ×Int)
 | 0=>λ_ _=>none
 |m+1=>Qn n s (Dn n s m)
def IC(s:auJ):Option (auJ×Int):=cond (decide (64<((s.length:Nat):Int))) (some (([]:auJ),2)) ((Qk n s).bind λr2=>cond (!r2) (some (([]:auJ),1)) ((rD n 34 ([]:List Int)).bind λaB=>Dn n s n aB 0))
def Qo(n:Nat):auO:=some 9
def Do(op:Int)(v3:Bool):auO:=cond v3 (some 7) (cond (decide (op=9)) (some 8) (Qo n))
def ID(op:Int)(v2:Bool):auO:=cond v2 (some 6) (cond (decide (op=6)) (Do n op (decide (op=6))) (cond (decide (op=7)) (Do n op (decide (op=7))) (Do n op (decide (op=8)))))
def uv(op:Int)(v1:Bool):auO:=cond v1 (some 4) (cond (decide (op=19)) (some 5) (cond (decide (op=4)) (ID n op (decide (op=4))) (ID n op (decide (op=5)))))
def Dp(op:Int):auO:=cond (decide (op=17)) (some 1) (cond (decide (op=16)) (some 2) (cond (decide (op=18)) (some 3) (cond (decide (op=10)) (uv n op (decide (op=10))) (cond (decide (op=11)) (uv n op (decide (op=11))) (cond (decide (op=12)) (uv n op (decide (op=12))) (cond (decide (op=13)) (uv n op (decide (op=13))) (cond (decide (op=14)) (uv n op (decide (op=14))) (uv n op (decide (op=15))))))))))
def IE(n:Nat)(op:Int):Option auJ:=cond (decide (op=17)) (some ([111,114]:auJ)) (cond (decide (op=16)) (some ([97,110,100]:auJ)) (cond (decide (op=10)) (some ([61,61]:auJ)) (cond (decide (op=11)) (some ([33,61]:auJ)) (cond (decide (op=12)) (some ([60]:auJ)) (cond (decide (op=13)) (some ([60,61]:auJ)) (cond (decide (op=14)) (some ([62]:auJ)) (cond (decide (op=15)) (some ([62,61]:auJ)) (cond (decide (op=19)) (some ([43,43]:auJ)) (cond (decide (op=4)) (some ([43]:auJ)) (cond (decide (op=5)) (some ([45]:auJ)) (cond (decide (op=6)) (some ([42]:auJ)) (cond (decide (op=7)) (some ([47]:auJ)) (some ([37]:auJ))))))))))))))
def IF(n:Nat)(op:Int):Option auJ:=cond (decide (op=20)) (some ([116,101,120,116]:auJ)) (cond (decide (op=21)) (some ([108,101,110]:auJ)) (cond (decide (op=22)) (some ([103,101,116,105,110,116]:auJ)) (cond (decide (op=23)) (some ([103,101,116,115,116,114]:auJ)) (cond (decide (op=24)) (some ([104,97,115]:auJ)) (cond (decide (op=25)) (some ([110,111,119]:auJ)) (cond (decide (op=26)) (some ([114,97,110,100,111,109]:auJ)) (cond (decide (op=27)) (some ([110,111,100,101]:auJ)) (some ([]:auJ)))))))))
def IG(rE:Expr→Option auJ)(oA:Expr→Int→Option auJ)(e:Expr):Option auJ:=(Dp n e.Op).bind λr1=>cond (decide (e.Op=1)) ((wE n e.N).bind λr3=>some r3) (cond (decide (e.Op=2)) ((IC n e.S).bind λbu=>some bu.1) (cond (decide (e.Op=3)) (some e.S) (cond (decide (e.Op=18)) (ar (aN 0 e.an.length)<|(oA (e.an.getD 0 default) r1).bind λb9=>ar (cq (([110,111,116,32]:auJ).length+b9.length))<|some (([110,111,116,32]:auJ)++b9)) (cond (decide (e.Op=9)) (ar (aN 0 e.an.length)<|(oA (e.an.getD 0 default) r1).bind λcu=>ar (cq (([45]:auJ).length+cu.length))<|some (([45]:auJ)++cu)) (cond (cond (decide (r1=9)) (decide (((e.an.length:Nat):Int)=0)) false) ((IF n e.Op).bind λcC=>ar (cq (cC.length+([40,41]:auJ).length))<|some (cC++([40,41]:auJ))) (cond (decide (r1=9)) ((IF n e.Op).bind λfh=>ar (cq (fh.length+([40]:auJ).length))<|ar (aN 0 e.an.length)<|(rE (e.an.getD 0 default)).bind λdr=>ar (cq ((fh++([40]:auJ)).length+dr.length))<|ar (cq (((fh++([40]:auJ))++dr).length+([41]:auJ).length))<|some (((fh++([40]:auJ))++dr)++([41]:auJ))) (cond (decide (r1=4)) (ar (aN 0 e.an.length)<|(oA (e.an.getD 0 default) 5).bind λr27=>ar (cq (r27.length+([32]:auJ).length))<|(IE n e.Op).bind λfK=>ar (cq ((r27++([32]:auJ)).length+fK.length))<|ar (cq (((r27++([32]:auJ))++fK).length+([32]:auJ).length))<|ar (aN 1 e.an.length)<|(oA (e.an.getD 1 default) 5).bind λnE=>ar (cq ((((r27++([32]:auJ))++fK)++([32]:auJ)).length+nE.length))<|some ((((r27++([32]:auJ))++fK)++([32]:auJ))++nE)) (ar (aN 0 e.an.length)<|(oA (e.an.getD 0 default) r1).bind λoB=>ar (cq (oB.length+([32]:auJ).length))<|(IE n e.Op).bind λqu=>ar (cq ((oB++([32]:auJ)).length+qu.length))<|ar (cq (((oB++([32]:auJ))++qu).length+([32]:auJ).length))<|ar (aN 1 e.an.length)<|(oA (e.an.getD 1 default) (auL (r1+1))).bind λiE=>ar (cq ((((oB++([32]:auJ))++qu)++([32]:auJ)).length+iE.length))<|some ((((oB++([32]:auJ))++qu)++([32]:auJ))++iE)))))))))
def IH(rE:Expr→Option auJ)(oA:Expr→Int→Option auJ)(e:Expr)(least:Int):Option auJ:=(Dp n e.Op).bind λr1=>cond (decide (r1<least)) ((rE e).bind λr3=>ar (cq (([40]:auJ).length+r3.length))<|ar (cq ((([40]:auJ)++r3).length+([41]:auJ).length))<|some ((([40]:auJ)++r3)++([41]:auJ))) ((rE e).bind λaU=>some aU)
def zp:Nat→(Expr→Option auJ)×(Expr→Int→Option auJ)
 | 0=>(λ_=>none,λ_ _=>none)
 |m+1=>(IG m ((zp m).1) ((zp m).2),IH m ((zp m).1) ((zp m).2))
def mg:Expr→Option auJ:=(zp n).1
def wF:Expr→Int→Option auJ:=(zp n).2
def Qp(s:Stmt)(cd:List Int)(ct:Int):Option (List Int):=(mg n (⟨s.A.Op,s.A.N,s.A.S,s.A.an⟩:Expr)).bind λr1=>(mG n ([s.Name,([32,61,32]:auJ),r1,([59]:auJ)]:List auJ) cd ct).bind λr2=>some r2
def Qq(s:Stmt)(cd:List Int)(ct:Int):Option (List Int):=(mg n (⟨s.A.Op,s.A.N,s.A.S,s.A.an⟩:Expr)).bind λr1=>(mG n ([([108,101,116,32]:auJ),s.Name,([32,61,32]:auJ),r1,([59]:auJ)]:List auJ) cd ct).bind λr2=>some r2
def Qr(s:Stmt)(cd:List Int)(ct:Int):Option (List Int):=(mg n (⟨s.A.Op,s.A.N,s.A.S,s.A.an⟩:Expr)).bind λr1=>(mG n ([([101,109,105,116,32]:auJ),r1,([59]:auJ)]:List auJ) cd ct).bind λr2=>some r2
def Qs(s:Stmt)(cd:List Int)(ct:Int):Option (List Int):=(mg n (⟨s.A.Op,s.A.N,s.A.S,s.A.an⟩:Expr)).bind λr1=>(mg n (⟨s.B.Op,s.B.N,s.B.S,s.B.an⟩:Expr)).bind λr2=>(mG n ([([112,117,116,32]:auJ),r1,([32,61,32]:auJ),r2,([59]:auJ)]:List auJ) cd ct).bind λr3=>some r3
def Qt(s:Stmt)(cd:List Int)(ct:Int):Option (List Int):=(mg n (⟨s.A.Op,s.A.N,s.A.S,s.A.an⟩:Expr)).bind λr1=>(mG n ([([100,101,108,101,116,101,32]:auJ),r1,([59]:auJ)]:List auJ) cd ct).bind λr2=>some r2
def Qu(n:Nat)(ir:(List Stmt)→(List Int)→Int→Option ((List Int)×Int))(iL:Stmt→(List Int)→Int→Option ((List Int)×Int))(iM:Stmt→(List Int)→Int→Option ((List Int)×Int))(m6:List Int)(sO:Int):Option ((List Int)×Int):=some (m6,(auL (sO-1)))
def Qv(ir:(List Stmt)→(List Int)→Int→Option ((List Int)×Int))(iL:Stmt→(List Int)→Int→Option ((List Int)×Int))(iM:Stmt→(List Int)→Int→Option ((List Int)×Int))(l:List Stmt)(aj:(List Int)→Int→Int→Option ((List Int)×Int))(bA:List Int)(ck:Int)(aP:Int):Option ((List Int)×Int):=cond (decide (aP<((l.length:Nat):Int))) (ar (aN aP l.length)<|(rC n ((auM l aP).Op)).bind λfh=>iB.on fh (λajw=>(Qq n (⟨(auM l aP).Op,(auM l aP).Name,(auM l aP).Max,⟨((auM l aP).A).Op,((auM l aP).A).N,((auM l aP).A).S,((auM l aP).A).an⟩,⟨((auM l aP).B).Op,((auM l aP).B).N,((auM l aP).B).S,((auM l aP).B).an⟩,(auM l aP).Body,(auM l aP).bK⟩:Stmt) bA ck).bind λeZ=>aj eZ ck (auL (aP+1))) (λZN=>iB.on ZN (λajx=>(Qp n (⟨(auM l aP).Op,(auM l aP).Name,(auM l aP).Max,⟨((auM l aP).A).Op,((auM l aP).A).N,((auM l aP).A).S,((auM l aP).A).an⟩,⟨((auM l aP).B).Op,((auM l aP).B).N,((auM l aP).B).S,((auM l aP).B).an⟩,(auM l aP).Body,(auM l aP).bK⟩:Stmt) bA ck).bind λdr=>aj dr ck (auL (aP+1))) (λZO=>iB.on ZO (λajy=>(Qs n (⟨(auM l aP).Op,(auM l aP).Name,(auM l aP).Max,⟨((auM l aP).A).Op,((auM l aP).A).N,((auM l aP).A).S,((auM l aP).A).an⟩,⟨((auM l aP).B).Op,((auM l aP).B).N,((auM l aP).B).S,((auM l aP).B).an⟩,(auM l aP).Body,(auM l aP).bK⟩:Stmt) bA ck).bind λey=>aj ey ck (auL (aP+1))) (λZP=>iB.on ZP (λajz=>(Qt n (⟨(auM l aP).Op,(auM l aP).Name,(auM l aP).Max,⟨((auM l aP).A).Op,((auM l aP).A).N,((auM l aP).A).S,((auM l aP).A).an⟩,⟨((auM l aP).B).Op,((auM l aP).B).N,((auM l aP).B).S,((auM l aP).B).an⟩,(auM l aP).Body,(auM l aP).bK⟩:Stmt) bA ck).bind λr24=>aj r24 ck (auL (aP+1))) (λZQ=>iB.on ZQ (λajA=>(iL (⟨(auM l aP).Op,(auM l aP).Name,(auM l aP).Max,⟨((auM l aP).A).Op,((auM l aP).A).N,((auM l aP).A).S,((auM l aP).A).an⟩,⟨((auM l aP).B).Op,((auM l aP).B).N,((auM l aP).B).S,((auM l aP).B).an⟩,(auM l aP).Body,(auM l aP).bK⟩:Stmt) bA ck).bind λfJ=>aj fJ.1 fJ.2 (auL (aP+1))) (λZR=>iB.on ZR (λajB=>(iM (⟨(auM l aP).Op,(auM l aP).Name,(auM l aP).Max,⟨((auM l aP).A).Op,((auM l aP).A).N,((auM l aP).A).S,((auM l aP).A).an⟩,⟨((auM l aP).B).Op,((auM l aP).B).N,((auM l aP).B).S,((auM l aP).B).an⟩,(auM l aP).Body,(auM l aP).bK⟩:Stmt) bA ck).bind λr26=>aj r26.1 r26.2 (auL (aP+1))) (λZS=>iB.on ZS (λajC=>(Qr n (⟨(auM l aP).Op,(auM l aP).Name,(auM l aP).Max,⟨((auM l aP).A).Op,((auM l aP).A).N,((auM l aP).A).S,((auM l aP).A).an⟩,⟨((auM l aP).B).Op,((auM l aP).B).N,((auM l aP).B).S,((auM l aP).B).an⟩,(auM l aP).Body,(auM l aP).bK⟩:Stmt) bA ck).bind λr27=>aj r27 ck (auL (aP+1))) (λajD=>(Qh n (⟨(auM l aP).Op,(auM l aP).Name,(auM l aP).Max,⟨((auM l aP).A).Op,((auM l aP).A).N,((auM l aP).A).S,((auM l aP).A).an⟩,⟨((auM l aP).B).Op,((auM l aP).B).N,((auM l aP).B).S,((auM l aP).B).an⟩,(auM l aP).Body,(auM l aP).bK⟩:Stmt) bA ck).bind λpw=>aj pw ck (auL (aP+1)))))))))) (Qu n ir iL iM bA ck)
def Dq(n:Nat)(ir:(List Stmt)→(List Int)→Int→Option ((List Int)×Int))(iL:Stmt→(List Int)→Int→Option ((List Int)×Int))(iM:Stmt→(List Int)→Int→Option ((List Int)×Int))(l:List Stmt):Nat→(List Int)→Int→Int→Option ((List Int)×Int)
 | 0=>λ_ _ _=>none
 |m+1=>Qv n ir iL iM l (Dq n ir iL iM l m)
def II(ir:(List Stmt)→(List Int)→Int→Option ((List Int)×Int))(iL:Stmt→(List Int)→Int→Option ((List Int)×Int))(iM:Stmt→(List Int)→Int→Option ((List Int)×Int))(l:List Stmt)(cd:List Int)(ct:Int):Option ((List Int)×Int):=Dq n ir iL iM l n cd (auL (ct+1)) 0
def IJ(ir:(List Stmt)→(List Int)→Int→Option ((List Int)×Int))(iL:Stmt→(List Int)→Int→Option ((List Int)×Int))(iM:Stmt→(List Int)→Int→Option ((List Int)×Int))(v6:List Int)(bE:Int):Option ((List Int)×Int):=(mG n ([([125]:auJ)]:List auJ) v6 bE).bind λcg=>some (cg,bE)
def IK(ir:(List Stmt)→(List Int)→Int→Option ((List Int)×Int))(iL:Stmt→(List Int)→Int→Option ((List Int)×Int))(iM:Stmt→(List Int)→Int→Option ((List Int)×Int))(s:Stmt)(cd:List Int)(ct:Int):Option ((List Int)×Int):=(mg n (⟨s.A.Op,s.A.N,s.A.S,s.A.an⟩:Expr)).bind λr1=>(mG n ([([105,102,32]:auJ),r1,([32,123]:auJ)]:List auJ) cd ct).bind λr2=>(ir s.Body r2 ct).bind λr3=>cond (decide (0<((s.bK.length:Nat):Int))) ((mG n ([([125,32,101,108,115,101,32,123]:auJ)]:List auJ) r3.1 r3.2).bind λaB=>(ir s.bK aB r3.2).bind λbu=>IJ n ir iL iM bu.1 bu.2) (IJ n ir iL iM r3.1 r3.2)
def IL(ir:(List Stmt)→(List Int)→Int→Option ((List Int)×Int))(iL:Stmt→(List Int)→Int→Option ((List Int)×Int))(iM:Stmt→(List Int)→Int→Option ((List Int)×Int))(s:Stmt)(cd:List Int)(ct:Int):Option ((List Int)×Int):=(mg n (⟨s.A.Op,s.A.N,s.A.S,s.A.an⟩:Expr)).bind λr1=>(mg n (⟨s.B.Op,s.B.N,s.B.S,s.B.an⟩:Expr)).bind λr2=>(wE n s.Max).bind λr3=>(mG n ([([102,111,114,32]:auJ),s.Name,([32,61,32]:auJ),r1,([32,116,111,32]:auJ),r2,([32,109,97,120,32]:auJ),r3,([32,123]:auJ)]:List auJ) cd ct).bind λaB=>(ir s.Body aB ct).bind λbu=>(mG n ([([125]:auJ)]:List auJ) bu.1 bu.2).bind λaU=>some (aU,bu.2)
def px:Nat→((List Stmt)→(List Int)→Int→Option ((List Int)×Int))×(Stmt→(List Int)→Int→Option ((List Int)×Int))×(Stmt→(List Int)→Int→Option ((List Int)×Int))
 | 0=>(λ_ _ _=>none,λ_ _ _=>none,λ_ _ _=>none)
 |m+1=>(II m ((px m).1) ((px m).2.1) ((px m).2.2),IK m ((px m).1) ((px m).2.1) ((px m).2.2),IL m ((px m).1) ((px m).2.1) ((px m).2.2))
def rF:(List Stmt)→(List Int)→Int→Option ((List Int)×Int):=(px n).1
def wG:Stmt→(List Int)→Int→Option ((List Int)×Int):=(px n).2.1
def wH:Stmt→(List Int)→Int→Option ((List Int)×Int):=(px n).2.2
def IM(n:Nat)(cd:List Int)(ct:Int):Option (auJ×(List Int)):=ar (nz cd&&decide (cd.length≤9223372036854775807))<|some (kf cd,cd)
def Qw(p:be)(b6:List auJ):Option auJ:=(Ie n b6 ([44,32]:auJ)).bind λel=>(mG n ([([112,114,111,99,32]:auJ),p.Name,([40]:auJ),el,([41,32,123]:auJ)]:List auJ) ([]:List Int) 0).bind λeZ=>(rF n p.Body eZ 0).bind λdr=>(mG n ([([125]:auJ)]:List auJ) dr.1 dr.2).bind λey=>(IM n ey dr.2).bind λr24=>some r24.1
def Qx(p:be)(aj:Int→(List auJ)→Option auJ)(v10:Int)(v11:List auJ):Option auJ:=cond (decide (v10<((p.Params.length:Nat):Int))) (ar (aN v10 p.Params.length)<|ar (cq (((auM p.Params v10).Name).length+([58,32]:auJ).length))<|(Iz n ((auM p.Params v10).f')).bind λdQ=>ar (cq ((((auM p.Params v10).Name)++([58,32]:auJ)).length+dQ.length))<|ar (room (v11.length+([((((auM p.Params v10).Name)++([58,32]:auJ))++dQ)]:List auJ).length) 16)<|aj (auL (v10+1)) (v11++([((((auM p.Params v10).Name)++([58,32]:auJ))++dQ)]:List auJ))) (Qw n p v11)
def Dr(n:Nat)(p:be):Nat→Int→(List auJ)→Option auJ
 | 0=>λ_ _=>none
 |m+1=>Qx n p (Dr n p m)
def wI(p:be):Option auJ:=(Dh n p).bind λr1=>cond (!decide (r1=0)) (some ([]:auJ)) (Dr n p n 0 ([]:List auJ))
def Ds(n:Nat)(next:Int):auO:=some (cond (decide ((auL (next-1))<8)) (auL (next-1)) 8)
def Qy(n:Nat):auN:=some false
def Qz(n:Nat):auN:=some true
def IN(o:Outcome)(fW:Int→auN)(v4:Int):auN:=cond (decide (v4<((o.Out.length:Nat):Int))) (ar (aN v4 o.Out.length)<|(sN n (auM o.Out v4)).bind λaU=>cond (cond (!aU) true (decide ((auM o.Out v4).Kind=0))) (some false) (fW (auL (v4+1)))) (Qz n)
def wJ(n:Nat)(o:Outcome):Nat→Int→auN
 | 0=>λ_=>none
 |m+1=>IN n o (wJ n o m)
def Dt(o:Outcome):auN:=cond (decide (o.Status=1)) (cond (cond (!decide (o.Code=0)) true (decide (16<((o.Out.length:Nat):Int)))) (some false) (wJ n o n 0)) (cond (decide (o.Status=2)) (some (cond (cond (decide (0≤o.Code)) (decide (o.Code≤1009)) false) (decide (((o.Out.length:Nat):Int)=0)) false)) (Qy n))
def QA(n:Nat):auN:=some true
def IP(s:bG)(aj:Int→auN)(v6:Int):auN:=cond (decide (v6<((s.dn.length:Nat):Int))) (ar (aN v6 s.dn.length)<|Option.bind (cond (!(!((decide ((auM s.dn v6).Client=s.Client))&&((decide ((auM s.dn v6).Seq=(auL ((auL (s.Next-((s.dn.length:Nat):Int)))+v6))))&&true)))) (Dt n (⟨((auM s.dn v6).Outcome).Status,((auM s.dn v6).Outcome).Code,((auM s.dn v6).Outcome).Out⟩:Outcome)) (some default)) λcg=>cond (cond (!((decide ((auM s.dn v6).Client=s.Client))&&((decide ((auM s.dn v6).Seq=(auL ((auL (s.Next-((s.dn.length:Nat):Int)))+v6))))&&true))) true (!cg)) (some false) (aj (auL (v6+1)))) (QA n)
def zq(n:Nat)(s:bG):Nat→Int→auN
 | 0=>λ_=>none
 |m+1=>IP n s (zq n s m)
def IQ(s:bG):auN:=Option.bind (cond (!(cond (cond (cond (decide (s.Client<1)) true (decide (32<s.Client))) true (decide (s.Next<1))) true (decide (1099511627776<s.Next)))) (Ds n s.Next) (some default)) λr1=>cond (cond (cond (cond (cond (decide (s.Client<1)) true (decide (32<s.Client))) true (decide (s.Next<1))) true (decide (1099511627776<s.Next))) true (!decide (((s.dn.length:Nat):Int)=r1))) (some false) (zq n s n 0)
def QB(n:Nat):auN:=some true
def IR(l:List bG)(aj:Int→auN)(v5:Int):auN:=cond (decide (v5<((l.length:Nat):Int))) (ar (aN v5 l.length)<|(IQ n (auM l v5)).bind λbz=>ar ((!bz)||(!(decide (0<v5))||aN (auL (v5-1)) l.length))<|cond (cond (!bz) true (cond (decide (0<v5)) (decide ((auM l v5).Client≤(auM l (auL (v5-1))).Client)) false)) (some false) (aj (auL (v5+1)))) (QB n)
def zr(n:Nat)(l:List bG):Nat→Int→auN
 | 0=>λ_=>none
 |m+1=>IR n l (zr n l m)
def zt(l:List bG):auN:=zr n l n 0
def m7(s:auJ)(cd:List Int):Option (Int×(List Int)):=(Dm n cd).bind λr1=>ar (room (cd.length+s.length) 1)<|some (((s.length:Nat):Int),(cd++s.map λb=>(b.toNat:Int)))
def ZT(IS:List Int):Option auJ:=(uu n IS).bind λZU=>some ZU.1
def ZV(l:List bG)(aj:(List Int)→Int→Option auJ)(v59:List Int)(IT:Int):Option auJ:=cond (decide (IT<((l.length:Nat):Int))) (none) (ZT n v59)
def QC(n:Nat)(l:List bG):Nat→(List Int)→Int→Option auJ
 | 0=>λ_ _=>none
 |m+1=>ZV n l (QC n l m)
def ZW(l:List bG):Option auJ:=(zt n l).bind λr1=>cond (!r1) (none) ((pt n (IntKind.u64.wrap ((l.length:Nat):Int))).bind λr3=>(m7 n r3 ([]:List Int)).bind λaB=>QC n l n aB.2 0)
def ZX(b6:List Int):Option auJ:=(uu n b6).bind λel=>some el.1
def ZY(l:List aY)(aj:(List Int)→Int→Option auJ)(v10:List Int)(v11:Int):Option auJ:=cond (decide (v11<((l.length:Nat):Int))) (ar (aN v11 l.length)<|(ze n ((auM l v11).Key)).bind λcu=>(m7 n cu v10).bind λdQ=>(Zy n (⟨((auM l v11).bx).Kind,((auM l v11).bx).N,((auM l v11).bx).S⟩:bn)).bind λdi=>(m7 n di dQ.2).bind λcC=>aj cC.2 (auL (v11+1))) (ZX n v10)
def QD(n:Nat)(l:List aY):Nat→(List Int)→Int→Option auJ
 | 0=>λ_ _=>none
 |m+1=>ZY n l (QD n l m)
def ZZ(l:List aY):Option auJ:=(pt n (IntKind.u64.wrap ((l.length:Nat):Int))).bind λr1=>(m7 n r1 ([]:List Int)).bind λr2=>QD n l n r2.2 0
def Z0(ai:bL)(IU:List Int):Option auJ:=(ZB n ai.Queue).bind λDu=>(m7 n Du IU).bind λoC=>(pt n ai.c_).bind λrG=>(m7 n rG oC.2).bind λIV=>(uu n IV.2).bind λDv=>some Dv.1
def Z1(ai:bL)(fW:(List Int)→Int→Option auJ)(IW:List Int)(v37:Int):Option auJ:=cond (decide (v37<((ai.bh.length:Nat):Int))) (none) (Z0 n ai IW)
def QE(n:Nat)(ai:bL):Nat→(List Int)→Int→Option auJ
 | 0=>λ_ _=>none
 |m+1=>Z1 n ai (QE n ai m)
def Z2(ai:bL)(v22:List Int):Option auJ:=(ZW n ai.cV).bind λey=>(m7 n ey v22).bind λr24=>(ZM n ai.Place).bind λfJ=>(m7 n fJ r24.2).bind λr26=>(pt n (IntKind.u64.wrap ((ai.bh.length:Nat):Int))).bind λr27=>(m7 n r27 r26.2).bind λpw=>QE n ai n pw.2 0
def Z3(ai:bL)(gw:(List Int)→Int→Option auJ)(bI:List Int)(bA:Int):Option auJ:=cond (decide (bA<((ai.cL.length:Nat):Int))) (none) (Z2 n ai bI)
def QF(n:Nat)(ai:bL):Nat→(List Int)→Int→Option auJ
 | 0=>λ_ _=>none
 |m+1=>Z3 n ai (QF n ai m)
def QG(ai:bL):Option auJ:=(PU n ai.au ai.Pos).bind λr1=>(wC n ai.Pos).bind λr2=>(m7 n r2 ([]:List Int)).bind λr3=>(ZZ n r1.1).bind λaB=>(m7 n aB r3.2).bind λbu=>(pt n (IntKind.u64.wrap ((ai.cL.length:Nat):Int))).bind λaU=>(m7 n aU bu.2).bind λbz=>QF n ai n bz.2 0
def zu(n:Nat)(most:Int):auO:=some most
def QH(n:Nat)(p:aY):auN:=some (decide (p.bx.Kind=0))
def QI(n:Nat):auO:=some (-1)
def IX(s:List aY)(aj:Int→auO)(v4:Int):auO:=cond (decide (v4<((s.length:Nat):Int))) (ar (aN v4 s.length)<|(QH n (auM s v4)).bind λaU=>cond aU (some v4) (aj (auL (v4+1)))) (QI n)
def zv(n:Nat)(s:List aY):Nat→Int→auO
 | 0=>λ_=>none
 |m+1=>IX n s (zv n s m)
def QJ(s:List aY):auO:=zv n s n 0
def QK(s:List aY):auN:=(QJ n s).bind λr1=>some (decide (0≤r1))
def QL(n:Nat):auN:=some true
def IY(l:List aY)(aj:Int→auN)(v6:Int):auN:=cond (decide (v6<((l.length:Nat):Int))) (ar (aN v6 l.length)<|(wB n ((auM l v6).Key)).bind λcg=>Option.bind (cond (!(!cg)) (sN n (⟨((auM l v6).bx).Kind,((auM l v6).bx).N,((auM l v6).bx).S⟩:bn)) (some default)) λb9=>ar ((cond (!cg) true (!b9))||(!(decide (0<v6))||aN (auL (v6-1)) l.length))<|cond (cond (cond (!cg) true (!b9)) true (cond (decide (0<v6)) (!(Op.bytesLess ((auM l (auL (v6-1))).Key) ((auM l v6).Key))) false)) (some false) (aj (auL (v6+1)))) (QL n)
def zw(n:Nat)(l:List aY):Nat→Int→auN
 | 0=>λ_=>none
 |m+1=>IY n l (zw n l m)
def IZ(l:List aY):auN:=zw n l n 0
def Dw(l:List aY):auN:=(IZ n l).bind λr1=>Option.bind (cond r1 (QK n l) (some default)) λr2=>some (cond r1 (!r2) false)
def QM(n:Nat)(cX:Int):Option bn:=some (⟨1,cX,[]⟩:bn)
def wK(n:Nat)(s:auJ)(at_:Int):auN:=some (cond (decide (at_<0)) true (decide (((s.length:Nat):Int)<at_)))
def Z4(n:Nat):Option (Int×Int×Int):=some (0,0,5)
def QN(s:auJ)(at_:Int)(aj:Int→Int→Option (Int×Int×Int))(bE:Int)(bf:Int):Option (Int×Int×Int):=cond (decide (bE<10)) (cond (decide (((s.length:Nat):Int)≤(auL (at_+bE)))) (some (0,0,6)) (ar (aN (auL (at_+bE)) s.length)<|cond (cond (cond (decide (bE=9)) (decide (1<(((s.getD ((auL (at_+bE))).toNat 0).toNat:Nat):Int))) false) true (cond (decide ((((s.getD ((auL (at_+bE))).toNat 0).toNat:Nat):Int)=0)) (decide (0<bE)) false)) (some (0,0,5)) (ar (o3 (auL (7*bE)))<|cond (decide ((((s.getD ((auL (at_+bE))).toNat 0).toNat:Nat):Int)<128)) (some ((tH .u64 bf (sj .u64 (IntKind.u64.wrap (p5 .u8 (((s.getD ((auL (at_+bE))).toNat 0).toNat:Nat):Int) 127)) (auL (7*bE)))),(auL ((auL (at_+bE))+1)),0)) (aj (auL (bE+1)) (tH .u64 bf (sj .u64 (IntKind.u64.wrap (p5 .u8 (((s.getD ((auL (at_+bE))).toNat 0).toNat:Nat):Int) 127)) (auL (7*bE)))))))) (Z4 n)
def Dx(n:Nat)(s:auJ)(at_:Int):Nat→Int→Int→Option (Int×Int×Int)
 | 0=>λ_ _=>none
 |m+1=>QN n s at_ (Dx n s at_ m)
def sP(s:auJ)(at_:Int):Option (Int×Int×Int):=(wK n s at_).bind λr1=>cond r1 (some (0,0,1)) (Dx n s at_ n 0 0)
def zx(s:auJ)(at_:Int):Option (Int×Int×Int):=(sP n s at_).bind λr1=>cond (!decide (r1.2.2=0)) (some (0,0,r1.2.2)) (some ((o2 .i64 (auL (tI .u64 r1.1 1)) (auL (0-(auL (p5 .u64 r1.1 1))))),r1.2.1,0))
def oD(s:auJ)(at_:Int)(most:Int):Option (Int×Int×Int):=(sP n s at_).bind λr1=>cond (!decide (r1.2.2=0)) (some (0,0,r1.2.2)) (cond (cond (decide (most<0)) true (decide ((IntKind.u64.wrap most)<r1.1))) (some (0,0,2)) (cond (decide ((IntKind.u64.wrap (auL (((s.length:Nat):Int)-r1.2.1)))<r1.1)) (some (0,0,6)) (some ((auL r1.1),r1.2.1,0))))
def sQ(s:auJ)(at_:Int)(most:Int):Option (auJ×Int×Int):=(oD n s at_ most).bind λr1=>cond (!decide (r1.2.2=0)) (some (([]:auJ),0,r1.2.2)) (ar (lF r1.2.1 (auL (r1.2.1+r1.1)) s.length)<|some (((s.take ((auL (r1.2.1+r1.1))).toNat).drop (r1.2.1).toNat),(auL (r1.2.1+r1.1)),0))
def Dy(n:Nat)(b9:auJ×Int×Int)(v11:Int):Option (bn×Int×Int):=cond (!decide (v11=0)) (some ((⟨0,0,[]⟩:bn),0,v11)) (some ((⟨2,0,b9.1⟩:bn),b9.2.1,0))
def zy(s:auJ)(at_:Int):Option (bn×Int×Int):=(sP n s at_).bind λr1=>cond (!decide (r1.2.2=0)) (some ((⟨0,0,[]⟩:bn),0,r1.2.2)) (cond (decide (r1.1=0)) (some ((⟨0,0,[]⟩:bn),r1.2.1,0)) (cond (decide (r1.1=1)) ((zx n s r1.2.1).bind λbu=>cond (!decide (bu.2.2=0)) (some ((⟨0,0,[]⟩:bn),0,bu.2.2)) ((QM n bu.1).bind λbz=>some (bz,bu.2.1,0))) (cond (decide (r1.1=2)) ((sQ n s r1.2.1 64).bind λb9=>Option.bind (cond (decide (b9.2.2=0)) (Db n b9.1) (some default)) λdd=>cond (cond (decide (b9.2.2=0)) (!dd) false) (Dy n b9 5) (Dy n b9 b9.2.2)) (some ((⟨0,0,[]⟩:bn),0,5)))))
def I0(bQ:Int)(b6:List aY):Option ((List aY)×Int×Int):=(Dw n b6).bind λel=>cond (!el) (some (([]:List aY),0,5)) (some (b6,bQ,0))
def I1(s:auJ)(r1:Int×Int×Int)(aj:Int→Int→(List aY)→Option ((List aY)×Int×Int))(v9:Int)(v10:Int)(v11:List aY):Option ((List aY)×Int×Int):=cond (decide (v10<r1.1)) ((sQ n s v9 24).bind λaX=>cond (!decide (aX.2.2=0)) (some (([]:List aY),0,aX.2.2)) ((zy n s aX.2.1).bind λcu=>cond (!decide (cu.2.2=0)) (some (([]:List aY),0,cu.2.2)) (ar (room (v11.length+([(⟨aX.1,cu.1⟩:aY)]:List aY).length) 48)<|aj cu.2.1 (auL (v10+1)) (v11++([(⟨aX.1,cu.1⟩:aY)]:List aY))))) (I0 n v9 v11)
def wL(n:Nat)(s:auJ)(r1:Int×Int×Int):Nat→Int→Int→(List aY)→Option ((List aY)×Int×Int)
 | 0=>λ_ _ _=>none
 |m+1=>I1 n s r1 (wL n s r1 m)
def I2(s:auJ)(at_:Int):Option ((List aY)×Int×Int):=(oD n s at_ 2147483647).bind λr1=>cond (!decide (r1.2.2=0)) (some (([]:List aY),0,r1.2.2)) (wL n s r1 n r1.2.1 0 ([]:List aY))
def zz(af:fz):Option ((List aY)×Int×Int):=cond (!decide (af.e=0)) (some (([]:List aY),af.at_,af.e)) ((I2 n af.s af.at_).bind λr2=>cond (!decide (r2.2.2=0)) (some (([]:List aY),af.at_,r2.2.2)) (some (r2.1,r2.2.1,r2.2.2)))
def QO(n:Nat)(s:auJ):auN:=some (decide (((s.length:Nat):Int)≤24))
def I3(s:auJ)(aj:Int→auN)(v4:Int):auN:=cond (decide (v4<((s.length:Nat):Int))) (ar (aN v4 s.length)<|ar ((decide ((((s.getD (v4).toNat 0).toNat:Nat):Int)<33))||aN v4 s.length)<|cond (cond (decide ((((s.getD (v4).toNat 0).toNat:Nat):Int)<33)) true (decide (126<(((s.getD (v4).toNat 0).toNat:Nat):Int)))) (some false) (aj (auL (v4+1)))) (QO n s)
def zA(n:Nat)(s:auJ):Nat→Int→auN
 | 0=>λ_=>none
 |m+1=>I3 n s (zA n s m)
def Dz(s:auJ):auN:=zA n s n 0
def QP(n:Nat)(x:Part)(af:Int):auN:=some (decide (x.Id=af))
def QQ(n:Nat)(af:Int):auO:=some (-1)
def I4(s:List Part)(af:Int)(aj:Int→auO)(v4:Int):auO:=cond (decide (v4<((s.length:Nat):Int))) (ar (aN v4 s.length)<|(QP n (auM s v4) af).bind λaU=>cond aU (some v4) (aj (auL (v4+1)))) (QQ n af)
def zB(n:Nat)(s:List Part)(af:Int):Nat→Int→auO
 | 0=>λ_=>none
 |m+1=>I4 n s af (zB n s af m)
def QR(s:List Part)(af:Int):auO:=zB n s af n 0
def QS(l:List Part)(id:Int):auO:=(QR n l id).bind λr1=>some r1
def DA(n:Nat)(cX:Int):auN:=some (cond (decide (1≤cX)) (decide (cX≤16)) false)
def QT(n:Nat)(cX:Int):auN:=some (cond (decide (1≤cX)) (decide (cX≤1099511627776)) false)
def I5(l:List Part)(i:Int):auN:=ar (aN i l.length)<|cond (decide ((auM l i).fQ=0)) (some (decide (((auM l i).eH)=([]:auJ)))) ((DA n ((auM l i).fQ)).bind λr3=>Option.bind (cond (cond r3 (!decide ((auM l i).fQ=(auM l i).Node)) false) (Dz n ((auM l i).eH)) (some default)) λaB=>ar (!(cond (cond (cond r3 (!decide ((auM l i).fQ=(auM l i).Node)) false) aB false) (!(Op.bytesLess ((auM l i).eH) ((auM l i).ed))) false)||((decide ((auL (i+1))=((l.length:Nat):Int)))||aN (auL (i+1)) l.length))<|some (cond (cond (cond (cond r3 (!decide ((auM l i).fQ=(auM l i).Node)) false) aB false) (!(Op.bytesLess ((auM l i).eH) ((auM l i).ed))) false) (cond (decide ((auL (i+1))=((l.length:Nat):Int))) true (Op.bytesLess ((auM l i).eH) ((auM l (auL (i+1))).ed))) false))
def QU(n:Nat):auN:=some true
def I6(p:b1)(aj:Int→auN)(v12:Int):auN:=cond (decide (v12<((p.aL.length:Nat):Int))) (ar (aN v12 p.aL.length)<|Option.bind (cond (decide (0<v12)) (Dz n ((auM p.aL v12).ed)) (some default)) λdQ=>ar (!(decide (0<v12))||((!dQ)||aN (auL (v12-1)) p.aL.length))<|cond (cond (decide (0<v12)) (cond (!dQ) true ((Op.bytesLess ((auM p.aL v12).ed) ((auM p.aL (auL (v12-1))).ed))||(decide (((auM p.aL v12).ed)=((auM p.aL (auL (v12-1))).ed))))) false) (some false) ((QT n ((auM p.aL v12).Id)).bind λcC=>Option.bind (cond (!(!cC)) (DA n ((auM p.aL v12).Node)) (some default)) λdB=>Option.bind (cond (!(cond (!cC) true (!dB))) (I5 n p.aL v12) (some default)) λe8=>ar ((cond (cond (!cC) true (!dB)) true (!e8))||hE v12 p.aL.length)<|Option.bind (cond (!(cond (cond (!cC) true (!dB)) true (!e8))) (QS n (p.aL.take (v12).toNat) ((auM p.aL v12).Id)) (some default)) λel=>cond (cond (cond (cond (!cC) true (!dB)) true (!e8)) true (decide (0≤el))) (some false) (aj (auL (v12+1))))) (QU n)
def wM(n:Nat)(p:b1):Nat→Int→auN
 | 0=>λ_=>none
 |m+1=>I6 n p (wM n p m)
def DB(p:b1):auN:=ar ((cond (cond (cond (decide (p.Version<0)) true (decide (1099511627776<p.Version))) true (decide (((p.aL.length:Nat):Int)<1))) true (decide (16<((p.aL.length:Nat):Int))))||aN 0 p.aL.length)<|cond (cond (cond (cond (cond (decide (p.Version<0)) true (decide (1099511627776<p.Version))) true (decide (((p.aL.length:Nat):Int)<1))) true (decide (16<((p.aL.length:Nat):Int)))) true (!(decide (((p.aL.getD 0 default).ed)=([]:auJ))))) (some false) (wM n p n 0)
def sR(af:pq):Option (Int×Int×Int):=cond (!decide (af.e=0)) (some (0,af.at_,af.e)) ((zx n af.s af.at_).bind λr2=>some (r2.1,r2.2.1,r2.2.2))
def wN(af:pq):Option (auJ×Int×Int):=cond (!decide (af.e=0)) (some (([]:auJ),af.at_,af.e)) ((sQ n af.s af.at_ 24).bind λr2=>some (r2.1,r2.2.1,r2.2.2))
def I7(n:Nat)(s:auJ)(v28:Int)(r1:Int×Int×Int)(v30:List Part)(m6:Int):Option (b1×Int×Int):=cond (!decide (m6=0)) (some ((⟨0,[]⟩:b1),0,m6)) (some ((⟨r1.1,v30⟩:b1),v28,0))
def DC(s:auJ)(r1:Int×Int×Int)(v28:Int)(jh:Int)(v30:List Part):Option (b1×Int×Int):=Option.bind (cond (decide (jh=0)) (DB n (⟨r1.1,v30⟩:b1)) (some default)) λgb=>cond (cond (decide (jh=0)) (!gb) false) (I7 n s v28 r1 v30 5) (I7 n s v28 r1 v30 jh)
def zC(r3:Int×Int×Int)(s:auJ)(r1:Int×Int×Int)(fW:Int→Int→(List Part)→Int→Option (b1×Int×Int))(bI:Int)(bA:Int)(ck:List Part)(aP:Int):Option (b1×Int×Int):=cond (decide (aP<r3.1)) ((sR n (⟨s,bI,bA⟩:pq)).bind λe8=>(wN n (⟨s,e8.2.1,e8.2.2⟩:pq)).bind λfh=>(sR n (⟨s,fh.2.1,fh.2.2⟩:pq)).bind λel=>(sR n (⟨s,el.2.1,el.2.2⟩:pq)).bind λeZ=>(wN n (⟨s,eZ.2.1,eZ.2.2⟩:pq)).bind λdr=>ar (room (ck.length+([(⟨e8.1,fh.1,el.1,eZ.1,dr.1⟩:Part)]:List Part).length) 56)<|fW dr.2.1 dr.2.2 (ck++([(⟨e8.1,fh.1,el.1,eZ.1,dr.1⟩:Part)]:List Part)) (auL (aP+1))) (DC n s r1 bI bA ck)
def sS(n:Nat)(r3:Int×Int×Int)(s:auJ)(r1:Int×Int×Int):Nat→Int→Int→(List Part)→Int→Option (b1×Int×Int)
 | 0=>λ_ _ _ _=>none
 |m+1=>zC n r3 s r1 (sS n r3 s r1 m)
def I8(s:auJ)(at_:Int):Option (b1×Int×Int):=(sR n (⟨s,at_,0⟩:pq)).bind λr1=>cond (!decide (r1.2.2=0)) (some ((⟨0,[]⟩:b1),0,r1.2.2)) ((oD n s r1.2.1 16).bind λr3=>sS n r3 s r1 n r3.2.1 r3.2.2 ([]:List Part) 0)
def zD(af:fz):Option (b1×Int×Int):=cond (!decide (af.e=0)) (some ((⟨0,[]⟩:b1),af.at_,af.e)) ((I8 n af.s af.at_).bind λr2=>cond (!decide (r2.2.2=0)) (some ((⟨0,[]⟩:b1),af.at_,r2.2.2)) (some (r2.1,r2.2.1,r2.2.2)))
def qv(n:Nat)(next:Int)(e:Int)(af:h7):Option (Int×Int):=some (next,e)
def wO(most:Int)(af:h7):Option (Int×Int×Int):=cond (!decide (af.e=0)) (some (0,af.at_,af.e)) ((oD n af.s af.at_ most).bind λr2=>(qv n r2.2.1 r2.2.2 af).bind λr3=>some (r2.1,r3.1,r3.2))
def I9(s:auJ)(at_:Int):Option (Bool×Int×Int):=(wK n s at_).bind λr1=>cond r1 (some (false,0,1)) (cond (decide (at_=((s.length:Nat):Int))) (some (false,0,6)) (ar (aN at_ s.length)<|cond (decide (1<(((s.getD (at_).toNat 0).toNat:Nat):Int))) (some (false,0,5)) (ar (aN at_ s.length)<|some ((decide ((((s.getD (at_).toNat 0).toNat:Nat):Int)=1)),(auL (at_+1)),0))))
def zE(af:h7):Option (Bool×Int×Int):=cond (!decide (af.e=0)) (some (false,af.at_,af.e)) ((I9 n af.s af.at_).bind λr2=>(qv n r2.2.1 r2.2.2 af).bind λr3=>some (r2.1,r3.1,r3.2))
def wP(most:Int)(af:h7):Option (auJ×Int×Int):=cond (!decide (af.e=0)) (some (([]:auJ),af.at_,af.e)) ((sQ n af.s af.at_ most).bind λr2=>(qv n r2.2.1 r2.2.2 af).bind λr3=>some (r2.1,r3.1,r3.2))
def I'(n:Nat)(af:h7)(bQ:Int)(b6:Int)(v20:List auJ):Option ((List auJ)×Int×Int):=some (v20,bQ,b6)
def zF(r1:Int×Int×Int)(af:h7)(aj:Int→Int→(List auJ)→Int→Option ((List auJ)×Int×Int))(bf:Int)(v9:Int)(v10:List auJ)(v11:Int):Option ((List auJ)×Int×Int):=cond (decide (v11<r1.1)) ((wP n 24 (⟨af.s,bf,v9⟩:h7)).bind λaX=>ar (room (v10.length+([aX.1]:List auJ).length) 16)<|aj aX.2.1 aX.2.2 (v10++([aX.1]:List auJ)) (auL (v11+1))) (I' n af bf v9 v10)
def sT(n:Nat)(r1:Int×Int×Int)(af:h7):Nat→Int→Int→(List auJ)→Int→Option ((List auJ)×Int×Int)
 | 0=>λ_ _ _ _=>none
 |m+1=>zF n r1 af (sT n r1 af m)
def uw(af:h7):Option ((List auJ)×Int×Int):=(wO n 64 af).bind λr1=>sT n r1 af n r1.2.1 r1.2.2 ([]:List auJ) 0
def wQ(af:h7):Option (Int×Int×Int):=cond (!decide (af.e=0)) (some (0,af.at_,af.e)) ((sP n af.s af.at_).bind λr2=>(qv n r2.2.1 r2.2.2 af).bind λr3=>some (r2.1,r3.1,r3.2))
def zG(af:h7):Option (bn×Int×Int):=cond (!decide (af.e=0)) (some ((⟨0,0,[]⟩:bn),af.at_,af.e)) ((zy n af.s af.at_).bind λr2=>(qv n r2.2.1 r2.2.2 af).bind λr3=>some (r2.1,r3.1,r3.2))
def sU(r1:Int×Int×Int)(r2:Int×Int×Int)(s:auJ)(r3:auJ×Int×Int)(v23:List bn)(r24:Bool×Int×Int)(nF:Int)(v28:Int)(jh:List auJ)(v30:List auJ):Option (Request×Int×Int):=cond (!decide (v28=0)) (some ((⟨0,0,[],[],false,⟨false,[],[]⟩⟩:Request),0,v28)) (cond (cond (decide (32<r1.1)) true (decide (1099511627776<r2.1))) (some ((⟨0,0,[],[],false,⟨false,[],[]⟩⟩:Request),0,5)) ((zd n (⟨(auL r1.1),(auL r2.1),r3.1,v23,r24.1,⟨false,jh,v30⟩⟩:Request)).bind λnE=>cond (!decide (nE=0)) (some ((⟨0,0,[],[],false,⟨false,[],[]⟩⟩:Request),0,5)) (some ((⟨(auL r1.1),(auL r2.1),r3.1,v23,r24.1,⟨false,jh,v30⟩⟩:Request),nF,0))))
def zH(r1:Int×Int×Int)(r2:Int×Int×Int)(s:auJ)(r3:auJ×Int×Int)(v21:Int)(v22:Int)(v23:List bn):Option (Request×Int×Int):=(zE n (⟨s,v21,v22⟩:h7)).bind λr24=>cond r24.1 ((uw n (⟨s,r24.2.1,r24.2.2⟩:h7)).bind λfJ=>(uw n (⟨s,fJ.2.1,fJ.2.2⟩:h7)).bind λr26=>sU n r1 r2 s r3 v23 r24 r26.2.1 r26.2.2 fJ.1 r26.1) (sU n r1 r2 s r3 v23 r24 r24.2.1 r24.2.2 ([]:List auJ) ([]:List auJ))
def zI(r1:Int×Int×Int)(r2:Int×Int×Int)(aB:Int×Int×Int)(s:auJ)(r3:auJ×Int×Int)(fW:Int→Int→(List bn)→Int→Option (Request×Int×Int))(v11:Int)(v12:Int)(cD:List bn)(bI:Int):Option (Request×Int×Int):=cond (decide (bI<aB.1)) ((zG n (⟨s,v11,v12⟩:h7)).bind λdi=>ar (room (cD.length+([di.1]:List bn).length) 32)<|fW di.2.1 di.2.2 (cD++([di.1]:List bn)) (auL (bI+1))) (zH n r1 r2 s r3 v11 v12 cD)
def sV(n:Nat)(r1:Int×Int×Int)(r2:Int×Int×Int)(aB:Int×Int×Int)(s:auJ)(r3:auJ×Int×Int):Nat→Int→Int→(List bn)→Int→Option (Request×Int×Int)
 | 0=>λ_ _ _ _=>none
 |m+1=>zI n r1 r2 aB s r3 (sV n r1 r2 aB s r3 m)
def I_(s:auJ)(at_:Int):Option (Request×Int×Int):=(wQ n (⟨s,at_,0⟩:h7)).bind λr1=>(wQ n (⟨s,r1.2.1,r1.2.2⟩:h7)).bind λr2=>(wP n 16 (⟨s,r2.2.1,r2.2.2⟩:h7)).bind λr3=>(wO n 6 (⟨s,r3.2.1,r3.2.2⟩:h7)).bind λaB=>sV n r1 r2 aB s r3 n aB.2.1 aB.2.2 ([]:List bn) 0
def QV(n:Nat)(ck:List Request)(aP:Int):Option ((List Request)×Int×Int):=some (ck,aP,0)
def Ja(s:auJ)(r1:Int×Int×Int)(aj:(List Request)→Int→Int→Option ((List Request)×Int×Int))(bf:List Request)(v9:Int)(v10:Int):Option ((List Request)×Int×Int):=cond (decide (v9<r1.1)) ((I_ n s v10).bind λa'=>cond (!decide (a'.2.2=0)) (some (([]:List Request),0,a'.2.2)) (ar (room (bf.length+([a'.1]:List Request).length) 120)<|aj (bf++([a'.1]:List Request)) (auL (v9+1)) a'.2.1)) (QV n bf v10)
def wR(n:Nat)(s:auJ)(r1:Int×Int×Int):Nat→(List Request)→Int→Int→Option ((List Request)×Int×Int)
 | 0=>λ_ _ _=>none
 |m+1=>Ja n s r1 (wR n s r1 m)
def Jb(s:auJ)(at_:Int):Option ((List Request)×Int×Int):=(oD n s at_ 64).bind λr1=>cond (!decide (r1.2.2=0)) (some (([]:List Request),0,r1.2.2)) (wR n s r1 n ([]:List Request) 0 r1.2.1)
def zJ(af:fz):Option ((List Request)×Int×Int):=cond (!decide (af.e=0)) (some (([]:List Request),af.at_,af.e)) ((Jb n af.s af.at_).bind λr2=>cond (!decide (r2.2.2=0)) (some (([]:List Request),af.at_,r2.2.2)) (some (r2.1,r2.2.1,r2.2.2)))
def zK(n:Nat)(r2:Int×Int×Int)(af:lv)(v3:Int):Option (Int×Int×Int):=cond (!decide (v3=0)) (some (0,af.at_,v3)) (some ((auL r2.1),r2.2.1,v3))
def sW(least:Int)(most:Int)(af:lv):Option (Int×Int×Int):=cond (!decide (af.e=0)) (some (0,af.at_,af.e)) ((sP n af.s af.at_).bind λr2=>cond (cond (decide (r2.2.2=0)) (cond (decide (r2.1<least)) true (decide (most<r2.1))) false) (zK n r2 af 5) (zK n r2 af r2.2.2))
def DD(n:Nat)(af:lv)(r1:Int×Int×Int)(r2:Int×Int×Int)(v21:Int)(v22:Int)(v23:List bn):Option (Outcome×Int×Int):=some ((⟨r1.1,r2.1,v23⟩:Outcome),v21,v22)
def zL(aB:Int×Int×Int)(af:lv)(r1:Int×Int×Int)(r2:Int×Int×Int)(aj:Int→Int→(List bn)→Int→Option (Outcome×Int×Int))(v11:Int)(v12:Int)(cD:List bn)(bI:Int):Option (Outcome×Int×Int):=cond (cond (decide (bI<aB.1)) (decide (v12=0)) false) ((zy n af.s v11).bind λdi=>ar (room (cD.length+([di.1]:List bn).length) 32)<|aj di.2.1 di.2.2 (cD++([di.1]:List bn)) (auL (bI+1))) (DD n af r1 r2 v11 v12 cD)
def ux(n:Nat)(aB:Int×Int×Int)(af:lv)(r1:Int×Int×Int)(r2:Int×Int×Int):Nat→Int→Int→(List bn)→Int→Option (Outcome×Int×Int)
 | 0=>λ_ _ _ _=>none
 |m+1=>zL n aB af r1 r2 (ux n aB af r1 r2 m)
def DE(af:lv):Option (Outcome×Int×Int):=(sW n 0 9999 af).bind λr1=>(sW n 0 9999 (⟨af.s,r1.2.1,r1.2.2⟩:lv)).bind λr2=>cond (!decide (r2.2.2=0)) (some ((⟨r1.1,r2.1,[]⟩:Outcome),r2.2.1,r2.2.2)) ((oD n af.s r2.2.1 16).bind λaB=>ux n aB af r1 r2 n aB.2.1 aB.2.2 ([]:List bn) 0)
def Jc(n:Nat)(af:lv)(r1:Int×Int×Int)(r2:Int×Int×Int)(v21:Int)(v22:Int)(v23:List d'):Option (bG×Int×Int):=some ((⟨r1.1,r2.1,v23⟩:bG),v21,v22)
def DF(aB:Int)(af:lv)(r1:Int×Int×Int)(r2:Int×Int×Int)(aj:Int→Int→(List d')→Int→Option (bG×Int×Int))(v11:Int)(v12:Int)(cD:List d')(bI:Int):Option (bG×Int×Int):=cond (cond (decide (bI<aB)) (decide (v12=0)) false) ((DE n (⟨af.s,v11,v12⟩:lv)).bind λdi=>ar (room (cD.length+([(⟨r1.1,(auL (r2.1-(auL (aB-bI)))),di.1⟩:d')]:List d').length) 56)<|aj di.2.1 di.2.2 (cD++([(⟨r1.1,(auL (r2.1-(auL (aB-bI)))),di.1⟩:d')]:List d')) (auL (bI+1))) (Jc n af r1 r2 v11 v12 cD)
def wS(n:Nat)(aB:Int)(af:lv)(r1:Int×Int×Int)(r2:Int×Int×Int):Nat→Int→Int→(List d')→Int→Option (bG×Int×Int)
 | 0=>λ_ _ _ _=>none
 |m+1=>DF n aB af r1 r2 (wS n aB af r1 r2 m)
def DG(af:lv):Option (bG×Int×Int):=(sW n 1 32 af).bind λr1=>(sW n 1 1099511627776 (⟨af.s,r1.2.1,r1.2.2⟩:lv)).bind λr2=>cond (!decide (r2.2.2=0)) (some ((⟨r1.1,r2.1,[]⟩:bG),r2.2.1,r2.2.2)) ((Ds n r2.1).bind λaB=>wS n aB af r1 r2 n r2.2.1 r2.2.2 ([]:List d') 0)
def DH(s:auJ)(b6:Int)(v20:Int)(v21:List bG):Option ((List bG)×Int×Int):=cond (!decide (v20=0)) (some (([]:List bG),0,v20)) ((zt n v21).bind λey=>cond (!ey) (some (([]:List bG),0,5)) (some (v21,b6,0)))
def DI(r1:Int×Int×Int)(s:auJ)(aj:Int→Int→(List bG)→Int→Option ((List bG)×Int×Int))(v9:Int)(v10:Int)(v11:List bG)(v12:Int):Option ((List bG)×Int×Int):=cond (cond (decide (v12<r1.1)) (decide (v10=0)) false) ((DG n (⟨s,v9,v10⟩:lv)).bind λcu=>ar (room (v11.length+([cu.1]:List bG).length) 40)<|aj cu.2.1 cu.2.2 (v11++([cu.1]:List bG)) (auL (v12+1))) (DH n s v9 v10 v11)
def wT(n:Nat)(r1:Int×Int×Int)(s:auJ):Nat→Int→Int→(List bG)→Int→Option ((List bG)×Int×Int)
 | 0=>λ_ _ _ _=>none
 |m+1=>DI n r1 s (wT n r1 s m)
def Jd(s:auJ)(at_:Int):Option ((List bG)×Int×Int):=(oD n s at_ 32).bind λr1=>cond (!decide (r1.2.2=0)) (some (([]:List bG),0,r1.2.2)) (wT n r1 s n r1.2.1 0 ([]:List bG) 0)
def zM(af:fz):Option ((List bG)×Int×Int):=cond (!decide (af.e=0)) (some (([]:List bG),af.at_,af.e)) ((Jd n af.s af.at_).bind λr2=>cond (!decide (r2.2.2=0)) (some (([]:List bG),af.at_,r2.2.2)) (some (r2.1,r2.2.1,r2.2.2)))
def QW(s:auJ)(at_:Int)(a2:Int):Option (Int×Int×Int):=(oD n s at_ a2).bind λr1=>some (r1.1,r1.2.1,r1.2.2)
def wU(p:Int)(af:fz):Option (Int×Int×Int):=cond (!decide (af.e=0)) (some (0,af.at_,af.e)) ((QW n af.s af.at_ p).bind λr2=>cond (!decide (r2.2.2=0)) (some (0,af.at_,r2.2.2)) (some (r2.1,r2.2.1,r2.2.2)))
def wV(af:fz):Option (Int×Int×Int):=cond (!decide (af.e=0)) (some (0,af.at_,af.e)) ((zx n af.s af.at_).bind λr2=>cond (!decide (r2.2.2=0)) (some (0,af.at_,r2.2.2)) (some (r2.1,r2.2.1,r2.2.2)))
def QX(s:auJ)(at_:Int)(a2:Int):Option (auJ×Int×Int):=(sQ n s at_ a2).bind λr1=>some (r1.1,r1.2.1,r1.2.2)
def DJ(p:Int)(af:fz):Option (auJ×Int×Int):=cond (!decide (af.e=0)) (some (([]:auJ),af.at_,af.e)) ((QX n af.s af.at_ p).bind λr2=>cond (!decide (r2.2.2=0)) (some (([]:auJ),af.at_,r2.2.2)) (some (r2.1,r2.2.1,r2.2.2)))
def zN(af:fz):Option (Int×Int×Int):=cond (!decide (af.e=0)) (some (0,af.at_,af.e)) ((sP n af.s af.at_).bind λr2=>cond (!decide (r2.2.2=0)) (some (0,af.at_,r2.2.2)) (some (r2.1,r2.2.1,r2.2.2)))
def DK(n:Nat)(most:Int):auO:=some most
def uy(af:fz)(r1:Int×Int×Int)(r26:(List bG)×Int×Int)(r27:b1×Int×Int)(r2:(List aY)×Int×Int)(v25:List auJ)(Je:Int)(v51:Int)(Jf:List bh):Option (pp×Int×Int):=(zJ n (⟨af.s,Je,v51⟩:fz)).bind λzO=>(zN n (⟨af.s,zO.2.1,zO.2.2⟩:fz)).bind λlw=>some ((⟨⟨r1.1,⟨0,0,[]⟩,[],r26.1,r27.1,Jf,zO.1,lw.1⟩,r2.1,v25⟩:pp),lw.2.1,lw.2.2)
def DL(af:fz)(r1:Int×Int×Int)(r26:(List bG)×Int×Int)(r27:b1×Int×Int)(r2:(List aY)×Int×Int)(v25:List auJ)(fW:Int→Int→(List bh)→Int→Option (pp×Int×Int))(iN:Int)(mh:Int)(v40:List bh)(kG:Int):Option (pp×Int×Int):=cond (cond (decide (0<kG)) (decide (mh=0)) false) ((DK n 24).bind λiE=>(DJ n iE (⟨af.s,iN,mh⟩:fz)).bind λoE=>(wV n (⟨af.s,oE.2.1,oE.2.2⟩:fz)).bind λgR=>ar (room (v40.length+([(⟨oE.1,gR.1⟩:bh)]:List bh).length) 24)<|fW gR.2.1 gR.2.2 (v40++([(⟨oE.1,gR.1⟩:bh)]:List bh)) (auL (kG-1))) (uy n af r1 r26 r27 r2 v25 iN mh v40)
def rH(n:Nat)(af:fz)(r1:Int×Int×Int)(r26:(List bG)×Int×Int)(r27:b1×Int×Int)(r2:(List aY)×Int×Int)(v25:List auJ):Nat→Int→Int→(List bh)→Int→Option (pp×Int×Int)
 | 0=>λ_ _ _ _=>none
 |m+1=>DL n af r1 r26 r27 r2 v25 (rH n af r1 r26 r27 r2 v25 m)
def uz(af:fz)(r1:Int×Int×Int)(r2:(List aY)×Int×Int)(v23:Int)(v24:Int)(v25:List auJ):Option (pp×Int×Int):=(zM n (⟨af.s,v23,v24⟩:fz)).bind λr26=>(zD n (⟨af.s,r26.2.1,r26.2.2⟩:fz)).bind λr27=>(zu n 32).bind λpw=>(wU n pw (⟨af.s,r27.2.1,r27.2.2⟩:fz)).bind λfK=>rH n af r1 r26 r27 r2 v25 n fK.2.1 fK.2.2 ([]:List bh) fK.1
def DM(af:fz)(r1:Int×Int×Int)(r2:(List aY)×Int×Int)(gw:Int→Int→(List auJ)→Int→Option (pp×Int×Int))(v12:Int)(cD:Int)(bI:List auJ)(bA:Int):Option (pp×Int×Int):=cond (cond (decide (0<bA)) (decide (cD=0)) false) ((DK n 16384).bind λcC=>(DJ n cC (⟨af.s,v12,cD⟩:fz)).bind λdB=>ar (room (bI.length+([dB.1]:List auJ).length) 16)<|gw dB.2.1 dB.2.2 (bI++([dB.1]:List auJ)) (auL (bA-1))) (uz n af r1 r2 v12 cD bI)
def uA(n:Nat)(af:fz)(r1:Int×Int×Int)(r2:(List aY)×Int×Int):Nat→Int→Int→(List auJ)→Int→Option (pp×Int×Int)
 | 0=>λ_ _ _ _=>none
 |m+1=>DM n af r1 r2 (uA n af r1 r2 m)
def DN(af:fz):Option (pp×Int×Int):=(wV n af).bind λr1=>(zz n (⟨af.s,r1.2.1,r1.2.2⟩:fz)).bind λr2=>(zu n 16).bind λr3=>(wU n r3 (⟨af.s,r2.2.1,r2.2.2⟩:fz)).bind λaB=>uA n af r1 r2 n aB.2.1 aB.2.2 ([]:List auJ) aB.1
def Jg(n:Nat):Option (auJ×Int×Int):=some (([]:auJ),0,6)
def QY(n:Nat)(aj:(List Int)→Int→Option (auJ×Int×Int))(s:auJ)(b6:List Int)(v20:Int):Option (auJ×Int×Int):=aj b6 (auL (v20+1))
def Jh(aj:(List Int)→Int→Option (auJ×Int×Int))(s:auJ)(v11:List Int)(ck:Int)(aP:Int):Option (auJ×Int×Int):=cond (cond (decide (aP<32)) true (decide (126<aP))) (some (([]:auJ),0,5)) (cond (decide (((v11.length:Nat):Int)=64)) (some (([]:auJ),0,2)) (ar (room (v11.length+([aP]:List Int).length) 1)<|QY n aj s (v11++([aP]:List Int)) ck))
def QZ(s:auJ)(aj:(List Int)→Int→Option (auJ×Int×Int))(v11:List Int)(v12:Int):Option (auJ×Int×Int):=cond (decide (v12<((s.length:Nat):Int))) (ar (aN v12 s.length)<|cond (decide ((((s.getD (v12).toNat 0).toNat:Nat):Int)=34)) (ar (nz v11)<|some ((kf v11),(auL (v12+1)),0)) (cond (decide ((((s.getD (v12).toNat 0).toNat:Nat):Int)=92)) (cond (decide ((auL (v12+1))=((s.length:Nat):Int))) (Jg n) (ar (aN (auL (v12+1)) s.length)<|cond (cond (!decide ((((s.getD ((auL (v12+1))).toNat 0).toNat:Nat):Int)=34)) (!decide ((((s.getD ((auL (v12+1))).toNat 0).toNat:Nat):Int)=92)) false) (some (([]:auJ),0,5)) (Jh n aj s v11 (auL (v12+1)) (((s.getD ((auL (v12+1))).toNat 0).toNat:Nat):Int)))) (Jh n aj s v11 v12 (((s.getD (v12).toNat 0).toNat:Nat):Int)))) (Jg n)
def zP(n:Nat)(s:auJ):Nat→(List Int)→Int→Option (auJ×Int×Int)
 | 0=>λ_ _=>none
 |m+1=>QZ n s (zP n s m)
def Q0(s:auJ):Option (auJ×Int×Int):=zP n s n ([]:List Int) 1
def Q1(s:auJ)(c:Int):auO:=(Ia n s c).bind λr1=>some r1
def DO(s:auJ):Option auJ:=ar (!(!(decide (s=([]:auJ))))||aN 0 s.length)<|Option.bind (cond (!(decide (s=([]:auJ)))) (Q1 n ([40,41,123,125,44,59,58,61,60,62,43,45,42,47,37]:auJ) (((s.getD 0 0).toNat:Nat):Int)) (some default)) λbu=>cond (cond (!(decide (s=([]:auJ)))) (decide (0≤bu)) false) (ar (hE 1 s.length)<|some (s.take 1)) (some ([]:auJ))
def wW(s:auJ)(v2:Bool):Option auJ:=cond v2 (ar (hE 2 s.length)<|some (s.take 2)) (DO n s)
def Ji(s:auJ):Option auJ:=cond (decide (2≤((s.length:Nat):Int))) (ar (hE 2 s.length)<|cond (decide ((s.take 2)=([61,61]:auJ))) (wW n s (decide ((s.take 2)=([61,61]:auJ)))) (cond (decide ((s.take 2)=([33,61]:auJ))) (wW n s (decide ((s.take 2)=([33,61]:auJ)))) (cond (decide ((s.take 2)=([60,61]:auJ))) (wW n s (decide ((s.take 2)=([60,61]:auJ)))) (cond (decide ((s.take 2)=([62,61]:auJ))) (wW n s (decide ((s.take 2)=([62,61]:auJ)))) (wW n s (decide ((s.take 2)=([43,43]:auJ)))))))) (DO n s)
def DP(s:auJ)(v3:auJ)(v4:Bool)(v10:Int):Option (Int×Int):=ar ((cond (decide (v10=0)) true (decide (v10<((v3.length:Nat):Int))))||aN 0 v3.length)<|cond (cond (cond (decide (v10=0)) true (decide (v10<((v3.length:Nat):Int)))) true (cond (decide ((((v3.getD 0 0).toNat:Nat):Int)=48)) (cond (decide (1<v10)) true v4) false)) (some (0,5)) ((y' n s 10 64).bind λcu=>iB.on cu (λZ5=>cond (!true) (some (0,3)) (some (Z5,0))) (λZ6=>cond (!false) (some (0,3)) (some (Z6,0))))
def Q2(s:auJ)(v3:auJ)(v4:Bool)(fW:Int→Option (Int×Int))(bE:Int):Option (Int×Int):=cond (decide (bE<((v3.length:Nat):Int))) (ar (aN bE v3.length)<|cond (cond (decide (48≤(((v3.getD (bE).toNat 0).toNat:Nat):Int))) (decide ((((v3.getD (bE).toNat 0).toNat:Nat):Int)≤57)) false) (fW (auL (bE+1))) (DP n s v3 v4 bE)) (DP n s v3 v4 bE)
def zQ(n:Nat)(s:auJ)(v3:auJ)(v4:Bool):Nat→Int→Option (Int×Int)
 | 0=>λ_=>none
 |m+1=>Q2 n s v3 v4 (zQ n s v3 v4 m)
def Jj(s:auJ)(v3:auJ)(v4:Bool):Option (Int×Int):=zQ n s v3 v4 n 0
def Jk(s:auJ):Option (Int×Int):=ar (!(decide (0<((s.length:Nat):Int)))||aN 0 s.length)<|cond (cond (decide (0<((s.length:Nat):Int))) (decide ((((s.getD 0 0).toNat:Nat):Int)=45)) false) (ar (hE 1 s.length)<|Jj n s (s.drop 1) true) (Jj n s s false)
def Jl(w:auJ):Option (Token×Int):=ar (aN 0 w.length)<|cond (decide ((((w.getD 0 0).toNat:Nat):Int)=95)) (some ((⟨0,[],0,0⟩:Token),5)) (ar (aN 0 w.length)<|(C_ n (IntKind.i32.wrap (((w.getD 0 0).toNat:Nat):Int))).bind λaB=>cond aB ((C' n w).bind λaU=>cond aU (some ((⟨2,w,0,0⟩:Token),0)) ((sM n w).bind λcg=>cond (!cg) (some ((⟨0,[],0,0⟩:Token),2)) (some ((⟨1,w,0,0⟩:Token),0)))) ((Jk n w).bind λdd=>cond (!decide (dd.2=0)) (some ((⟨0,[],0,0⟩:Token),dd.2)) (some ((⟨3,[],dd.1,0⟩:Token),0))))
def DQ(s:auJ):Option (Token×Int×Int):=(y9 n s).bind λr1=>cond (decide (0<r1)) (ar (hE r1 s.length)<|(Jl n (s.take (r1).toNat)).bind λaB=>some (aB.1,r1,aB.2)) (ar (aN 0 s.length)<|cond (decide ((((s.getD 0 0).toNat:Nat):Int)=34)) ((Q0 n s).bind λbz=>some ((⟨4,bz.1,0,0⟩:Token),bz.2.1,bz.2.2)) ((Ji n s).bind λcg=>cond (decide (cg=([]:auJ))) (some ((⟨0,[],0,0⟩:Token),0,5)) (some ((⟨5,cg,0,0⟩:Token),((cg.length:Nat):Int),0))))
def Jm(s:auJ):Option auJ:=(H_ n s).bind λr1=>some r1
def Q3(n:Nat)(Jn:List Token):Option ((List Token)×Int×Int):=some (Jn,0,0)
def Q4(aj:(List Token)→Int→Int→Option ((List Token)×Int×Int))(src:auJ)(aP:List Token)(bQ:Int)(b6:Int):Option ((List Token)×Int×Int):=ar (hE b6 src.length)<|(DQ n (src.drop (b6).toNat)).bind λfK=>cond (!decide (fK.2.2=0)) (some (([]:List Token),bQ,fK.2.2)) ((Jm n fK.1.Text).bind λh9=>ar (room (aP.length+([(⟨fK.1.Kind,h9,fK.1.N,bQ⟩:Token)]:List Token).length) 40)<|aj (aP++([(⟨fK.1.Kind,h9,fK.1.N,bQ⟩:Token)]:List Token)) bQ (auL (b6+fK.2.1)))
def Q5(n:Nat)(aj:(List Token)→Int→Int→Option ((List Token)×Int×Int))(src:auJ)(aP:List Token)(bQ:Int)(nF:Int):Option ((List Token)×Int×Int):=aj aP bQ nF
def Q6(aj:(List Token)→Int→Int→Option ((List Token)×Int×Int))(src:auJ)(aP:List Token)(bQ:Int)(Z7:Int→Option ((List Token)×Int×Int))(v24:Int):Option ((List Token)×Int×Int):=ar (!(decide (v24<((src.length:Nat):Int)))||aN v24 src.length)<|cond (cond (decide (v24<((src.length:Nat):Int))) (!decide ((((src.getD (v24).toNat 0).toNat:Nat):Int)=10)) false) (Z7 (auL (v24+1))) (Q5 n aj src aP bQ v24)
def DR(n:Nat)(aj:(List Token)→Int→Int→Option ((List Token)×Int×Int))(src:auJ)(aP:List Token)(bQ:Int):Nat→Int→Option ((List Token)×Int×Int)
 | 0=>λ_=>none
 |m+1=>Q6 n aj src aP bQ (DR n aj src aP bQ m)
def Jo(aj:(List Token)→Int→Int→Option ((List Token)×Int×Int))(src:auJ)(aP:List Token)(bQ:Int)(b6:Int)(v21:Bool):Option ((List Token)×Int×Int):=cond v21 (aj aP bQ (auL (b6+1))) (cond (decide ((((src.getD (b6).toNat 0).toNat:Nat):Int)=35)) (DR n aj src aP bQ n b6) (Q4 n aj src aP bQ b6))
def Q7(src:auJ)(aj:(List Token)→Int→Int→Option ((List Token)×Int×Int))(aP:List Token)(bQ:Int)(b6:Int):Option ((List Token)×Int×Int):=cond (decide (b6<((src.length:Nat):Int))) (ar (aN b6 src.length)<|cond (decide ((((src.getD (b6).toNat 0).toNat:Nat):Int)=10)) (aj aP (auL (bQ+1)) (auL (b6+1))) (cond (decide ((((src.getD (b6).toNat 0).toNat:Nat):Int)=32)) (Jo n aj src aP bQ b6 (decide ((((src.getD (b6).toNat 0).toNat:Nat):Int)=32))) (Jo n aj src aP bQ b6 (decide ((((src.getD (b6).toNat 0).toNat:Nat):Int)=9))))) (Q3 n aP)
def DS(n:Nat)(src:auJ):Nat→(List Token)→Int→Int→Option ((List Token)×Int×Int)
 | 0=>λ_ _ _=>none
 |m+1=>Q7 n src (DS n src m)
def Jp(src:auJ):Option ((List Token)×Int×Int):=cond (decide (16384<((src.length:Nat):Int))) (some (([]:List Token),0,2)) (DS n src n ([]:List Token) 1 0)
def uB(n:Nat)(text:auJ)(af:bb):auN:=cond (decide (((af.tokens.length:Nat):Int)≤af.at_)) (some false) (ar (aN af.at_ af.tokens.length)<|some (cond (cond (decide ((auM af.tokens (af.at_)).Kind=2)) true (decide ((auM af.tokens (af.at_)).Kind=5))) (decide (((auM af.tokens (af.at_)).Text)=text)) false))
def lx(text:auJ)(af:bb):Option (Bool×Int):=(uB n text af).bind λr1=>cond (!r1) (some (false,af.at_)) (some (true,(auL (af.at_+1))))
def Q8(n:Nat)(af:bb):Option (aD Unit Unit):=ar (aN (auL (((af.tokens.length:Nat):Int)-1)) af.tokens.length)<|some (.bj (.iface 379 (.agg [.int .i64 ((auM af.tokens (auL (((af.tokens.length:Nat):Int)-1))).ls),.int .i64 6])) ())
def Q9(af:bb):Option (aD Unit Unit):=cond (decide (((af.tokens.length:Nat):Int)=0)) (some (.bj (.iface 379 (.agg [.int .i64 1,.int .i64 6])) ())) (Q8 n af)
def sX(code:Int)(af:bb):Option (aD Unit Unit):=cond (decide (af.at_<((af.tokens.length:Nat):Int))) (ar (aN af.at_ af.tokens.length)<|some (.bj (.iface 379 (.agg [.int .i64 ((auM af.tokens (af.at_)).ls),.int .i64 code])) ())) (Q9 n af)
def kg(text:auJ)(af:bb):Option (aD Unit Int):=(lx n text af).bind λr1=>cond (!r1.1) ((sX n 5 (⟨af.tokens,r1.2⟩:bb)).bind λr3=>aD.on r3 (λaB bu=>some (.ret () r1.2)) (λmH bu=>some (.bj mH r1.2))) (some (.ret () r1.2))
def nG(s:Stmt)(af:bb):Option (aD Stmt Int):=(kg n ([59]:auJ) af).bind λr1=>aD.on r1 (λr2 r3=>some (.ret (⟨s.Op,s.Name,s.Max,⟨s.A.Op,s.A.N,s.A.S,s.A.an⟩,⟨s.B.Op,s.B.N,s.B.S,s.B.an⟩,s.Body,s.bK⟩:Stmt) r3)) (λfB r3=>some (.bj fB r3))
def Jq(n:Nat)(af:bb):Option (Int×Int):=cond (decide (((af.tokens.length:Nat):Int)≤af.at_)) (some (0,0)) (ar (aN af.at_ af.tokens.length)<|cond (cond (!decide ((auM af.tokens (af.at_)).Kind=2)) (!decide ((auM af.tokens (af.at_)).Kind=5)) false) (some (0,0)) (cond (decide (((auM af.tokens (af.at_)).Text)=([111,114]:auJ))) (some (1,17)) (cond (decide (((auM af.tokens (af.at_)).Text)=([97,110,100]:auJ))) (some (2,16)) (cond (decide (((auM af.tokens (af.at_)).Text)=([61,61]:auJ))) (some (4,10)) (cond (decide (((auM af.tokens (af.at_)).Text)=([33,61]:auJ))) (some (4,11)) (cond (decide (((auM af.tokens (af.at_)).Text)=([60]:auJ))) (some (4,12)) (cond (decide (((auM af.tokens (af.at_)).Text)=([60,61]:auJ))) (some (4,13)) (cond (decide (((auM af.tokens (af.at_)).Text)=([62]:auJ))) (some (4,14)) (cond (decide (((auM af.tokens (af.at_)).Text)=([62,61]:auJ))) (some (4,15)) (cond (decide (((auM af.tokens (af.at_)).Text)=([43,43]:auJ))) (some (5,19)) (cond (decide (((auM af.tokens (af.at_)).Text)=([43]:auJ))) (some (6,4)) (cond (decide (((auM af.tokens (af.at_)).Text)=([45]:auJ))) (some (6,5)) (cond (decide (((auM af.tokens (af.at_)).Text)=([42]:auJ))) (some (7,6)) (cond (decide (((auM af.tokens (af.at_)).Text)=([47]:auJ))) (some (7,7)) (cond (decide (((auM af.tokens (af.at_)).Text)=([37]:auJ))) (some (7,8)) (some (0,0)))))))))))))))))
def Jr(n:Nat)(depth:Int)(af:bb):Option (aD Int Unit):=some (.ret (auL (depth+1)) ())
def zR(depth:Int)(af:bb):Option (aD Int Unit):=cond (decide (24≤depth)) ((sX n 2 af).bind λr1=>aD.on r1 (λr2 r3=>Jr n depth af) (λfB r3=>some (.bj fB ()))) (Jr n depth af)
def Js(n:Nat)(af:bb):auO:=ar ((decide (((af.tokens.length:Nat):Int)≤af.at_))||aN af.at_ af.tokens.length)<|cond (cond (decide (((af.tokens.length:Nat):Int)≤af.at_)) true (!decide ((auM af.tokens (af.at_)).Kind=2))) (some 0) (ar (aN af.at_ af.tokens.length)<|cond (decide (((auM af.tokens (af.at_)).Text)=([116,101,120,116]:auJ))) (some 20) (cond (decide (((auM af.tokens (af.at_)).Text)=([108,101,110]:auJ))) (some 21) (cond (decide (((auM af.tokens (af.at_)).Text)=([103,101,116,105,110,116]:auJ))) (some 22) (cond (decide (((auM af.tokens (af.at_)).Text)=([103,101,116,115,116,114]:auJ))) (some 23) (cond (decide (((auM af.tokens (af.at_)).Text)=([104,97,115]:auJ))) (some 24) (cond (decide (((auM af.tokens (af.at_)).Text)=([110,111,119]:auJ))) (some 25) (cond (decide (((auM af.tokens (af.at_)).Text)=([114,97,110,100,111,109]:auJ))) (some 26) (cond (decide (((auM af.tokens (af.at_)).Text)=([110,111,100,101]:auJ))) (some 27) (some 0)))))))))
def Jt(fT:Int→Int→bb→Option (aD Expr Int))(gf:Int→Int→Int→bb→Option (aD Expr Int))(gp:Int→bb→Option (aD Expr Int))(gg:Int→bb→Option (aD Expr Int))(level:Int)(depth:Int)(af:bb)(ef:Int→Int→Int→auJ→(List Expr)→Option (aD Expr Int))(v37:Int)(iN:Int)(mh:Int)(v40:auJ)(kG:List Expr):Option (aD Expr Int):=(Jq n (⟨af.tokens,v37⟩:bb)).bind λiE=>cond (!decide (iE.1=level)) (some (.ret (⟨iN,mh,v40,kG⟩:Expr) v37)) ((fT (auL (level+1)) depth (⟨af.tokens,(auL (v37+1))⟩:bb)).bind λoE=>aD.on oE (λgR jz=>cond (decide (level=4)) (some (.ret (⟨iE.2,0,[],[⟨iN,mh,v40,kG⟩,gR]⟩:Expr) jz)) (ef jz iE.2 0 ([]:auJ) ([(⟨iN,mh,v40,kG⟩:Expr),gR]:List Expr))) (λwX jz=>some (.bj wX jz)))
def zS(n:Nat)(fT:Int→Int→bb→Option (aD Expr Int))(gf:Int→Int→Int→bb→Option (aD Expr Int))(gp:Int→bb→Option (aD Expr Int))(gg:Int→bb→Option (aD Expr Int))(level:Int)(depth:Int)(af:bb):Nat→Int→Int→Int→auJ→(List Expr)→Option (aD Expr Int)
 | 0=>λ_ _ _ _ _=>none
 |m+1=>Jt n fT gf gp gg level depth af (zS n fT gf gp gg level depth af m)
def zT(fT:Int→Int→bb→Option (aD Expr Int))(gf:Int→Int→Int→bb→Option (aD Expr Int))(gp:Int→bb→Option (aD Expr Int))(gg:Int→bb→Option (aD Expr Int))(level:Int)(depth:Int)(af:bb):Option (aD Expr Int):=cond (decide (level=3)) ((uB n ([110,111,116]:auJ) af).bind λr2=>cond r2 ((gf 18 level depth af).bind λaB=>aD.on aB (λbu aU=>some (.ret bu aU)) (λrI aU=>some (.bj rI aU))) ((fT 4 depth af).bind λcg=>aD.on cg (λb9 dd=>some (.ret b9 dd)) (λQ' dd=>some (.bj Q' dd)))) (cond (decide (level=8)) ((uB n ([45]:auJ) af).bind λcu=>cond cu ((gf 9 level depth af).bind λdi=>aD.on di (λcC dB=>some (.ret cC dB)) (λm8 dB=>some (.bj m8 dB))) ((gp depth af).bind λfh=>aD.on fh (λel eZ=>some (.ret el eZ)) (λQ_ eZ=>some (.bj Q_ eZ)))) ((fT (auL (level+1)) depth af).bind λey=>aD.on ey (λr24 fJ=>zS n fT gf gp gg level depth af n fJ r24.Op r24.N r24.S r24.an) (λRa fJ=>some (.bj Ra fJ))))
def Ju(fT:Int→Int→bb→Option (aD Expr Int))(gf:Int→Int→Int→bb→Option (aD Expr Int))(gp:Int→bb→Option (aD Expr Int))(gg:Int→bb→Option (aD Expr Int))(op:Int)(level:Int)(depth:Int)(af:bb):Option (aD Expr Int):=(zR n depth af).bind λr1=>aD.on r1 (λr2 r3=>(fT level r2 (⟨af.tokens,(auL (af.at_+1))⟩:bb)).bind λbu=>aD.on bu (λaU bz=>some (.ret (⟨op,0,[],[aU]⟩:Expr) bz)) (λh' bz=>some (.bj h' bz))) (λfB r3=>some (.bj fB af.at_))
def Jv(fT:Int→Int→bb→Option (aD Expr Int))(gf:Int→Int→Int→bb→Option (aD Expr Int))(gp:Int→bb→Option (aD Expr Int))(gg:Int→bb→Option (aD Expr Int))(depth:Int)(r3:Int)(af:bb)(v2:Int):Option (aD Expr Int):=(zR n depth (⟨af.tokens,v2⟩:bb)).bind λr26=>aD.on r26 (λr27 pw=>(gg r27 (⟨af.tokens,(auL (v2+1))⟩:bb)).bind λh9=>aD.on h9 (λgb mI=>some (.ret (⟨r3,0,[],[gb]⟩:Expr) mI)) (λwY mI=>some (.bj wY mI))) (λRb pw=>some (.bj Rb v2))
def Jw(fT:Int→Int→bb→Option (aD Expr Int))(gf:Int→Int→Int→bb→Option (aD Expr Int))(gp:Int→bb→Option (aD Expr Int))(gg:Int→bb→Option (aD Expr Int))(depth:Int)(af:bb)(v2:Int):Option (aD Expr Int):=(zR n depth (⟨af.tokens,v2⟩:bb)).bind λb9=>aD.on b9 (λdd a'=>(gg dd (⟨af.tokens,v2⟩:bb)).bind λcu=>aD.on cu (λdQ di=>some (.ret dQ di)) (λwZ di=>some (.bj wZ di))) (λm9 a'=>some (.bj m9 v2))
def m'(fT:Int→Int→bb→Option (aD Expr Int))(gf:Int→Int→Int→bb→Option (aD Expr Int))(gp:Int→bb→Option (aD Expr Int))(gg:Int→bb→Option (aD Expr Int))(depth:Int)(r3:Int)(af:bb)(v2:Int)(aP:Bool):Option (aD Expr Int):=cond aP ((kg n ([40]:auJ) (⟨af.tokens,(auL (v2+1))⟩:bb)).bind λe8=>aD.on e8 (λfh el=>(kg n ([41]:auJ) (⟨af.tokens,el⟩:bb)).bind λdr=>aD.on dr (λey r24=>some (.ret (⟨r3,0,[],[]⟩:Expr) r24)) (λRc r24=>some (.bj Rc r24))) (λRd el=>some (.bj Rd el))) (Jv n fT gf gp gg depth r3 af v2)
def w0(fT:Int→Int→bb→Option (aD Expr Int))(gf:Int→Int→Int→bb→Option (aD Expr Int))(gp:Int→bb→Option (aD Expr Int))(gg:Int→bb→Option (aD Expr Int))(depth:Int)(af:bb)(v2:Int):Option (aD Expr Int):=(Js n (⟨af.tokens,v2⟩:bb)).bind λr3=>cond (decide (r3=0)) ((uB n ([40]:auJ) (⟨af.tokens,v2⟩:bb)).bind λaB=>cond (!aB) ((sX n 5 (⟨af.tokens,v2⟩:bb)).bind λbu=>aD.on bu (λaU bz=>Jw n fT gf gp gg depth af v2) (λh' bz=>some (.bj h' v2))) (Jw n fT gf gp gg depth af v2)) (cond (decide (r3=25)) (m' n fT gf gp gg depth r3 af v2 (decide (r3=25))) (cond (decide (r3=26)) (m' n fT gf gp gg depth r3 af v2 (decide (r3=26))) (m' n fT gf gp gg depth r3 af v2 (decide (r3=27)))))
def DT(fT:Int→Int→bb→Option (aD Expr Int))(gf:Int→Int→Int→bb→Option (aD Expr Int))(gp:Int→bb→Option (aD Expr Int))(gg:Int→bb→Option (aD Expr Int))(depth:Int)(af:bb):Option (aD Expr Int):=cond (decide (af.at_<((af.tokens.length:Nat):Int))) (ar (aN af.at_ af.tokens.length)<|cond (decide ((auM af.tokens (af.at_)).Kind=3)) (some (.ret (⟨1,(auM af.tokens (af.at_)).N,[],[]⟩:Expr) (auL (af.at_+1)))) (cond (decide ((auM af.tokens (af.at_)).Kind=4)) (some (.ret (⟨2,0,(auM af.tokens (af.at_)).Text,[]⟩:Expr) (auL (af.at_+1)))) (cond (decide ((auM af.tokens (af.at_)).Kind=1)) (some (.ret (⟨3,0,(auM af.tokens (af.at_)).Text,[]⟩:Expr) (auL (af.at_+1)))) (w0 n fT gf gp gg depth af (auL ((auL (af.at_+1))-1)))))) (w0 n fT gf gp gg depth af af.at_)
def zU(fT:Int→Int→bb→Option (aD Expr Int))(gf:Int→Int→Int→bb→Option (aD Expr Int))(gp:Int→bb→Option (aD Expr Int))(gg:Int→bb→Option (aD Expr Int))(depth:Int)(af:bb):Option (aD Expr Int):=(kg n ([40]:auJ) af).bind λr1=>aD.on r1 (λr2 r3=>(fT 1 depth (⟨af.tokens,r3⟩:bb)).bind λbu=>aD.on bu (λaU bz=>(kg n ([41]:auJ) (⟨af.tokens,bz⟩:bb)).bind λb9=>aD.on b9 (λdd a'=>some (.ret aU a')) (λm9 a'=>some (.bj m9 a'))) (λh' bz=>some (.bj h' bz))) (λfB r3=>some (.bj fB r3))
def k4:Nat→(Int→Int→bb→Option (aD Expr Int))×(Int→Int→Int→bb→Option (aD Expr Int))×(Int→bb→Option (aD Expr Int))×(Int→bb→Option (aD Expr Int))
 | 0=>(λ_ _ _=>none,λ_ _ _ _=>none,λ_ _=>none,λ_ _=>none)
 |m+1=>(zT m ((k4 m).1) ((k4 m).2.1) ((k4 m).2.2.1) ((k4 m).2.2.2),Ju m ((k4 m).1) ((k4 m).2.1) ((k4 m).2.2.1) ((k4 m).2.2.2),DT m ((k4 m).1) ((k4 m).2.1) ((k4 m).2.2.1) ((k4 m).2.2.2),zU m ((k4 m).1) ((k4 m).2.1) ((k4 m).2.2.1) ((k4 m).2.2.2))
def gF:Int→Int→bb→Option (aD Expr Int):=(k4 n).1
def lU:Int→Int→Int→bb→Option (aD Expr Int):=(k4 n).2.1
def k5:Int→bb→Option (aD Expr Int):=(k4 n).2.2.1
def ly:Int→bb→Option (aD Expr Int):=(k4 n).2.2.2
def Jx(n:Nat)(af:bb):Option (aD Token Int):=ar (aN (auL ((auL (af.at_+1))-1)) af.tokens.length)<|some (.ret (auM af.tokens (auL ((auL (af.at_+1))-1))) (auL (af.at_+1)))
def oF(kind:Int)(af:bb):Option (aD Token Int):=ar ((decide (((af.tokens.length:Nat):Int)≤af.at_))||aN af.at_ af.tokens.length)<|cond (cond (decide (((af.tokens.length:Nat):Int)≤af.at_)) true (!decide ((auM af.tokens (af.at_)).Kind=kind))) ((sX n 5 af).bind λr2=>aD.on r2 (λr3 aB=>Jx n af) (λkh aB=>some (.bj kh af.at_))) (Jx n af)
def Re(n:Nat)(hI:Int→bb→Option (aD (List Stmt) Int))(hV:Int→bb→Option (aD Stmt Int))(hW:Int→bb→Option (aD Stmt Int))(af:bb)(v28:Int)(jh:List Stmt):Option (aD (List Stmt) Int):=some (.ret jh v28)
def Rf(hI:Int→bb→Option (aD (List Stmt) Int))(hV:Int→bb→Option (aD Stmt Int))(hW:Int→bb→Option (aD Stmt Int))(depth:Int)(af:bb)(fW:Int→(List Stmt)→Option (aD (List Stmt) Int))(bQ:Int)(b6:List Stmt):Option (aD (List Stmt) Int):=(lx n ([125]:auJ) (⟨af.tokens,bQ⟩:bb)).bind λel=>cond (!el.1) ((hV (auL (depth+1)) (⟨af.tokens,el.2⟩:bb)).bind λeZ=>aD.on eZ (λdr ey=>ar (room (b6.length+([dr]:List Stmt).length) 192)<|fW ey (b6++([dr]:List Stmt))) (λoG ey=>some (.bj oG ey))) (Re n hI hV hW af el.2 b6)
def DU(n:Nat)(hI:Int→bb→Option (aD (List Stmt) Int))(hV:Int→bb→Option (aD Stmt Int))(hW:Int→bb→Option (aD Stmt Int))(depth:Int)(af:bb):Nat→Int→(List Stmt)→Option (aD (List Stmt) Int)
 | 0=>λ_ _=>none
 |m+1=>Rf n hI hV hW depth af (DU n hI hV hW depth af m)
def Jy(hI:Int→bb→Option (aD (List Stmt) Int))(hV:Int→bb→Option (aD Stmt Int))(hW:Int→bb→Option (aD Stmt Int))(depth:Int)(af:bb):Option (aD (List Stmt) Int):=(kg n ([123]:auJ) af).bind λaU=>aD.on aU (λbz cg=>DU n hI hV hW depth af n cg ([]:List Stmt)) (λRg cg=>some (.bj Rg cg))
def Jz(hI:Int→bb→Option (aD (List Stmt) Int))(hV:Int→bb→Option (aD Stmt Int))(hW:Int→bb→Option (aD Stmt Int))(depth:Int)(af:bb):Option (aD (List Stmt) Int):=(uB n ([123]:auJ) af).bind λr1=>cond (cond r1 (decide (12<depth)) false) ((sX n 2 af).bind λr2=>aD.on r2 (λr3 aB=>Jy n hI hV hW depth af) (λkh aB=>some (.bj kh af.at_))) (Jy n hI hV hW depth af)
def JA(n:Nat)(hI:Int→bb→Option (aD (List Stmt) Int))(hV:Int→bb→Option (aD Stmt Int))(hW:Int→bb→Option (aD Stmt Int))(af:bb)(lV:Expr)(rJ:(List Stmt))(JB:Int)(JC:List Stmt):Option (aD Stmt Int):=some (.ret (⟨5,[],0,lV,⟨0,0,[],[]⟩,rJ,JC⟩:Stmt) JB)
def JD(hI:Int→bb→Option (aD (List Stmt) Int))(hV:Int→bb→Option (aD Stmt Int))(hW:Int→bb→Option (aD Stmt Int))(depth:Int)(af:bb):Option (aD Stmt Int):=(lx n ([108,101,116]:auJ) af).bind λr1=>cond r1.1 ((oF n 1 (⟨af.tokens,r1.2⟩:bb)).bind λr3=>aD.on r3 (λaB bu=>(kg n ([61]:auJ) (⟨af.tokens,bu⟩:bb)).bind λbz=>aD.on bz (λcg b9=>(gF n 1 0 (⟨af.tokens,b9⟩:bb)).bind λa'=>aD.on a' (λaX cu=>(nG n (⟨1,aB.Text,0,aX,⟨0,0,[],[]⟩,[],[]⟩:Stmt) (⟨af.tokens,cu⟩:bb)).bind λdi=>aD.on di (λcC dB=>some (.ret (⟨cC.Op,cC.Name,cC.Max,⟨cC.A.Op,cC.A.N,cC.A.S,cC.A.an⟩,⟨cC.B.Op,cC.B.N,cC.B.S,cC.B.an⟩,cC.Body,cC.bK⟩:Stmt) dB)) (λm8 dB=>some (.bj m8 dB))) (λsY cu=>some (.bj sY cu))) (λDV b9=>some (.bj DV b9))) (λmH bu=>some (.bj mH bu))) ((lx n ([112,117,116]:auJ) (⟨af.tokens,r1.2⟩:bb)).bind λfh=>cond fh.1 ((gF n 1 0 (⟨af.tokens,fh.2⟩:bb)).bind λeZ=>aD.on eZ (λdr ey=>(kg n ([61]:auJ) (⟨af.tokens,ey⟩:bb)).bind λfJ=>aD.on fJ (λr26 r27=>(gF n 1 0 (⟨af.tokens,r27⟩:bb)).bind λfK=>aD.on fK (λh9 gb=>(nG n (⟨3,[],0,dr,h9,[],[]⟩:Stmt) (⟨af.tokens,gb⟩:bb)).bind λnE=>aD.on nE (λnH lz=>some (.ret (⟨nH.Op,nH.Name,nH.Max,⟨nH.A.Op,nH.A.N,nH.A.S,nH.A.an⟩,⟨nH.B.Op,nH.B.N,nH.B.S,nH.B.an⟩,nH.Body,nH.bK⟩:Stmt) lz)) (λRh lz=>some (.bj Rh lz))) (λsZ gb=>some (.bj sZ gb))) (λs0 r27=>some (.bj s0 r27))) (λoG ey=>some (.bj oG ey))) ((lx n ([100,101,108,101,116,101]:auJ) (⟨af.tokens,fh.2⟩:bb)).bind λoH=>cond oH.1 ((gF n 1 0 (⟨af.tokens,oH.2⟩:bb)).bind λRi=>aD.on Ri (λJE qw=>(nG n (⟨4,[],0,JE,⟨0,0,[],[]⟩,[],[]⟩:Stmt) (⟨af.tokens,qw⟩:bb)).bind λoE=>aD.on oE (λgR jz=>some (.ret (⟨gR.Op,gR.Name,gR.Max,⟨gR.A.Op,gR.A.N,gR.A.S,gR.A.an⟩,⟨gR.B.Op,gR.B.N,gR.B.S,gR.B.an⟩,gR.Body,gR.bK⟩:Stmt) jz)) (λwX jz=>some (.bj wX jz))) (λw1 qw=>some (.bj w1 qw))) ((lx n ([101,109,105,116]:auJ) (⟨af.tokens,oH.2⟩:bb)).bind λoC=>cond oC.1 ((gF n 1 0 (⟨af.tokens,oC.2⟩:bb)).bind λIV=>aD.on IV (λDv qx=>(nG n (⟨7,[],0,Dv,⟨0,0,[],[]⟩,[],[]⟩:Stmt) (⟨af.tokens,qx⟩:bb)).bind λzO=>aD.on zO (λlw DW=>some (.ret (⟨lw.Op,lw.Name,lw.Max,⟨lw.A.Op,lw.A.N,lw.A.S,lw.A.an⟩,⟨lw.B.Op,lw.B.N,lw.B.S,lw.B.an⟩,lw.Body,lw.bK⟩:Stmt) DW)) (λRj DW=>some (.bj Rj DW))) (λRk qx=>some (.bj Rk qx))) ((lx n ([97,98,111,114,116]:auJ) (⟨af.tokens,oC.2⟩:bb)).bind λJF=>cond JF.1 ((oF n 3 (⟨af.tokens,JF.2⟩:bb)).bind λnI=>aD.on nI (λJG w2=>(nG n (⟨8,[],JG.N,⟨0,0,[],[]⟩,⟨0,0,[],[]⟩,[],[]⟩:Stmt) (⟨af.tokens,w2⟩:bb)).bind λRl=>aD.on Rl (λk6 DX=>some (.ret (⟨k6.Op,k6.Name,k6.Max,⟨k6.A.Op,k6.A.N,k6.A.S,k6.A.an⟩,⟨k6.B.Op,k6.B.N,k6.B.S,k6.B.an⟩,k6.Body,k6.bK⟩:Stmt) DX)) (λRm DX=>some (.bj Rm DX))) (λRn w2=>some (.bj Rn w2))) ((lx n ([105,102]:auJ) (⟨af.tokens,JF.2⟩:bb)).bind λJH=>cond JH.1 ((gF n 1 0 (⟨af.tokens,JH.2⟩:bb)).bind λRo=>aD.on Ro (λlV s2=>(hI depth (⟨af.tokens,s2⟩:bb)).bind λRp=>aD.on Rp (λrJ s3=>(lx n ([101,108,115,101]:auJ) (⟨af.tokens,s3⟩:bb)).bind λuC=>cond uC.1 ((hI depth (⟨af.tokens,uC.2⟩:bb)).bind λRq=>aD.on Rq (λJI s4=>JA n hI hV hW af lV rJ s4 JI) (λDY s4=>some (.bj DY s4))) (JA n hI hV hW af lV rJ uC.2 ([]:List Stmt))) (λDZ s3=>some (.bj DZ s3))) (λD0 s2=>some (.bj D0 s2))) ((lx n ([102,111,114]:auJ) (⟨af.tokens,JH.2⟩:bb)).bind λJJ=>cond JJ.1 ((hW depth (⟨af.tokens,JJ.2⟩:bb)).bind λajE=>aD.on ajE (λnJ D1=>some (.ret (⟨nJ.Op,nJ.Name,nJ.Max,⟨nJ.A.Op,nJ.A.N,nJ.A.S,nJ.A.an⟩,⟨nJ.B.Op,nJ.B.N,nJ.B.S,nJ.B.an⟩,nJ.Body,nJ.bK⟩:Stmt) D1)) (λRr D1=>some (.bj Rr D1))) ((oF n 1 (⟨af.tokens,JJ.2⟩:bb)).bind λajF=>aD.on ajF (λZ8 D2=>(kg n ([61]:auJ) (⟨af.tokens,D2⟩:bb)).bind λajG=>aD.on ajG (λajH D3=>(gF n 1 0 (⟨af.tokens,D3⟩:bb)).bind λajI=>aD.on ajI (λZ9 D4=>(nG n (⟨2,Z8.Text,0,Z9,⟨0,0,[],[]⟩,[],[]⟩:Stmt) (⟨af.tokens,D4⟩:bb)).bind λajJ=>aD.on ajJ (λnK D5=>some (.ret (⟨nK.Op,nK.Name,nK.Max,⟨nK.A.Op,nK.A.N,nK.A.S,nK.A.an⟩,⟨nK.B.Op,nK.B.N,nK.B.S,nK.B.an⟩,nK.Body,nK.bK⟩:Stmt) D5)) (λRs D5=>some (.bj Rs D5))) (λRt D4=>some (.bj Rt D4))) (λRu D3=>some (.bj Ru D3))) (λRv D2=>some (.bj Rv D2)))))))))
def JK(hI:Int→bb→Option (aD (List Stmt) Int))(hV:Int→bb→Option (aD Stmt Int))(hW:Int→bb→Option (aD Stmt Int))(depth:Int)(af:bb):Option (aD Stmt Int):=(oF n 1 af).bind λr1=>aD.on r1 (λr2 r3=>(kg n ([61]:auJ) (⟨af.tokens,r3⟩:bb)).bind λbu=>aD.on bu (λaU bz=>(gF n 1 0 (⟨af.tokens,bz⟩:bb)).bind λb9=>aD.on b9 (λdd a'=>(kg n ([116,111]:auJ) (⟨af.tokens,a'⟩:bb)).bind λcu=>aD.on cu (λdQ di=>(gF n 1 0 (⟨af.tokens,di⟩:bb)).bind λdB=>aD.on dB (λe8 fh=>(kg n ([109,97,120]:auJ) (⟨af.tokens,fh⟩:bb)).bind λeZ=>aD.on eZ (λdr ey=>(oF n 3 (⟨af.tokens,ey⟩:bb)).bind λfJ=>aD.on fJ (λr26 r27=>(hI depth (⟨af.tokens,r27⟩:bb)).bind λfK=>aD.on fK (λh9 gb=>some (.ret (⟨6,r2.Text,r26.N,dd,e8,h9,[]⟩:Stmt) gb)) (λsZ gb=>some (.bj sZ gb))) (λs0 r27=>some (.bj s0 r27))) (λoG ey=>some (.bj oG ey))) (λRw fh=>some (.bj Rw fh))) (λwZ di=>some (.bj wZ di))) (λm9 a'=>some (.bj m9 a'))) (λh' bz=>some (.bj h' bz))) (λfB r3=>some (.bj fB r3))
def py:Nat→(Int→bb→Option (aD (List Stmt) Int))×(Int→bb→Option (aD Stmt Int))×(Int→bb→Option (aD Stmt Int))
 | 0=>(λ_ _=>none,λ_ _=>none,λ_ _=>none)
 |m+1=>(Jz m ((py m).1) ((py m).2.1) ((py m).2.2),JD m ((py m).1) ((py m).2.1) ((py m).2.2),JK m ((py m).1) ((py m).2.1) ((py m).2.2))
def qy:Int→bb→Option (aD (List Stmt) Int):=(py n).1
def w3:Int→bb→Option (aD Stmt Int):=(py n).2.1
def uD:Int→bb→Option (aD Stmt Int):=(py n).2.2
def zV(n:Nat)(af:bb)(r2:Token)(ck:Int)(aP:Int):Option (aD Param Int):=some (.ret (⟨r2.Text,aP⟩:Param) ck)
def D6(af:bb):Option (aD Param Int):=(oF n 1 af).bind λr1=>aD.on r1 (λr2 r3=>(kg n ([58]:auJ) (⟨af.tokens,r3⟩:bb)).bind λbu=>aD.on bu (λaU bz=>(lx n ([105,110,116]:auJ) (⟨af.tokens,bz⟩:bb)).bind λb9=>cond b9.1 (zV n af r2 b9.2 1) ((lx n ([115,116,114]:auJ) (⟨af.tokens,b9.2⟩:bb)).bind λdd=>cond dd.1 (zV n af r2 dd.2 2) ((lx n ([98,111,111,108]:auJ) (⟨af.tokens,dd.2⟩:bb)).bind λa'=>cond a'.1 (zV n af r2 a'.2 3) ((sX n 5 (⟨af.tokens,a'.2⟩:bb)).bind λaX=>aD.on aX (λcu dQ=>zV n af r2 a'.2 0) (λRx dQ=>some (.bj Rx a'.2)))))) (λh' bz=>some (.bj h' bz))) (λfB r3=>some (.bj fB r3))
def zW(af:bb)(aU:Token)(JL:Int)(JM:List Param):Option (aD be Int):=(qy n 0 (⟨af.tokens,JL⟩:bb)).bind λjz=>aD.on jz (λDu oC=>some (.ret (⟨aU.Text,JM,Du⟩:be) oC)) (λRy oC=>some (.bj Ry oC))
def Rz(af:bb)(aU:Token)(v37:Int)(iN:List Param):Option (aD be Int):=(kg n ([41]:auJ) (⟨af.tokens,v37⟩:bb)).bind λRi=>aD.on Ri (λJE qw=>zW n af aU qw iN) (λw1 qw=>some (.bj w1 qw))
def RA(af:bb)(aU:Token)(fW:Int→(List Param)→Option (aD be Int))(nF:Int)(v28:List Param):Option (aD be Int):=(lx n ([44]:auJ) (⟨af.tokens,nF⟩:bb)).bind λfK=>cond fK.1 ((D6 n (⟨af.tokens,fK.2⟩:bb)).bind λh9=>aD.on h9 (λgb mI=>ar (room (v28.length+([gb]:List Param).length) 24)<|fW mI (v28++([gb]:List Param))) (λwY mI=>some (.bj wY mI))) (Rz n af aU fK.2 v28)
def zX(n:Nat)(af:bb)(aU:Token):Nat→Int→(List Param)→Option (aD be Int)
 | 0=>λ_ _=>none
 |m+1=>RA n af aU (zX n af aU m)
def zY(af:bb):Option (aD be Int):=(kg n ([112,114,111,99]:auJ) af).bind λr1=>aD.on r1 (λr2 r3=>(oF n 1 (⟨af.tokens,r3⟩:bb)).bind λbu=>aD.on bu (λaU bz=>(kg n ([40]:auJ) (⟨af.tokens,bz⟩:bb)).bind λb9=>aD.on b9 (λdd a'=>(lx n ([41]:auJ) (⟨af.tokens,a'⟩:bb)).bind λcu=>cond (!cu.1) ((D6 n (⟨af.tokens,cu.2⟩:bb)).bind λdQ=>aD.on dQ (λdi cC=>ar (room (([]:List Param).length+([di]:List Param).length) 24)<|zX n af aU n cC (([]:List Param)++([di]:List Param))) (λRB cC=>some (.bj RB cC))) (zW n af aU cu.2 ([]:List Param))) (λm9 a'=>some (.bj m9 a'))) (λh' bz=>some (.bj h' bz))) (λfB r3=>some (.bj fB r3))
def RC(af:bb)(fS:be):Option (aD Unit (Int×auJ×(List Param)×(List Stmt))):=(zY n af).bind λr1=>aD.on r1 (λr2 r3=>some (.ret () (r3,r2.Name,r2.Params,r2.Body))) (λfB r3=>some (.bj fB (r3,fS.Name,fS.Params,fS.Body)))
def Z'(n:Nat)(af:bb):Option (aD Unit Unit):=ar (aN (auL (((af.tokens.length:Nat):Int)-1)) af.tokens.length)<|some (.bj (.iface 379 (.agg [.int .i64 ((auM af.tokens (auL (((af.tokens.length:Nat):Int)-1))).ls),.int .i64 6])) ())
def Z_(af:bb):Option (aD Unit Unit):=cond (decide (((af.tokens.length:Nat):Int)=0)) (some (.bj (.iface 379 (.agg [.int .i64 1,.int .i64 6])) ())) (Z' n af)
def RD(code:Int)(af:bb):Option (aD Unit Unit):=cond (decide (af.at_<((af.tokens.length:Nat):Int))) (ar (aN af.at_ af.tokens.length)<|some (.bj (.iface 379 (.agg [.int .i64 ((auM af.tokens (af.at_)).ls),.int .i64 code])) ())) (Z_ n af)
def JN(src:auJ)(af:be):Option (Int×Int×auJ×(List Param)×(List Stmt)):=(Jp n src).bind λr1=>cond (!decide (r1.2.2=0)) (some (r1.2.1,r1.2.2,af.Name,af.Params,af.Body)) ((RC n (⟨r1.1,0⟩:bb) af).bind λr2=>aD.on r2 (λcW nL=>cond (decide (nL.1<((r1.1.length:Nat):Int))) ((RD n 5 (⟨r1.1,nL.1⟩:bb)).bind λr3=>aD.on r3 (λc6 RE=>none) (λe9 RE=>(CS 379 e9).bind λlc=>some (lc.1,lc.2,nL.2.1,nL.2.2.1,nL.2.2.2))) (some (0,0,nL.2.1,nL.2.2.1,nL.2.2.2))) (λe9 nL=>(CS 379 e9).bind λlc=>some (lc.1,lc.2,nL.2.1,nL.2.2.1,nL.2.2.2)))
def w4(n:Nat)(r1:Int×Int×auJ×(List Param)×(List Stmt))(v3:Int):Option (be×Int×Int):=cond (!decide (v3=0)) (some ((⟨[],[],[]⟩:be),r1.1,v3)) (some ((⟨r1.2.2.1,r1.2.2.2.1,r1.2.2.2.2⟩:be),0,0))
def D7(src:auJ):Option (be×Int×Int):=(JN n src (⟨[],[],[]⟩:be)).bind λr1=>cond (decide (r1.2.1=0)) ((Dh n (⟨r1.2.2.1,r1.2.2.2.1,r1.2.2.2.2⟩:be)).bind λr2=>w4 n r1 r2) (w4 n r1 r1.2.1)
def RF(n:Nat)(bA:List be):Option ((List be)×Bool):=some (bA,true)
def JO(l:List auJ)(aj:Int→(List be)→Option ((List be)×Bool))(bE:Int)(bf:List be):Option ((List be)×Bool):=cond (decide (bE<((l.length:Nat):Int))) (ar (aN bE l.length)<|(D7 n (auM l bE)).bind λdd=>Option.bind (cond (!(!decide (dd.2.2=0))) (wI n dd.1) (some default)) λa'=>cond (cond (!decide (dd.2.2=0)) true (!(decide (a'=(auM l bE))))) (some (([]:List be),false)) (ar (room (bf.length+([dd.1]:List be).length) 64)<|aj (auL (bE+1)) (bf++([dd.1]:List be)))) (RF n bf)
def zZ(n:Nat)(l:List auJ):Nat→Int→(List be)→Option ((List be)×Bool)
 | 0=>λ_ _=>none
 |m+1=>JO n l (zZ n l m)
def JP(l:List auJ):Option ((List be)×Bool):=zZ n l n 0 ([]:List be)
def RG(n:Nat)(l:List bh):auN:=some (decide (((l.length:Nat):Int)≤32))
def JQ(l:List bh)(aj:Int→auN)(v5:Int):auN:=cond (decide (v5<((l.length:Nat):Int))) (ar (aN v5 l.length)<|(wB n ((auM l v5).Key)).bind λbz=>ar ((cond (cond (!bz) true (decide ((auM l v5).Count<1))) true (decide (1099511627776<(auM l v5).Count)))||(!(decide (0<v5))||aN (auL (v5-1)) l.length))<|cond (cond (cond (cond (!bz) true (decide ((auM l v5).Count<1))) true (decide (1099511627776<(auM l v5).Count))) true (cond (decide (0<v5)) (!(Op.bytesLess ((auM l (auL (v5-1))).Key) ((auM l v5).Key))) false)) (some false) (aj (auL (v5+1)))) (RG n l)
def z1(n:Nat)(l:List bh):Nat→Int→auN
 | 0=>λ_=>none
 |m+1=>JQ n l (z1 n l m)
def JR(l:List bh):auN:=z1 n l n 0
def RH(n:Nat):auN:=some true
def JS(l:List be)(aj:Int→auN)(v6:Int):auN:=cond (decide (v6<((l.length:Nat):Int))) (ar (aN v6 l.length)<|(wI n (auM l v6)).bind λcg=>ar ((cond (decide (cg=([]:auJ))) true (decide (16384<((cg.length:Nat):Int))))||(!(decide (0<v6))||aN (auL (v6-1)) l.length))<|cond (cond (cond (decide (cg=([]:auJ))) true (decide (16384<((cg.length:Nat):Int)))) true (cond (decide (0<v6)) ((Op.bytesLess ((auM l v6).Name) ((auM l (auL (v6-1))).Name))||(decide (((auM l v6).Name)=((auM l (auL (v6-1))).Name)))) false)) (some false) (aj (auL (v6+1)))) (RH n)
def z6(n:Nat)(l:List be):Nat→Int→auN
 | 0=>λ_=>none
 |m+1=>JS n l (z6 n l m)
def JT(l:List be):auN:=cond (decide (16<((l.length:Nat):Int))) (some false) (z6 n l n 0)
def RI(ai:bL):auN:=(zt n ai.cV).bind λa'=>Option.bind (cond a' (DB n ai.Place) (some default)) λaX=>Option.bind (cond (cond a' aX false) (JR n ai.bh) (some default)) λcu=>some (cond (cond a' aX false) cu false)
def JU(ai:bL)(aj:Int→auN)(bE:Int):auN:=cond (decide (bE<((ai.Queue.length:Nat):Int))) (ar (aN bE ai.Queue.length)<|(zd n (⟨(auM ai.Queue bE).Client,(auM ai.Queue bE).Seq,(auM ai.Queue bE).be,(auM ai.Queue bE).an,(auM ai.Queue bE).f_,⟨((auM ai.Queue bE).bP).eN,((auM ai.Queue bE).bP).Reads,((auM ai.Queue bE).bP).dz⟩⟩:Request)).bind λb9=>cond (!decide (b9=0)) (some false) (aj (auL (bE+1)))) (RI n ai)
def w5(n:Nat)(ai:bL):Nat→Int→auN
 | 0=>λ_=>none
 |m+1=>JU n ai (w5 n ai m)
def z7(ai:bL):auN:=Option.bind (cond (!(cond (decide (ai.Pos<0)) true (decide (1099511627776<ai.Pos)))) (zh n ai.au) (some default)) λr1=>Option.bind (cond (!(cond (cond (cond (decide (ai.Pos<0)) true (decide (1099511627776<ai.Pos))) true (!r1)) true (!decide (ai.au.bN=ai.Pos)))) (JT n ai.cL) (some default)) λr2=>cond (cond (cond (cond (cond (cond (decide (ai.Pos<0)) true (decide (1099511627776<ai.Pos))) true (!r1)) true (!decide (ai.au.bN=ai.Pos))) true (!r2)) true (decide (64<((ai.Queue.length:Nat):Int)))) (some false) (w5 n ai n 0)
def RJ(n:Nat)(at_:Int)(cD:List Row):Option (au×Int):=some ((⟨at_,at_,cD⟩:au),0)
def JV(at_:Int)(l:List aY)(aj:(List Row)→Int→Option (au×Int))(bE:List Row)(bf:Int):Option (au×Int):=cond (decide (bf<((l.length:Nat):Int))) (ar (aN bf l.length)<|ar (room (bE.length+([(⟨(auM l bf).Key,[⟨at_,⟨((auM l bf).bx).Kind,((auM l bf).bx).N,((auM l bf).bx).S⟩⟩]⟩:Row)]:List Row).length) 40)<|aj (bE++([(⟨(auM l bf).Key,[⟨at_,⟨((auM l bf).bx).Kind,((auM l bf).bx).N,((auM l bf).bx).S⟩⟩]⟩:Row)]:List Row)) (auL (bf+1))) (RJ n at_ bE)
def z8(n:Nat)(at_:Int)(l:List aY):Nat→(List Row)→Int→Option (au×Int)
 | 0=>λ_ _=>none
 |m+1=>JV n at_ l (z8 n at_ l m)
def z'(l:List aY)(at_:Int):Option (au×Int):=(Dw n l).bind λr1=>cond (cond (cond (!r1) true (decide (at_<0))) true (decide (1099511627776<at_))) (some ((⟨0,0,[]⟩:au),1)) (z8 n at_ l n ([]:List Row) 0)
def w6(s:auJ):Option (bL×Int):=(DN n (⟨s,0,0⟩:fz)).bind λr1=>cond (!decide (r1.2.2=0)) (some ((⟨0,⟨0,0,[]⟩,[],[],⟨0,[]⟩,[],[],0⟩:bL),r1.2.2)) (cond (cond (cond (!decide (r1.2.1=((s.length:Nat):Int))) true (decide (r1.1.gm.Pos<0))) true (decide (1099511627776<r1.1.gm.Pos))) (some ((⟨0,⟨0,0,[]⟩,[],[],⟨0,[]⟩,[],[],0⟩:bL),5)) ((JP n r1.1.sources).bind λaB=>cond (!aB.2) (some ((⟨0,⟨0,0,[]⟩,[],[],⟨0,[]⟩,[],[],0⟩:bL),5)) ((z' n r1.1.Py r1.1.gm.Pos).bind λaU=>cond (!decide (aU.2=0)) (some ((⟨0,⟨0,0,[]⟩,[],[],⟨0,[]⟩,[],[],0⟩:bL),5)) ((z7 n (⟨r1.1.gm.Pos,aU.1,aB.1,r1.1.gm.cV,r1.1.gm.Place,r1.1.gm.bh,r1.1.gm.Queue,r1.1.gm.c_⟩:bL)).bind λcg=>cond (!cg) (some ((⟨0,⟨0,0,[]⟩,[],[],⟨0,[]⟩,[],[],0⟩:bL),5)) (some ((⟨r1.1.gm.Pos,aU.1,aB.1,r1.1.gm.cV,r1.1.gm.Place,r1.1.gm.bh,r1.1.gm.Queue,r1.1.gm.c_⟩:bL),0))))))
def aaa(ai:bL):Option (bL×Int):=(z7 n ai).bind λr1=>cond (!r1) (none) ((QG n ai).bind λr3=>(w6 n r3).bind λaB=>some (aB.1,aB.2))
def aab(ai:bL):Option (g_×Int):=(aaa n ai).bind λr1=>cond (!decide (r1.2=0)) (none) (some ((⟨ai.Pos,⟨ai.Pos,⟨0,0,[]⟩,ai.cL,ai.cV,ai.Place,ai.bh,ai.Queue,ai.c_⟩,[],false,[],[]⟩:g_),0))
def aac(ai:bL):Option (auJ×Int):=(z7 n ai).bind λr1=>cond (!r1) (none) ((QG n ai).bind λr3=>cond (decide (16384<((r3.length:Nat):Int))) (none) (some (r3,0)))
def RK(n:Nat)(cd:List Int):auO:=some ((cd.length:Nat):Int)
def aad(c:g_)(v24:List Int):Option (auJ×Int×Int):=(RK n v24).bind λfJ=>cond (cond (decide (16384<fJ)) true (decide ((auL (1099511627776-c.dD))<((c.fR.length:Nat):Int)))) (none) ((uu n v24).bind λr27=>some (r27.1,(auL (c.dD+((c.fR.length:Nat):Int))),0))
def aae(c:g_)(aj:(List Int)→Int→Option (auJ×Int×Int))(ck:List Int)(aP:Int):Option (auJ×Int×Int):=cond (decide (aP<((c.fR.length:Nat):Int))) (ar (aN aP c.fR.length)<|Option.bind (cond (!(decide (4096<(((auM c.fR aP).length:Nat):Int)))) (RK n ck) (some default)) λfh=>cond (cond (decide (4096<(((auM c.fR aP).length:Nat):Int))) true (decide (16384<fh))) (none) ((ze n (auM c.fR aP)).bind λel=>(m7 n el ck).bind λeZ=>aj eZ.2 (auL (aP+1)))) (aad n c ck)
def RL(n:Nat)(c:g_):Nat→(List Int)→Int→Option (auJ×Int×Int)
 | 0=>λ_ _=>none
 |m+1=>aae n c (RL n c m)
def RM(c:g_):Option (auJ×Int×Int):=cond (!c.eH) (some (([]:auJ),0,16)) ((z' n c.gE c.dD).bind λr2=>cond (!decide (r2.2=0)) (none) ((aac n (⟨c.Rest.Pos,r2.1,c.Rest.cL,c.Rest.cV,c.Rest.Place,c.Rest.bh,c.Rest.Queue,c.Rest.c_⟩:bL)).bind λaB=>cond (!decide (aB.2=0)) (none) ((ze n aB.1).bind λaU=>(pt n (IntKind.u64.wrap ((c.fR.length:Nat):Int))).bind λbz=>ar (cq (aU.length+bz.length))<|(m7 n (aU++bz) ([]:List Int)).bind λb9=>RL n c n b9.2 0)))
def RN(n:Nat)(s:List aY):Option (List aY):=ar (room (([]:List aY).length+s.length) 48)<|some (([]:List aY)++s)
def RO(n:Nat)(s:List auJ):Option (List auJ):=ar (room (([]:List auJ).length+s.length) 16)<|some (([]:List auJ)++s)
def RP(c:g_):Option g_:=(RN n c.gE).bind λr1=>(RO n c.fR).bind λr2=>some (⟨c.dD,c.Rest,c.Next,c.eH,r1,r2⟩:g_)
def aaf(c:g_)(data:auJ):Option g_:=(RP n c).bind λr1=>ar (room (r1.fR.length+([data]:List auJ).length) 16)<|some (⟨r1.dD,r1.Rest,r1.Next,r1.eH,r1.gE,(r1.fR++([data]:List auJ))⟩:g_)
def RQ(n:Nat)(r1:auJ×Int×Int)(af:auJ)(v2:Int):Option (auJ×Int×Int):=some (r1.1,r1.2.2,v2)
def w7(most:Int)(af:auJ)(fS:Int):Option (auJ×Int×Int):=(sQ n af fS most).bind λr1=>cond (decide (r1.2.2=0)) (RQ n r1 af r1.2.1) (RQ n r1 af fS)
def nM(s:auJ):Option (bL×Int):=cond (decide (16384<((s.length:Nat):Int))) (some ((⟨0,⟨0,0,[]⟩,[],[],⟨0,[]⟩,[],[],0⟩:bL),2)) ((w6 n s).bind λr2=>some (r2.1,r2.2))
def JW(n:Nat)(aU:Int×Int×Int)(s:auJ)(aB:bL×Int)(v21:Int)(v22:List auJ):Option (bL×(List auJ)×Int):=cond (cond (!decide (v21=((s.length:Nat):Int))) true (decide ((auL (1099511627776-aB.1.Pos))<aU.1))) (some ((⟨0,⟨0,0,[]⟩,[],[],⟨0,[]⟩,[],[],0⟩:bL),([]:List auJ),5)) (some (aB.1,v22,0))
def JX(aU:Int×Int×Int)(s:auJ)(aB:bL×Int)(aj:Int→(List auJ)→Int→Option (bL×(List auJ)×Int))(cD:Int)(bI:List auJ)(bA:Int):Option (bL×(List auJ)×Int):=cond (decide (bA<aU.1)) ((w7 n 4096 s cD).bind λcC=>cond (!decide (cC.2.1=0)) (some ((⟨0,⟨0,0,[]⟩,[],[],⟨0,[]⟩,[],[],0⟩:bL),([]:List auJ),cC.2.1)) (ar (room (bI.length+([cC.1]:List auJ).length) 16)<|aj cC.2.2 (bI++([cC.1]:List auJ)) (auL (bA+1)))) (JW n aU s aB cD bI)
def w8(n:Nat)(aU:Int×Int×Int)(s:auJ)(aB:bL×Int):Nat→Int→(List auJ)→Int→Option (bL×(List auJ)×Int)
 | 0=>λ_ _ _=>none
 |m+1=>JX n aU s aB (w8 n aU s aB m)
def D8(s:auJ):Option (bL×(List auJ)×Int):=cond (decide (16384<((s.length:Nat):Int))) (some ((⟨0,⟨0,0,[]⟩,[],[],⟨0,[]⟩,[],[],0⟩:bL),([]:List auJ),2)) ((w7 n 16384 s 0).bind λr2=>cond (!decide (r2.2.1=0)) (some ((⟨0,⟨0,0,[]⟩,[],[],⟨0,[]⟩,[],[],0⟩:bL),([]:List auJ),r2.2.1)) ((nM n r2.1).bind λaB=>cond (!decide (aB.2=0)) (some ((⟨0,⟨0,0,[]⟩,[],[],⟨0,[]⟩,[],[],0⟩:bL),([]:List auJ),aB.2)) ((oD n s r2.2.2 16384).bind λaU=>cond (!decide (aU.2.2=0)) (some ((⟨0,⟨0,0,[]⟩,[],[],⟨0,[]⟩,[],[],0⟩:bL),([]:List auJ),aU.2.2)) (w8 n aU s aB n aU.2.1 ([]:List auJ) 0))))
def aag(n:Nat)(c:Int):auN:=some (cond (decide (33≤c)) (decide (c≤126)) false)
def aah(n:Nat):auN:=some true
def aai(s:auJ)(aj:Int→auN)(v5:Int):auN:=cond (decide (v5<((s.length:Nat):Int))) (ar (aN v5 s.length)<|(aag n (((s.getD (v5).toNat 0).toNat:Nat):Int)).bind λbz=>cond (!bz) (none) (aj (auL (v5+1)))) (aah n)
def RR(n:Nat)(s:auJ):Nat→Int→auN
 | 0=>λ_=>none
 |m+1=>aai n s (RR n s m)
def aaj(s:auJ):auN:=cond (decide (24<((s.length:Nat):Int))) (none) (RR n s n 0)
def RS(s:auJ):auN:=(aaj n s).bind λr1=>some r1
def JY(ai:Range):auN:=(RS n ai.ed).bind λr1=>Option.bind (cond r1 (RS n ai.po) (some default)) λr2=>some (cond (cond r1 r2 false) (cond (decide (ai.po=([]:auJ))) true (!((Op.bytesLess ai.po ai.ed)||(decide (ai.po=ai.ed))))) false)
def aak(ai:Range)(k:auJ):auN:=(JY n ai).bind λr1=>some (cond (cond r1 ((Op.bytesLess ai.ed k)||(decide (ai.ed=k))) false) (cond (decide (ai.po=([]:auJ))) true (Op.bytesLess k ai.po)) false)
def aal(n:Nat)(b6:List aY):Option ((List aY)×auJ×Int):=some (b6,([]:auJ),0)
def RT(n:Nat)(aj:(List aY)→Int→Option ((List aY)×auJ×Int))(most:Int)(r3:(List aY)×Int)(v12:Int)(ai:Range)(ck:List aY):Option ((List aY)×auJ×Int):=aj ck (auL (v12+1))
def aam(most:Int)(r3:(List aY)×Int)(ai:Range)(aj:(List aY)→Int→Option ((List aY)×auJ×Int))(v11:List aY)(v12:Int):Option ((List aY)×auJ×Int):=cond (decide (v12<((r3.1.length:Nat):Int))) (ar (aN v12 r3.1.length)<|(aak n ai ((auM r3.1 v12).Key)).bind λdQ=>cond (!dQ) (RT n aj most r3 v12 ai v11) (cond (decide (most≤((v11.length:Nat):Int))) (some (v11,(auM r3.1 v12).Key,0)) (ar (room (v11.length+([(⟨(auM r3.1 v12).Key,⟨((auM r3.1 v12).bx).Kind,((auM r3.1 v12).bx).N,((auM r3.1 v12).bx).S⟩⟩:aY)]:List aY).length) 48)<|RT n aj most r3 v12 ai (v11++([(⟨(auM r3.1 v12).Key,⟨((auM r3.1 v12).bx).Kind,((auM r3.1 v12).bx).N,((auM r3.1 v12).bx).S⟩⟩:aY)]:List aY))))) (aal n v11)
def RU(n:Nat)(most:Int)(r3:(List aY)×Int)(ai:Range):Nat→(List aY)→Int→Option ((List aY)×auJ×Int)
 | 0=>λ_ _=>none
 |m+1=>aam n most r3 ai (RU n most r3 ai m)
def aan(s:au)(at_:Int)(ai:Range)(most:Int):Option ((List aY)×auJ×Int):=(JY n ai).bind λr1=>cond (!r1) (none) ((PU n s at_).bind λr3=>cond (!decide (r3.2=0)) (none) (RU n most r3 ai n ([]:List aY) 0))
def RV(c:g_)(s:au)(cX:Int):Option (g_×Int):=Option.bind (cond (!(decide (cX<1))) (zh n s) (some default)) λr1=>Option.bind (cond (!(cond (decide (cX<1)) true (!r1))) (JY n (⟨c.Next,[]⟩:Range)) (some default)) λr2=>cond (cond (cond (decide (cX<1)) true (!r1)) true (!r2)) (none) ((RP n c).bind λaB=>cond c.eH (none) ((aan n s c.dD (⟨c.Next,[]⟩:Range) cX).bind λaU=>cond (!decide (aU.2.2=0)) (none) (ar (room (aB.gE.length+aU.1.length) 48)<|some ((⟨aB.dD,aB.Rest,aU.2.1,(decide (aU.2.1=([]:auJ))),(aB.gE++aU.1),aB.fR⟩:g_),0))))
def JZ(n:Nat)(k:auJ):Option aY:=some (⟨k,⟨1,1,[]⟩⟩:aY)
def aao(n:Nat):auN:=some true
def RW(s:auJ)(aj:Int→auN)(v5:Int):auN:=cond (decide (v5<((s.length:Nat):Int))) (ar (aN v5 s.length)<|ar ((decide ((((s.getD (v5).toNat 0).toNat:Nat):Int)<32))||aN v5 s.length)<|cond (cond (decide ((((s.getD (v5).toNat 0).toNat:Nat):Int)<32)) true (decide (126<(((s.getD (v5).toNat 0).toNat:Nat):Int)))) (some false) (aj (auL (v5+1)))) (aao n)
def D9(n:Nat)(s:auJ):Nat→Int→auN
 | 0=>λ_=>none
 |m+1=>RW n s (D9 n s m)
def D'(s:auJ):auN:=cond (decide (64<((s.length:Nat):Int))) (some false) (D9 n s n 0)
def uE(v:bn):auN:=cond (decide (v.Kind=0)) (some (cond (decide (v.N=0)) (decide (v.S=([]:auJ))) false)) (cond (decide (v.Kind=1)) (some (decide (v.S=([]:auJ)))) (Option.bind (cond (cond (decide (v.Kind=2)) (decide (v.N=0)) false) (D' n v.S) (some default)) λr3=>some (cond (cond (decide (v.Kind=2)) (decide (v.N=0)) false) r3 false)))
def RX(n:Nat)(k:auJ):auN:=some (cond (decide (1≤((k.length:Nat):Int))) (decide (((k.length:Nat):Int)≤24)) false)
def J0(k:auJ)(aj:Int→auN)(v3:Int):auN:=cond (decide (v3<((k.length:Nat):Int))) (ar (aN v3 k.length)<|cond (cond (cond (cond (cond (cond (cond (decide ((((k.getD (v3).toNat 0).toNat:Nat):Int)<97)) true (decide (122<(((k.getD (v3).toNat 0).toNat:Nat):Int)))) (cond (decide ((((k.getD (v3).toNat 0).toNat:Nat):Int)<48)) true (decide (57<(((k.getD (v3).toNat 0).toNat:Nat):Int)))) false) (!decide ((((k.getD (v3).toNat 0).toNat:Nat):Int)=47)) false) (!decide ((((k.getD (v3).toNat 0).toNat:Nat):Int)=46)) false) (!decide ((((k.getD (v3).toNat 0).toNat:Nat):Int)=95)) false) (!decide ((((k.getD (v3).toNat 0).toNat:Nat):Int)=45)) false) (some false) (aj (auL (v3+1)))) (RX n k)
def z_(n:Nat)(k:auJ):Nat→Int→auN
 | 0=>λ_=>none
 |m+1=>J0 n k (z_ n k m)
def w9(k:auJ):auN:=z_ n k n 0
def RY(n:Nat):auN:=some true
def J1(l:List aY)(aj:Int→auN)(v6:Int):auN:=cond (decide (v6<((l.length:Nat):Int))) (ar (aN v6 l.length)<|(w9 n ((auM l v6).Key)).bind λcg=>ar ((!cg)||(!(decide (0<v6))||aN v6 l.length))<|ar ((!cg)||(!(decide (0<v6))||aN (auL (v6-1)) l.length))<|cond (cond (!cg) true (cond (decide (0<v6)) ((Op.bytesLess ((auM l v6).Key) ((auM l (auL (v6-1))).Key))||(decide (((auM l v6).Key)=((auM l (auL (v6-1))).Key)))) false)) (some false) (aj (auL (v6+1)))) (RY n)
def Aa(n:Nat)(l:List aY):Nat→Int→auN
 | 0=>λ_=>none
 |m+1=>J1 n l (Aa n l m)
def J2(l:List aY):auN:=Aa n l n 0
def RZ(l:List aY):auN:=(J2 n l).bind λcg=>some cg
def J3(l:List aY)(aj:Int→auN)(v4:Int):auN:=cond (decide (v4<((l.length:Nat):Int))) (ar (aN v4 l.length)<|(uE n ((auM l v4).bx)).bind λaU=>cond (!aU) (some false) (aj (auL (v4+1)))) (RZ n l)
def Ac(n:Nat)(l:List aY):Nat→Int→auN
 | 0=>λ_=>none
 |m+1=>J3 n l (Ac n l m)
def D_(l:List aY):auN:=Ac n l n 0
def R0(l:List aY):auN:=(D_ n l).bind λaU=>some aU
def J4(l:List aY)(aj:Int→auN)(v3:Int):auN:=cond (decide (v3<((l.length:Nat):Int))) (ar (aN v3 l.length)<|cond (decide (((auM l v3).bx).Kind=0)) (some false) (aj (auL (v3+1)))) (R0 n l)
def Ad(n:Nat)(l:List aY):Nat→Int→auN
 | 0=>λ_=>none
 |m+1=>J4 n l (Ad n l m)
def Ea(l:List aY):auN:=Ad n l n 0
def R1(n:Nat)(at_:Int)(bA:List Row):Option (au×Int):=some ((⟨at_,at_,bA⟩:au),0)
def J5(l:List aY)(at_:Int)(aj:(List Row)→Int→Option (au×Int))(bf:List Row)(v9:Int):Option (au×Int):=cond (decide (v9<((l.length:Nat):Int))) (ar (aN v9 l.length)<|ar (aN v9 l.length)<|ar (room (bf.length+([(⟨(auM l v9).Key,[⟨at_,⟨((auM l v9).bx).Kind,((auM l v9).bx).N,((auM l v9).bx).S⟩⟩]⟩:Row)]:List Row).length) 40)<|aj (bf++([(⟨(auM l v9).Key,[⟨at_,⟨((auM l v9).bx).Kind,((auM l v9).bx).N,((auM l v9).bx).S⟩⟩]⟩:Row)]:List Row)) (auL (v9+1))) (R1 n at_ bf)
def Ae(n:Nat)(l:List aY)(at_:Int):Nat→(List Row)→Int→Option (au×Int)
 | 0=>λ_ _=>none
 |m+1=>J5 n l at_ (Ae n l at_ m)
def w_(l:List aY)(at_:Int):Option (au×Int):=(Ea n l).bind λr1=>cond (cond (cond (!r1) true (decide (at_<0))) true (decide (1099511627776<at_))) (some ((⟨0,0,[]⟩:au),1)) (Ae n l at_ n ([]:List Row) 0)
def aap:Option bL:=(JZ n ([97]:auJ)).bind λr1=>(JZ n ([98]:auJ)).bind λr2=>(JZ n ([99]:auJ)).bind λr3=>(w_ n ([r1,r2,r3]:List aY) 5).bind λaB=>some (⟨5,aB.1,[],[],⟨0,[⟨1,[],1,0,[]⟩]⟩,[],[],0⟩:bL)
def R2(n:Nat):auN:=some true
def J6(a:List auJ)(b:List auJ)(aj:Int→auN)(v5:Int):auN:=cond (decide (v5<((a.length:Nat):Int))) (ar (aN v5 a.length)<|ar (aN v5 b.length)<|cond (!(decide ((auM a v5)=(auM b v5)))) (some false) (aj (auL (v5+1)))) (R2 n)
def Af(n:Nat)(a:List auJ)(b:List auJ):Nat→Int→auN
 | 0=>λ_=>none
 |m+1=>J6 n a b (Af n a b m)
def xa(a:List auJ)(b:List auJ):auN:=cond (!decide (((a.length:Nat):Int)=((b.length:Nat):Int))) (some false) (Af n a b n 0)
def aaq(n:Nat)(l:List auJ)(k:auJ)(v6:Int):Option (List auJ):=ar (!(decide (v6<((l.length:Nat):Int)))||aN v6 l.length)<|cond (cond (decide (v6<((l.length:Nat):Int))) (decide ((auM l v6)=k)) false) (some l) (none)
def aar(l:List auJ)(k:auJ)(aj:Int→Option (List auJ))(v3:Int):Option (List auJ):=ar (!(decide (v3<((l.length:Nat):Int)))||aN v3 l.length)<|cond (cond (decide (v3<((l.length:Nat):Int))) (Op.bytesLess (auM l v3) k) false) (aj (auL (v3+1))) (aaq n l k v3)
def R3(n:Nat)(l:List auJ)(k:auJ):Nat→Int→Option (List auJ)
 | 0=>λ_=>none
 |m+1=>aar n l k (R3 n l k m)
def aas(l:List auJ)(k:auJ):Option (List auJ):=R3 n l k n 0
def R4(v:bn):auN:=(uE n v).bind λr1=>some r1
def R5(n:Nat):auN:=some true
def J7(floor:Int)(last:Int)(ai:Row)(aj:Int→auN)(v9:Int):auN:=cond (decide (v9<((ai.bZ.length:Nat):Int))) (ar (aN v9 ai.bZ.length)<|(R4 n (⟨((auM ai.bZ v9).bx).Kind,((auM ai.bZ v9).bx).N,((auM ai.bZ v9).bx).S⟩:bn)).bind λa'=>cond (cond (cond (!a') true (decide ((auM ai.bZ v9).dD<floor))) true (decide (last<(auM ai.bZ v9).dD))) (some false) (ar (!(decide (0<v9))||aN (auL (v9-1)) ai.bZ.length)<|ar (!(decide (0<v9))||((decide ((auM ai.bZ v9).dD≤(auM ai.bZ (auL (v9-1))).dD))||aN (auL (v9-1)) ai.bZ.length))<|cond (cond (decide (0<v9)) (cond (decide ((auM ai.bZ v9).dD≤(auM ai.bZ (auL (v9-1))).dD)) true ((decide (((auM ai.bZ v9).bx).Kind=((auM ai.bZ (auL (v9-1))).bx).Kind))&&((decide (((auM ai.bZ v9).bx).N=((auM ai.bZ (auL (v9-1))).bx).N))&&((decide (((auM ai.bZ v9).bx).S=((auM ai.bZ (auL (v9-1))).bx).S))&&true)))) false) (some false) (aj (auL (v9+1))))) (R5 n)
def Ag(n:Nat)(floor:Int)(last:Int)(ai:Row):Nat→Int→auN
 | 0=>λ_=>none
 |m+1=>J7 n floor last ai (Ag n floor last ai m)
def J8(ai:Row)(floor:Int)(last:Int):auN:=(w9 n ai.Key).bind λr1=>ar ((cond (!r1) true (decide (((ai.bZ.length:Nat):Int)=0)))||aN 0 ai.bZ.length)<|cond (cond (cond (!r1) true (decide (((ai.bZ.length:Nat):Int)=0))) true (decide (((ai.bZ.getD 0 default).bx).Kind=0))) (some false) (Ag n floor last ai n 0)
def R6(n:Nat):auN:=some true
def J9(s:au)(aj:Int→auN)(bE:Int):auN:=cond (decide (bE<((s.Rows.length:Nat):Int))) (ar (aN bE s.Rows.length)<|(J8 n (auM s.Rows bE) s.bX s.bN).bind λb9=>ar ((!b9)||(!(decide (0<bE))||aN (auL (bE-1)) s.Rows.length))<|ar ((!b9)||(!(decide (0<bE))||aN bE s.Rows.length))<|cond (cond (!b9) true (cond (decide (0<bE)) (!(Op.bytesLess ((auM s.Rows (auL (bE-1))).Key) ((auM s.Rows bE).Key))) false)) (some false) (aj (auL (bE+1)))) (R6 n)
def Ah(n:Nat)(s:au):Nat→Int→auN
 | 0=>λ_=>none
 |m+1=>J9 n s (Ah n s m)
def Ai(s:au):auN:=cond (cond (cond (decide (s.bX<0)) true (decide (s.bN<s.bX))) true (decide (1099511627776<s.bN))) (some false) (Ah n s n 0)
def ajK(n:Nat)(key:auJ):Option Row:=some (⟨key,[]⟩:Row)
def aat(n:Nat)(key:auJ)(s:au)(aj:Int→Option Row)(v4:Int):Option Row:=cond (decide (v4<((s.Rows.length:Nat):Int))) (ar (aN v4 s.Rows.length)<|cond (decide (((auM s.Rows v4).Key)=key)) (ar (aN v4 s.Rows.length)<|some (auM s.Rows v4)) (aj (auL (v4+1)))) (none)
def R7(n:Nat)(key:auJ)(s:au):Nat→Int→Option Row
 | 0=>λ_=>none
 |m+1=>aat n key s (R7 n key s m)
def aau(s:au)(key:auJ):Option Row:=R7 n key s n 0
def aav(n:Nat)(v23:Int)(v24:Int)(v25:auJ):Option bn:=some (⟨v23,v24,v25⟩:bn)
def aaw(n:Nat)(aj:Int→Int→auJ→Int→Option bn)(at_:Int)(cD:Int)(ai:Row)(ck:Int)(aP:Int)(bQ:auJ):Option bn:=aj ck aP bQ (auL (cD+1))
def aax(at_:Int)(ai:Row)(aj:Int→Int→auJ→Int→Option bn)(v10:Int)(v11:Int)(v12:auJ)(cD:Int):Option bn:=cond (decide (cD<((ai.bZ.length:Nat):Int))) (ar (aN cD ai.bZ.length)<|cond (decide ((auM ai.bZ cD).dD≤at_)) (ar (aN cD ai.bZ.length)<|aaw n aj at_ cD ai (((auM ai.bZ cD).bx).Kind) (((auM ai.bZ cD).bx).N) (((auM ai.bZ cD).bx).S)) (none)) (aav n v10 v11 v12)
def R8(n:Nat)(at_:Int)(ai:Row):Nat→Int→Int→auJ→Int→Option bn
 | 0=>λ_ _ _ _=>none
 |m+1=>aax n at_ ai (R8 n at_ ai m)
def R9(ai:Row)(at_:Int):Option bn:=R8 n at_ ai n 0 0 ([]:auJ) 0
def aay(n:Nat)(s:au)(at_:Int)(J':List Row):Option (au×Int):=some ((⟨s.bX,at_,J'⟩:au),0)
def aaz(n:Nat)(gw:(List Row)→Int→Option (au×Int))(at_:Int)(writes:List aY)(v26:List auJ)(iu:Int)(s:au)(J_:List Row):Option (au×Int):=gw J_ (auL (iu+1))
def aaA(gw:(List Row)→Int→Option (au×Int))(at_:Int)(writes:List aY)(v26:List auJ)(iu:Int)(s:au)(v53:List Row)(fp:Row)(v76:List Version):Option (au×Int):=cond (decide (0<((v76.length:Nat):Int))) (ar (room (v53.length+([(⟨fp.Key,v76⟩:Row)]:List Row).length) 40)<|aaz n gw at_ writes v26 iu s (v53++([(⟨fp.Key,v76⟩:Row)]:List Row))) (none)
def R'(n:Nat)(Aj:(List Version)→Int→Option (au×Int))(gw:(List Row)→Int→Option (au×Int))(at_:Int)(writes:List aY)(v26:List auJ)(iu:Int)(gG:Int)(s:au)(v53:List Row)(fp:Row)(Ka:List Version):Option (au×Int):=Aj Ka (auL (gG+1))
def aaB(gw:(List Row)→Int→Option (au×Int))(at_:Int)(writes:List aY)(v26:List auJ)(iu:Int)(s:au)(v53:List Row)(fp:Row)(Aj:(List Version)→Int→Option (au×Int))(s5:List Version)(gG:Int):Option (au×Int):=cond (decide (gG<((writes.length:Nat):Int))) (ar (aN gG writes.length)<|ar (!(decide (((auM writes gG).Key)=fp.Key))||aN gG writes.length)<|Option.bind (cond (decide (((auM writes gG).Key)=fp.Key)) (R9 n fp s.bN) (some default)) λlV=>cond (cond (decide (((auM writes gG).Key)=fp.Key)) (!((decide (((auM writes gG).bx).Kind=lV.Kind))&&((decide (((auM writes gG).bx).N=lV.N))&&((decide (((auM writes gG).bx).S=lV.S))&&true)))) false) (ar (aN gG writes.length)<|ar (room (s5.length+([(⟨at_,⟨((auM writes gG).bx).Kind,((auM writes gG).bx).N,((auM writes gG).bx).S⟩⟩:Version)]:List Version).length) 40)<|R' n Aj gw at_ writes v26 iu gG s v53 fp (s5++([(⟨at_,⟨((auM writes gG).bx).Kind,((auM writes gG).bx).N,((auM writes gG).bx).S⟩⟩:Version)]:List Version))) (R' n Aj gw at_ writes v26 iu gG s v53 fp s5)) (aaA n gw at_ writes v26 iu s v53 fp s5)
def R_(n:Nat)(gw:(List Row)→Int→Option (au×Int))(at_:Int)(writes:List aY)(v26:List auJ)(iu:Int)(s:au)(v53:List Row)(fp:Row):Nat→(List Version)→Int→Option (au×Int)
 | 0=>λ_ _=>none
 |m+1=>aaB n gw at_ writes v26 iu s v53 fp (R_ n gw at_ writes v26 iu s v53 fp m)
def aaC(at_:Int)(writes:List aY)(v26:List auJ)(s:au)(gw:(List Row)→Int→Option (au×Int))(v53:List Row)(iu:Int):Option (au×Int):=cond (decide (iu<((v26.length:Nat):Int))) (ar (aN iu v26.length)<|(aau n s (auM v26 iu)).bind λfp=>ar (room (([]:List Version).length+fp.bZ.length) 40)<|R_ n gw at_ writes v26 iu s v53 fp n (([]:List Version)++fp.bZ) 0) (aay n s at_ v53)
def Sa(n:Nat)(at_:Int)(writes:List aY)(v26:List auJ)(s:au):Nat→(List Row)→Int→Option (au×Int)
 | 0=>λ_ _=>none
 |m+1=>aaC n at_ writes v26 s (Sa n at_ writes v26 s m)
def aaD(at_:Int)(writes:List aY)(s:au)(v26:List auJ):Option (au×Int):=Sa n at_ writes v26 s n ([]:List Row) 0
def aaE(at_:Int)(writes:List aY)(s:au)(aaF:Int→(List auJ)→Option (au×Int))(v20:Int)(v21:List auJ):Option (au×Int):=cond (decide (v20<((writes.length:Nat):Int))) (ar (aN v20 writes.length)<|(aas n v21 ((auM writes v20).Key)).bind λey=>aaF (auL (v20+1)) ey) (aaD n at_ writes s v21)
def Sb(n:Nat)(at_:Int)(writes:List aY)(s:au):Nat→Int→(List auJ)→Option (au×Int)
 | 0=>λ_ _=>none
 |m+1=>aaE n at_ writes s (Sb n at_ writes s m)
def aaG(at_:Int)(writes:List aY)(s:au)(bA:List auJ):Option (au×Int):=Sb n at_ writes s n 0 bA
def aaH(at_:Int)(writes:List aY)(s:au)(aaI:(List auJ)→Int→Option (au×Int))(v9:List auJ)(v10:Int):Option (au×Int):=cond (decide (v10<((s.Rows.length:Nat):Int))) (ar (aN v10 s.Rows.length)<|ar (room (v9.length+([(auM s.Rows v10).Key]:List auJ).length) 16)<|aaI (v9++([(auM s.Rows v10).Key]:List auJ)) (auL (v10+1))) (aaG n at_ writes s v9)
def Sc(n:Nat)(at_:Int)(writes:List aY)(s:au):Nat→(List auJ)→Int→Option (au×Int)
 | 0=>λ_ _=>none
 |m+1=>aaH n at_ writes s (Sc n at_ writes s m)
def aaJ(s:au)(at_:Int)(writes:List aY):Option (au×Int):=(Ai n s).bind λr1=>Option.bind (cond (!(!r1)) (D_ n writes) (some default)) λr2=>cond (cond (!r1) true (!r2)) (none) (cond (cond (decide (at_≤s.bN)) true (decide (1099511627776<at_))) (none) (Sc n at_ writes s n ([]:List auJ) 0))
def Sd(n:Nat)(nN:Expr→Expr→auN):auN:=some true
def Se(nN:Expr→Expr→auN)(a:Expr)(b:Expr)(aj:Int→auN)(v6:Int):auN:=cond (decide (v6<((a.an.length:Nat):Int))) (ar (aN v6 a.an.length)<|ar (aN v6 b.an.length)<|(nN (auM a.an v6) (auM b.an v6)).bind λb9=>cond (!b9) (some false) (aj (auL (v6+1)))) (Sd n nN)
def Eb(n:Nat)(nN:Expr→Expr→auN)(a:Expr)(b:Expr):Nat→Int→auN
 | 0=>λ_=>none
 |m+1=>Se n nN a b (Eb n nN a b m)
def Sf(nN:Expr→Expr→auN)(a:Expr)(b:Expr):auN:=cond (cond (cond (cond (!decide (a.Op=b.Op)) true (!decide (a.N=b.N))) true (!(decide (a.S=b.S)))) true (!decide (((a.an.length:Nat):Int)=((b.an.length:Nat):Int)))) (some false) (Eb n nN a b n 0)
def xb:Nat→Expr→Expr→auN
 | 0=>λ_ _=>none
 |m+1=>Sf m (xb m)
def Sg(n:Nat)(m_:(List Stmt)→(List Stmt)→auN):auN:=some true
def Sh(m_:(List Stmt)→(List Stmt)→auN)(a:List Stmt)(b:List Stmt)(aj:Int→auN)(v9:Int):auN:=cond (decide (v9<((a.length:Nat):Int))) (ar (aN v9 a.length)<|ar (aN v9 b.length)<|Option.bind (cond (!(cond (cond (!decide ((auM a v9).Op=(auM b v9).Op)) true (!(decide (((auM a v9).Name)=((auM b v9).Name))))) true (!decide ((auM a v9).Max=(auM b v9).Max)))) (xb n (⟨((auM a v9).A).Op,((auM a v9).A).N,((auM a v9).A).S,((auM a v9).A).an⟩:Expr) (⟨((auM b v9).A).Op,((auM b v9).A).N,((auM b v9).A).S,((auM b v9).A).an⟩:Expr)) (some default)) λaX=>Option.bind (cond (!(cond (cond (cond (!decide ((auM a v9).Op=(auM b v9).Op)) true (!(decide (((auM a v9).Name)=((auM b v9).Name))))) true (!decide ((auM a v9).Max=(auM b v9).Max))) true (!aX))) (xb n (⟨((auM a v9).B).Op,((auM a v9).B).N,((auM a v9).B).S,((auM a v9).B).an⟩:Expr) (⟨((auM b v9).B).Op,((auM b v9).B).N,((auM b v9).B).S,((auM b v9).B).an⟩:Expr)) (some default)) λcu=>Option.bind (cond (!(cond (cond (cond (cond (!decide ((auM a v9).Op=(auM b v9).Op)) true (!(decide (((auM a v9).Name)=((auM b v9).Name))))) true (!decide ((auM a v9).Max=(auM b v9).Max))) true (!aX)) true (!cu))) (m_ ((auM a v9).Body) ((auM b v9).Body)) (some default)) λdQ=>Option.bind (cond (!(cond (cond (cond (cond (cond (!decide ((auM a v9).Op=(auM b v9).Op)) true (!(decide (((auM a v9).Name)=((auM b v9).Name))))) true (!decide ((auM a v9).Max=(auM b v9).Max))) true (!aX)) true (!cu)) true (!dQ))) (m_ ((auM a v9).bK) ((auM b v9).bK)) (some default)) λdi=>cond (cond (cond (cond (cond (cond (cond (!decide ((auM a v9).Op=(auM b v9).Op)) true (!(decide (((auM a v9).Name)=((auM b v9).Name))))) true (!decide ((auM a v9).Max=(auM b v9).Max))) true (!aX)) true (!cu)) true (!dQ)) true (!di)) (some false) (aj (auL (v9+1)))) (Sg n m_)
def Ec(n:Nat)(m_:(List Stmt)→(List Stmt)→auN)(a:List Stmt)(b:List Stmt):Nat→Int→auN
 | 0=>λ_=>none
 |m+1=>Sh n m_ a b (Ec n m_ a b m)
def Si(m_:(List Stmt)→(List Stmt)→auN)(a:List Stmt)(b:List Stmt):auN:=cond (!decide (((a.length:Nat):Int)=((b.length:Nat):Int))) (some false) (Ec n m_ a b n 0)
def Ak:Nat→(List Stmt)→(List Stmt)→auN
 | 0=>λ_ _=>none
 |m+1=>Si m (Ak m)
def Sj(a:be)(b:be):auN:=(Ak n a.Body b.Body).bind λb9=>some b9
def Sk(a:be)(b:be)(aj:Int→auN)(v5:Int):auN:=cond (decide (v5<((a.Params.length:Nat):Int))) (ar (aN v5 a.Params.length)<|ar (aN v5 b.Params.length)<|cond (!((decide ((auM a.Params v5).Name=(auM b.Params v5).Name))&&((decide ((auM a.Params v5).f'=(auM b.Params v5).f'))&&true))) (some false) (aj (auL (v5+1)))) (Sj n a b)
def Ed(n:Nat)(a:be)(b:be):Nat→Int→auN
 | 0=>λ_=>none
 |m+1=>Sk n a b (Ed n a b m)
def Kb(a:be)(b:be):auN:=cond (cond (!(decide (a.Name=b.Name))) true (!decide (((a.Params.length:Nat):Int)=((b.Params.length:Nat):Int)))) (some false) (Ed n a b n 0)
def Sl(n:Nat):auN:=some true
def Kc(a:List be)(b:List be)(aj:Int→auN)(v6:Int):auN:=cond (decide (v6<((a.length:Nat):Int))) (ar (aN v6 a.length)<|ar (aN v6 b.length)<|(Kb n (auM a v6) (auM b v6)).bind λb9=>cond (!b9) (some false) (aj (auL (v6+1)))) (Sl n)
def Al(n:Nat)(a:List be)(b:List be):Nat→Int→auN
 | 0=>λ_=>none
 |m+1=>Kc n a b (Al n a b m)
def Kd(a:List be)(b:List be):auN:=cond (!decide (((a.length:Nat):Int)=((b.length:Nat):Int))) (some false) (Al n a b n 0)
def Sm(n:Nat):auN:=some true
def Sn(n:Nat)(aj:Int→auN)(v12:Int)(a:au)(b:au):auN:=aj (auL (v12+1))
def Ke(aj:Int→auN)(v12:Int)(a:au)(b:au)(gw:Int→auN)(bQ:Int):auN:=cond (decide (bQ<((((auM a.Rows v12).bZ).length:Nat):Int))) (ar (aN bQ ((auM a.Rows v12).bZ).length)<|ar (aN bQ ((auM b.Rows v12).bZ).length)<|cond (!((decide ((((auM a.Rows v12).bZ).getD (bQ).toNat default).dD=(((auM b.Rows v12).bZ).getD (bQ).toNat default).dD))&&((decide (((((auM a.Rows v12).bZ).getD (bQ).toNat default).bx).Kind=((((auM b.Rows v12).bZ).getD (bQ).toNat default).bx).Kind))&&((decide (((((auM a.Rows v12).bZ).getD (bQ).toNat default).bx).N=((((auM b.Rows v12).bZ).getD (bQ).toNat default).bx).N))&&((decide (((((auM a.Rows v12).bZ).getD (bQ).toNat default).bx).S=((((auM b.Rows v12).bZ).getD (bQ).toNat default).bx).S))&&true))))) (some false) (gw (auL (bQ+1)))) (Sn n aj v12 a b)
def Am(n:Nat)(aj:Int→auN)(v12:Int)(a:au)(b:au):Nat→Int→auN
 | 0=>λ_=>none
 |m+1=>Ke n aj v12 a b (Am n aj v12 a b m)
def Kf(a:au)(b:au)(aj:Int→auN)(v12:Int):auN:=cond (decide (v12<((a.Rows.length:Nat):Int))) (ar (aN v12 a.Rows.length)<|ar (aN v12 b.Rows.length)<|cond (cond (!(decide (((auM a.Rows v12).Key)=((auM b.Rows v12).Key)))) true (!decide (((((auM a.Rows v12).bZ).length:Nat):Int)=((((auM b.Rows v12).bZ).length:Nat):Int)))) (some false) (Am n aj v12 a b n 0)) (Sm n)
def uF(n:Nat)(a:au)(b:au):Nat→Int→auN
 | 0=>λ_=>none
 |m+1=>Kf n a b (uF n a b m)
def Kg(a:au)(b:au):auN:=cond (cond (cond (!decide (a.bX=b.bX)) true (!decide (a.bN=b.bN))) true (!decide (((a.Rows.length:Nat):Int)=((b.Rows.length:Nat):Int)))) (some false) (uF n a b n 0)
def So(n:Nat):auN:=some true
def Kh(a:b1)(b:b1)(aj:Int→auN)(v5:Int):auN:=cond (decide (v5<((a.aL.length:Nat):Int))) (ar (aN v5 a.aL.length)<|ar (aN v5 b.aL.length)<|cond (!((decide ((auM a.aL v5).Id=(auM b.aL v5).Id))&&((decide ((auM a.aL v5).ed=(auM b.aL v5).ed))&&((decide ((auM a.aL v5).Node=(auM b.aL v5).Node))&&((decide ((auM a.aL v5).fQ=(auM b.aL v5).fQ))&&((decide ((auM a.aL v5).eH=(auM b.aL v5).eH))&&true)))))) (some false) (aj (auL (v5+1)))) (So n)
def An(n:Nat)(a:b1)(b:b1):Nat→Int→auN
 | 0=>λ_=>none
 |m+1=>Kh n a b (An n a b m)
def Ki(a:b1)(b:b1):auN:=cond (cond (!decide (a.Version=b.Version)) true (!decide (((a.aL.length:Nat):Int)=((b.aL.length:Nat):Int)))) (some false) (An n a b n 0)
def Sp(n:Nat):auN:=some true
def Kj(a:List bh)(b:List bh)(aj:Int→auN)(v5:Int):auN:=cond (decide (v5<((a.length:Nat):Int))) (ar (aN v5 a.length)<|ar (aN v5 b.length)<|cond (!((decide ((auM a v5).Key=(auM b v5).Key))&&((decide ((auM a v5).Count=(auM b v5).Count))&&true))) (some false) (aj (auL (v5+1)))) (Sp n)
def Ao(n:Nat)(a:List bh)(b:List bh):Nat→Int→auN
 | 0=>λ_=>none
 |m+1=>Kj n a b (Ao n a b m)
def Kk(a:List bh)(b:List bh):auN:=cond (!decide (((a.length:Nat):Int)=((b.length:Nat):Int))) (some false) (Ao n a b n 0)
def Sq(a:ff)(b:ff):auN:=Option.bind (cond (a.eN == b.eN) (xa n a.Reads b.Reads) (some default)) λr1=>Option.bind (cond (cond (a.eN == b.eN) r1 false) (xa n a.dz b.dz) (some default)) λr2=>some (cond (cond (a.eN == b.eN) r1 false) r2 false)
def Sr(n:Nat):auN:=some true
def Kl(a:Request)(b:Request)(aj:Int→auN)(v6:Int):auN:=cond (decide (v6<((a.an.length:Nat):Int))) (ar (aN v6 a.an.length)<|ar (aN v6 b.an.length)<|cond (!((decide ((auM a.an v6).Kind=(auM b.an v6).Kind))&&((decide ((auM a.an v6).N=(auM b.an v6).N))&&((decide ((auM a.an v6).S=(auM b.an v6).S))&&true)))) (some false) (aj (auL (v6+1)))) (Sr n)
def Ap(n:Nat)(a:Request)(b:Request):Nat→Int→auN
 | 0=>λ_=>none
 |m+1=>Kl n a b (Ap n a b m)
def Km(a:Request)(b:Request):auN:=Option.bind (cond (!(cond (cond (cond (cond (!decide (a.Client=b.Client)) true (!decide (a.Seq=b.Seq))) true (!(decide (a.be=b.be)))) true (!(a.f_ == b.f_))) true (!decide (((a.an.length:Nat):Int)=((b.an.length:Nat):Int))))) (Sq n a.bP b.bP) (some default)) λr1=>cond (cond (cond (cond (cond (cond (!decide (a.Client=b.Client)) true (!decide (a.Seq=b.Seq))) true (!(decide (a.be=b.be)))) true (!(a.f_ == b.f_))) true (!decide (((a.an.length:Nat):Int)=((b.an.length:Nat):Int)))) true (!r1)) (some false) (Ap n a b n 0)
def Ss(n:Nat):auN:=some true
def Kn(a:Outcome)(b:Outcome)(aj:Int→auN)(v5:Int):auN:=cond (decide (v5<((a.Out.length:Nat):Int))) (ar (aN v5 a.Out.length)<|ar (aN v5 b.Out.length)<|cond (!((decide ((auM a.Out v5).Kind=(auM b.Out v5).Kind))&&((decide ((auM a.Out v5).N=(auM b.Out v5).N))&&((decide ((auM a.Out v5).S=(auM b.Out v5).S))&&true)))) (some false) (aj (auL (v5+1)))) (Ss n)
def Aq(n:Nat)(a:Outcome)(b:Outcome):Nat→Int→auN
 | 0=>λ_=>none
 |m+1=>Kn n a b (Aq n a b m)
def Ee(a:Outcome)(b:Outcome):auN:=cond (cond (cond (!decide (a.Status=b.Status)) true (!decide (a.Code=b.Code))) true (!decide (((a.Out.length:Nat):Int)=((b.Out.length:Nat):Int)))) (some false) (Aq n a b n 0)
def St(a:d')(b:d'):auN:=Option.bind (cond (cond (decide (a.Client=b.Client)) (decide (a.Seq=b.Seq)) false) (Ee n a.Outcome b.Outcome) (some default)) λr1=>some (cond (cond (decide (a.Client=b.Client)) (decide (a.Seq=b.Seq)) false) r1 false)
def Su(n:Nat):auN:=some true
def Ko(a:List d')(b:List d')(aj:Int→auN)(v6:Int):auN:=cond (decide (v6<((a.length:Nat):Int))) (ar (aN v6 a.length)<|ar (aN v6 b.length)<|(St n (auM a v6) (auM b v6)).bind λb9=>cond (!b9) (some false) (aj (auL (v6+1)))) (Su n)
def Ar(n:Nat)(a:List d')(b:List d'):Nat→Int→auN
 | 0=>λ_=>none
 |m+1=>Ko n a b (Ar n a b m)
def Kp(a:List d')(b:List d'):auN:=cond (!decide (((a.length:Nat):Int)=((b.length:Nat):Int))) (some false) (Ar n a b n 0)
def Sv(n:Nat):auN:=some true
def Kq(a:List bG)(b:List bG)(aj:Int→auN)(v10:Int):auN:=cond (decide (v10<((a.length:Nat):Int))) (ar (aN v10 a.length)<|ar (aN v10 b.length)<|ar ((!decide ((auM a v10).Client=(auM b v10).Client))||aN v10 a.length)<|ar ((!decide ((auM a v10).Client=(auM b v10).Client))||aN v10 b.length)<|ar ((cond (!decide ((auM a v10).Client=(auM b v10).Client)) true (!decide ((auM a v10).Next=(auM b v10).Next)))||aN v10 a.length)<|ar ((cond (!decide ((auM a v10).Client=(auM b v10).Client)) true (!decide ((auM a v10).Next=(auM b v10).Next)))||aN v10 b.length)<|Option.bind (cond (!(cond (!decide ((auM a v10).Client=(auM b v10).Client)) true (!decide ((auM a v10).Next=(auM b v10).Next)))) (Kp n ((auM a v10).dn) ((auM b v10).dn)) (some default)) λdB=>cond (cond (cond (!decide ((auM a v10).Client=(auM b v10).Client)) true (!decide ((auM a v10).Next=(auM b v10).Next))) true (!dB)) (some false) (aj (auL (v10+1)))) (Sv n)
def As(n:Nat)(a:List bG)(b:List bG):Nat→Int→auN
 | 0=>λ_=>none
 |m+1=>Kq n a b (As n a b m)
def Kr(a:List bG)(b:List bG):auN:=cond (!decide (((a.length:Nat):Int)=((b.length:Nat):Int))) (some false) (As n a b n 0)
def Sw(n:Nat):auN:=some true
def Ks(a:bL)(b:bL)(aj:Int→auN)(v11:Int):auN:=cond (decide (v11<((a.Queue.length:Nat):Int))) (ar (aN v11 a.Queue.length)<|ar (aN v11 b.Queue.length)<|(Km n (auM a.Queue v11) (auM b.Queue v11)).bind λdQ=>cond (!dQ) (some false) (aj (auL (v11+1)))) (Sw n)
def At(n:Nat)(a:bL)(b:bL):Nat→Int→auN
 | 0=>λ_=>none
 |m+1=>Ks n a b (At n a b m)
def Au(a:bL)(b:bL):auN:=Option.bind (cond (!(cond (!decide (a.Pos=b.Pos)) true (!decide (a.c_=b.c_)))) (Kg n a.au b.au) (some default)) λr1=>Option.bind (cond (!(cond (cond (!decide (a.Pos=b.Pos)) true (!decide (a.c_=b.c_))) true (!r1))) (Kd n a.cL b.cL) (some default)) λr2=>Option.bind (cond (!(cond (cond (cond (!decide (a.Pos=b.Pos)) true (!decide (a.c_=b.c_))) true (!r1)) true (!r2))) (Kr n a.cV b.cV) (some default)) λr3=>Option.bind (cond (!(cond (cond (cond (cond (!decide (a.Pos=b.Pos)) true (!decide (a.c_=b.c_))) true (!r1)) true (!r2)) true (!r3))) (Ki n a.Place b.Place) (some default)) λaB=>Option.bind (cond (!(cond (cond (cond (cond (cond (!decide (a.Pos=b.Pos)) true (!decide (a.c_=b.c_))) true (!r1)) true (!r2)) true (!r3)) true (!aB))) (Kk n a.bh b.bh) (some default)) λbu=>cond (cond (cond (cond (cond (cond (cond (cond (!decide (a.Pos=b.Pos)) true (!decide (a.c_=b.c_))) true (!r1)) true (!r2)) true (!r3)) true (!aB)) true (!bu)) true (!decide (((a.Queue.length:Nat):Int)=((b.Queue.length:Nat):Int)))) (some false) (At n a b n 0)
def aaK(n:Nat)(aP:List aY):Option (List aY):=some aP
def aaL(n:Nat)(aj:(List aY)→Int→Option (List aY))(at_:Int)(v9:Int)(s:au)(bI:List aY):Option (List aY):=aj bI (auL (v9+1))
def aaM(at_:Int)(s:au)(aj:(List aY)→Int→Option (List aY))(bf:List aY)(v9:Int):Option (List aY):=cond (decide (v9<((s.Rows.length:Nat):Int))) (ar (aN v9 s.Rows.length)<|(R9 n (auM s.Rows v9) at_).bind λa'=>cond (!decide (a'.Kind=0)) (ar (aN v9 s.Rows.length)<|ar (room (bf.length+([(⟨(auM s.Rows v9).Key,a'⟩:aY)]:List aY).length) 48)<|aaL n aj at_ v9 s (bf++([(⟨(auM s.Rows v9).Key,a'⟩:aY)]:List aY))) (none)) (aaK n bf)
def Sx(n:Nat)(at_:Int)(s:au):Nat→(List aY)→Int→Option (List aY)
 | 0=>λ_ _=>none
 |m+1=>aaM n at_ s (Sx n at_ s m)
def aaN(s:au)(at_:Int):Option (List aY):=Sx n at_ s n ([]:List aY) 0
def aaO(s:au)(at_:Int):Option ((List aY)×Int):=(Ai n s).bind λr1=>cond (!r1) (none) (cond (cond (decide (at_<s.bX)) true (decide (s.bN<at_))) (none) ((aaN n s at_).bind λaB=>some (aB,0)))
def Sy(n:Nat):auN:=some true
def Kt(s:auJ)(aj:Int→auN)(v5:Int):auN:=cond (decide (v5<((s.length:Nat):Int))) (ar (aN v5 s.length)<|ar ((decide ((((s.getD (v5).toNat 0).toNat:Nat):Int)<33))||aN v5 s.length)<|cond (cond (decide ((((s.getD (v5).toNat 0).toNat:Nat):Int)<33)) true (decide (126<(((s.getD (v5).toNat 0).toNat:Nat):Int)))) (some false) (aj (auL (v5+1)))) (Sy n)
def Av(n:Nat)(s:auJ):Nat→Int→auN
 | 0=>λ_=>none
 |m+1=>Kt n s (Av n s m)
def Ef(s:auJ):auN:=cond (decide (24<((s.length:Nat):Int))) (some false) (Av n s n 0)
def Ku(x:Part)(next:auJ)(last:Bool):auN:=cond (decide (x.fQ=0)) (some (decide (x.eH=([]:auJ)))) (Option.bind (cond (cond (cond (decide (1≤x.fQ)) (decide (x.fQ≤16)) false) (!decide (x.fQ=x.Node)) false) (Ef n x.eH) (some default)) λr2=>some (cond (cond (cond (cond (cond (decide (1≤x.fQ)) (decide (x.fQ≤16)) false) (!decide (x.fQ=x.Node)) false) r2 false) (!(Op.bytesLess x.eH x.ed)) false) (cond last true (Op.bytesLess x.eH next)) false))
def Sz(n:Nat):auN:=some true
def SA(n:Nat)(aj:Int→auN)(p:b1)(bA:Int):auN:=aj (auL (bA+1))
def Kv(aj:Int→auN)(p:b1)(bA:Int)(aaP:Int→auN)(v24:Int):auN:=cond (decide (v24<bA)) (ar (aN v24 p.aL.length)<|cond (decide ((auM p.aL v24).Id=(auM p.aL bA).Id)) (some false) (aaP (auL (v24+1)))) (SA n aj p bA)
def xc(n:Nat)(aj:Int→auN)(p:b1)(bA:Int):Nat→Int→auN
 | 0=>λ_=>none
 |m+1=>Kv n aj p bA (xc n aj p bA m)
def Eg(aj:Int→auN)(p:b1)(bA:Int)(bQ:auJ):auN:=(Ef n ((auM p.aL bA).ed)).bind λfh=>ar ((!fh)||(!(decide (0<bA))||aN (auL (bA-1)) p.aL.length))<|Option.bind (cond (!(cond (cond (cond (cond (cond (!fh) true (cond (decide (0<bA)) ((Op.bytesLess ((auM p.aL bA).ed) ((auM p.aL (auL (bA-1))).ed))||(decide (((auM p.aL bA).ed)=((auM p.aL (auL (bA-1))).ed)))) false)) true (decide ((auM p.aL bA).Id<1))) true (decide (1099511627776<(auM p.aL bA).Id))) true (decide ((auM p.aL bA).Node<1))) true (decide (16<(auM p.aL bA).Node)))) (Ku n (auM p.aL bA) bQ (decide ((auL (bA+1))=((p.aL.length:Nat):Int)))) (some default)) λeZ=>cond (cond (cond (cond (cond (cond (cond (!fh) true (cond (decide (0<bA)) ((Op.bytesLess ((auM p.aL bA).ed) ((auM p.aL (auL (bA-1))).ed))||(decide (((auM p.aL bA).ed)=((auM p.aL (auL (bA-1))).ed)))) false)) true (decide ((auM p.aL bA).Id<1))) true (decide (1099511627776<(auM p.aL bA).Id))) true (decide ((auM p.aL bA).Node<1))) true (decide (16<(auM p.aL bA).Node))) true (!eZ)) (some false) (xc n aj p bA n 0)
def Kw(p:b1)(aj:Int→auN)(bA:Int):auN:=cond (decide (bA<((p.aL.length:Nat):Int))) (ar (aN bA p.aL.length)<|cond (decide ((auL (bA+1))<((p.aL.length:Nat):Int))) (ar (aN (auL (bA+1)) p.aL.length)<|Eg n aj p bA ((auM p.aL (auL (bA+1))).ed)) (Eg n aj p bA ([]:auJ))) (Sz n)
def Aw(n:Nat)(p:b1):Nat→Int→auN
 | 0=>λ_=>none
 |m+1=>Kw n p (Aw n p m)
def Eh(p:b1):auN:=ar ((cond (cond (cond (decide (p.Version<0)) true (decide (1099511627776<p.Version))) true (decide (((p.aL.length:Nat):Int)<1))) true (decide (16<((p.aL.length:Nat):Int))))||aN 0 p.aL.length)<|cond (cond (cond (cond (cond (decide (p.Version<0)) true (decide (1099511627776<p.Version))) true (decide (((p.aL.length:Nat):Int)<1))) true (decide (16<((p.aL.length:Nat):Int)))) true (!(decide (((p.aL.getD 0 default).ed)=([]:auJ))))) (some false) (Aw n p n 0)
def SB(n:Nat)(l:List bh):auN:=some (decide (((l.length:Nat):Int)≤32))
def Kx(l:List bh)(aj:Int→auN)(bf:Int):auN:=cond (decide (bf<((l.length:Nat):Int))) (ar (aN bf l.length)<|(w9 n ((auM l bf).Key)).bind λdd=>ar ((!dd)||aN bf l.length)<|ar ((cond (!dd) true (decide ((auM l bf).Count<1)))||aN bf l.length)<|ar ((cond (cond (!dd) true (decide ((auM l bf).Count<1))) true (decide (1099511627776<(auM l bf).Count)))||(!(decide (0<bf))||aN bf l.length))<|ar ((cond (cond (!dd) true (decide ((auM l bf).Count<1))) true (decide (1099511627776<(auM l bf).Count)))||(!(decide (0<bf))||aN (auL (bf-1)) l.length))<|cond (cond (cond (cond (!dd) true (decide ((auM l bf).Count<1))) true (decide (1099511627776<(auM l bf).Count))) true (cond (decide (0<bf)) ((Op.bytesLess ((auM l bf).Key) ((auM l (auL (bf-1))).Key))||(decide (((auM l bf).Key)=((auM l (auL (bf-1))).Key)))) false)) (some false) (aj (auL (bf+1)))) (SB n l)
def Ax(n:Nat)(l:List bh):Nat→Int→auN
 | 0=>λ_=>none
 |m+1=>Kx n l (Ax n l m)
def Ky(l:List bh):auN:=Ax n l n 0
def SC(n:Nat)(l:List bn):auN:=some (decide (((l.length:Nat):Int)≤16))
def Kz(l:List bn)(aj:Int→auN)(v5:Int):auN:=cond (decide (v5<((l.length:Nat):Int))) (ar (aN v5 l.length)<|(uE n (auM l v5)).bind λbz=>ar ((!bz)||aN v5 l.length)<|cond (cond (!bz) true (decide ((auM l v5).Kind=0))) (some false) (aj (auL (v5+1)))) (SC n l)
def xd(n:Nat)(l:List bn):Nat→Int→auN
 | 0=>λ_=>none
 |m+1=>Kz n l (xd n l m)
def SD(l:List bn):auN:=xd n l n 0
def Ei(o:Outcome):auN:=cond (decide (o.Status=1)) (Option.bind (cond (decide (o.Code=0)) (SD n o.Out) (some default)) λr2=>some (cond (decide (o.Code=0)) r2 false)) (some (cond (cond (cond (decide (o.Status=2)) (decide (0≤o.Code)) false) (decide (o.Code≤1009)) false) (decide (((o.Out.length:Nat):Int)=0)) false))
def Ej(n:Nat)(next:Int):auO:=some (cond (decide ((auL (next-1))<8)) (auL (next-1)) 8)
def SE(n:Nat):auN:=some true
def KA(s:bG)(aj:Int→auN)(v6:Int):auN:=cond (decide (v6<((s.dn.length:Nat):Int))) (ar (aN v6 s.dn.length)<|Option.bind (cond (!(cond (!decide ((auM s.dn v6).Client=s.Client)) true (!decide ((auM s.dn v6).Seq=(auL (s.Next-(auL (((s.dn.length:Nat):Int)-v6)))))))) (Ei n (⟨((auM s.dn v6).Outcome).Status,((auM s.dn v6).Outcome).Code,((auM s.dn v6).Outcome).Out⟩:Outcome)) (some default)) λcg=>cond (cond (cond (!decide ((auM s.dn v6).Client=s.Client)) true (!decide ((auM s.dn v6).Seq=(auL (s.Next-(auL (((s.dn.length:Nat):Int)-v6))))))) true (!cg)) (some false) (aj (auL (v6+1)))) (SE n)
def Ay(n:Nat)(s:bG):Nat→Int→auN
 | 0=>λ_=>none
 |m+1=>KA n s (Ay n s m)
def KB(s:bG):auN:=Option.bind (cond (!(cond (cond (cond (decide (s.Client<1)) true (decide (32<s.Client))) true (decide (s.Next<1))) true (decide (1099511627776<s.Next)))) (Ej n s.Next) (some default)) λr1=>cond (cond (cond (cond (cond (decide (s.Client<1)) true (decide (32<s.Client))) true (decide (s.Next<1))) true (decide (1099511627776<s.Next))) true (!decide (((s.dn.length:Nat):Int)=r1))) (some false) (Ay n s n 0)
def SF(n:Nat):auN:=some true
def KC(l:List bG)(aj:Int→auN)(v6:Int):auN:=cond (decide (v6<((l.length:Nat):Int))) (ar (aN v6 l.length)<|(KB n (auM l v6)).bind λcg=>ar ((!cg)||(!(decide (0<v6))||aN v6 l.length))<|ar ((!cg)||(!(decide (0<v6))||aN (auL (v6-1)) l.length))<|cond (cond (!cg) true (cond (decide (0<v6)) (decide ((auM l v6).Client≤(auM l (auL (v6-1))).Client)) false)) (some false) (aj (auL (v6+1)))) (SF n)
def Az(n:Nat)(l:List bG):Nat→Int→auN
 | 0=>λ_=>none
 |m+1=>KC n l (Az n l m)
def Ek(l:List bG):auN:=Az n l n 0
def SG(n:Nat):Option (List auJ):=some ([([112,114,111,99]:auJ),([108,101,116]:auJ),([112,117,116]:auJ),([100,101,108,101,116,101]:auJ),([105,102]:auJ),([101,108,115,101]:auJ),([102,111,114]:auJ),([116,111]:auJ),([109,97,120]:auJ),([101,109,105,116]:auJ),([97,98,111,114,116]:auJ),([110,111,116]:auJ),([97,110,100]:auJ),([111,114]:auJ),([105,110,116]:auJ),([115,116,114]:auJ),([98,111,111,108]:auJ),([116,101,120,116]:auJ),([108,101,110]:auJ),([103,101,116,105,110,116]:auJ),([103,101,116,115,116,114]:auJ),([104,97,115]:auJ),([110,111,119]:auJ),([114,97,110,100,111,109]:auJ),([110,111,100,101]:auJ)]:List auJ)
def SH(n:Nat):auN:=some false
def SI(l:List auJ)(s:auJ)(aj:Int→auN)(v3:Int):auN:=cond (decide (v3<((l.length:Nat):Int))) (ar (aN v3 l.length)<|cond (decide ((auM l v3)=s)) (some true) (aj (auL (v3+1)))) (SH n)
def El(n:Nat)(l:List auJ)(s:auJ):Nat→Int→auN
 | 0=>λ_=>none
 |m+1=>SI n l s (El n l s m)
def SJ(l:List auJ)(s:auJ):auN:=El n l s n 0
def Em(s:auJ):auN:=(SG n).bind λr1=>(SJ n r1 s).bind λr2=>some r2
def AA(n:Nat)(c:Int):auN:=some (cond (decide (97≤c)) (decide (c≤122)) false)
def SK(n:Nat)(c:Int):auN:=some (cond (decide (48≤c)) (decide (c≤57)) false)
def En(c:Int):auN:=(AA n c).bind λr1=>Option.bind (cond (!r1) (SK n c) (some default)) λr2=>some (cond (cond r1 true r2) true (decide (c=95)))
def SL(n:Nat)(bf:Int):auO:=some bf
def SM(s:auJ)(aj:Int→auO)(v4:Int):auO:=ar (!(decide (v4<((s.length:Nat):Int)))||aN v4 s.length)<|Option.bind (cond (decide (v4<((s.length:Nat):Int))) (En n (((s.getD (v4).toNat 0).toNat:Nat):Int)) (some default)) λaU=>cond (cond (decide (v4<((s.length:Nat):Int))) aU false) (aj (auL (v4+1))) (SL n v4)
def Eo(n:Nat)(s:auJ):Nat→Int→auO
 | 0=>λ_=>none
 |m+1=>SM n s (Eo n s m)
def KD(s:auJ)(at_:Int):auO:=Eo n s n at_
def s6(s:auJ):auN:=ar (!(cond (decide (1≤((s.length:Nat):Int))) (decide (((s.length:Nat):Int)≤16)) false)||aN 0 s.length)<|Option.bind (cond (cond (decide (1≤((s.length:Nat):Int))) (decide (((s.length:Nat):Int)≤16)) false) (AA n (((s.getD 0 0).toNat:Nat):Int)) (some default)) λr2=>Option.bind (cond (cond (cond (decide (1≤((s.length:Nat):Int))) (decide (((s.length:Nat):Int)≤16)) false) r2 false) (KD n s 0) (some default)) λr3=>Option.bind (cond (cond (cond (cond (decide (1≤((s.length:Nat):Int))) (decide (((s.length:Nat):Int)≤16)) false) r2 false) (decide (r3=((s.length:Nat):Int))) false) (Em n s) (some default)) λaB=>some (cond (cond (cond (cond (decide (1≤((s.length:Nat):Int))) (decide (((s.length:Nat):Int)≤16)) false) r2 false) (decide (r3=((s.length:Nat):Int))) false) (!aB) false)
def s7(n:Nat)(e:Expr):auN:=some (cond (cond (cond (decide (e.Op=0)) (decide (e.N=0)) false) (decide (e.S=([]:auJ))) false) (decide (((e.an.length:Nat):Int)=0)) false)
def SN(n:Nat)(nO:(List cJ)→Expr→Bool→Option (List cJ))(cD:List cJ):Option (List cJ):=some cD
def SO(nO:(List cJ)→Expr→Bool→Option (List cJ))(e:Expr)(aj:(List cJ)→Int→Option (List cJ))(bE:List cJ)(bf:Int):Option (List cJ):=cond (cond (decide (bf<((e.an.length:Nat):Int))) (decide (((bE.length:Nat):Int)≤400)) false) (ar (aN bf e.an.length)<|(nO bE (auM e.an bf) false).bind λdd=>aj dd (auL (bf+1))) (SN n nO bE)
def Ep(n:Nat)(nO:(List cJ)→Expr→Bool→Option (List cJ))(e:Expr):Nat→(List cJ)→Int→Option (List cJ)
 | 0=>λ_ _=>none
 |m+1=>SO n nO e (Ep n nO e m)
def SP(nO:(List cJ)→Expr→Bool→Option (List cJ))(out:List cJ)(e:Expr)(root:Bool):Option (List cJ):=cond (decide (400<((out.length:Nat):Int))) (some out) (ar (room (out.length+([(⟨false,⟨0,[],0,⟨0,0,[],[]⟩,⟨0,0,[],[]⟩,[],[]⟩,0,e,root⟩:cJ)]:List cJ).length) 272)<|Ep n nO e n (out++([(⟨false,⟨0,[],0,⟨0,0,[],[]⟩,⟨0,0,[],[]⟩,[],[]⟩,0,e,root⟩:cJ)]:List cJ)) 0)
def s8:Nat→(List cJ)→Expr→Bool→Option (List cJ)
 | 0=>λ_ _ _=>none
 |m+1=>SP m (s8 m)
def SQ(n:Nat)(iO:(List cJ)→(List Stmt)→Int→Option (List cJ))(kG:List cJ):Option (List cJ):=some kG
def SR(n:Nat)(iO:(List cJ)→(List Stmt)→Int→Option (List cJ))(aj:(List cJ)→Int→Option (List cJ))(l:List Stmt)(depth:Int)(v21:Int)(iN:List cJ):Option (List cJ):=aj iN (auL (v21+1))
def KE(iO:(List cJ)→(List Stmt)→Int→Option (List cJ))(aj:(List cJ)→Int→Option (List cJ))(l:List Stmt)(depth:Int)(v21:Int)(sO:List cJ):Option (List cJ):=ar (aN v21 l.length)<|(iO sO ((auM l v21).Body) (auL (depth+1))).bind λlz=>ar (aN v21 l.length)<|(iO lz ((auM l v21).bK) (auL (depth+1))).bind λoH=>SR n iO aj l depth v21 oH
def KF(iO:(List cJ)→(List Stmt)→Int→Option (List cJ))(aj:(List cJ)→Int→Option (List cJ))(l:List Stmt)(depth:Int)(v21:Int)(v28:List cJ):Option (List cJ):=ar (aN v21 l.length)<|(s7 n ((auM l v21).B)).bind λh9=>cond (!h9) (ar (aN v21 l.length)<|(s8 n v28 ((auM l v21).B) true).bind λmI=>KE n iO aj l depth v21 mI) (KE n iO aj l depth v21 v28)
def SS(iO:(List cJ)→(List Stmt)→Int→Option (List cJ))(l:List Stmt)(depth:Int)(aj:(List cJ)→Int→Option (List cJ))(v20:List cJ)(v21:Int):Option (List cJ):=cond (cond (decide (v21<((l.length:Nat):Int))) (decide (((v20.length:Nat):Int)≤400)) false) (ar (aN v21 l.length)<|ar (room (v20.length+([(⟨true,⟨(auM l v21).Op,(auM l v21).Name,(auM l v21).Max,⟨((auM l v21).A).Op,((auM l v21).A).N,((auM l v21).A).S,((auM l v21).A).an⟩,⟨((auM l v21).B).Op,((auM l v21).B).N,((auM l v21).B).S,((auM l v21).B).an⟩,(auM l v21).Body,(auM l v21).bK⟩,depth,⟨0,0,[],[]⟩,false⟩:cJ)]:List cJ).length) 272)<|ar (aN v21 l.length)<|(s7 n ((auM l v21).A)).bind λfJ=>cond (!fJ) (ar (aN v21 l.length)<|(s8 n (v20++([(⟨true,⟨(auM l v21).Op,(auM l v21).Name,(auM l v21).Max,⟨((auM l v21).A).Op,((auM l v21).A).N,((auM l v21).A).S,((auM l v21).A).an⟩,⟨((auM l v21).B).Op,((auM l v21).B).N,((auM l v21).B).S,((auM l v21).B).an⟩,(auM l v21).Body,(auM l v21).bK⟩,depth,⟨0,0,[],[]⟩,false⟩:cJ)]:List cJ)) ((auM l v21).A) true).bind λr27=>KF n iO aj l depth v21 r27) (KF n iO aj l depth v21 (v20++([(⟨true,⟨(auM l v21).Op,(auM l v21).Name,(auM l v21).Max,⟨((auM l v21).A).Op,((auM l v21).A).N,((auM l v21).A).S,((auM l v21).A).an⟩,⟨((auM l v21).B).Op,((auM l v21).B).N,((auM l v21).B).S,((auM l v21).B).an⟩,(auM l v21).Body,(auM l v21).bK⟩,depth,⟨0,0,[],[]⟩,false⟩:cJ)]:List cJ)))) (SQ n iO v20)
def uG(n:Nat)(iO:(List cJ)→(List Stmt)→Int→Option (List cJ))(l:List Stmt)(depth:Int):Nat→(List cJ)→Int→Option (List cJ)
 | 0=>λ_ _=>none
 |m+1=>SS n iO l depth (uG n iO l depth m)
def ST(iO:(List cJ)→(List Stmt)→Int→Option (List cJ))(out:List cJ)(l:List Stmt)(depth:Int):Option (List cJ):=uG n iO l depth n out 0
def na:Nat→(List cJ)→(List Stmt)→Int→Option (List cJ)
 | 0=>λ_ _ _=>none
 |m+1=>ST m (na m)
def SU(p:be):Option (List cJ):=(na n ([]:List cJ) p.Body 1).bind λr1=>some r1
def SV(n:Nat):auO:=some 0
def SW(n:Nat)(aj:Int→auO)(l:List Param)(bI:Int):auO:=aj (auL (bI+1))
def SX(aj:Int→auO)(l:List Param)(bI:Int)(gw:Int→auO)(v22:Int):auO:=cond (decide (v22<bI)) (ar (aN v22 l.length)<|ar (aN bI l.length)<|cond (decide (((auM l v22).Name)=((auM l bI).Name))) (some 8) (gw (auL (v22+1)))) (SW n aj l bI)
def AB(n:Nat)(aj:Int→auO)(l:List Param)(bI:Int):Nat→Int→auO
 | 0=>λ_=>none
 |m+1=>SX n aj l bI (AB n aj l bI m)
def SY(l:List Param)(aj:Int→auO)(bI:Int):auO:=cond (decide (bI<((l.length:Nat):Int))) (ar (aN bI l.length)<|(s6 n ((auM l bI).Name)).bind λcC=>cond (!cC) (some 7) (ar (aN bI l.length)<|ar ((decide ((auM l bI).f'<1))||aN bI l.length)<|cond (cond (decide ((auM l bI).f'<1)) true (decide (3<(auM l bI).f'))) (some 10) (AB n aj l bI n 0))) (SV n)
def uH(n:Nat)(l:List Param):Nat→Int→auO
 | 0=>λ_=>none
 |m+1=>SY n l (uH n l m)
def KG(l:List Param):auO:=cond (decide (6<((l.length:Nat):Int))) (some 2) (uH n l n 0)
def SZ(n:Nat)(op:Int):auO:=cond (cond (decide (4≤op)) (decide (op≤19)) false) (some 2) (some (-1))
def s9(op:Int)(v2:Bool):auO:=cond v2 (some 1) (SZ n op)
def uI(op:Int)(v1:Bool):auO:=cond v1 (some 0) (cond (decide (op=9)) (s9 n op (decide (op=9))) (cond (decide (op=18)) (s9 n op (decide (op=18))) (cond (decide (op=20)) (s9 n op (decide (op=20))) (cond (decide (op=21)) (s9 n op (decide (op=21))) (cond (decide (op=22)) (s9 n op (decide (op=22))) (cond (decide (op=23)) (s9 n op (decide (op=23))) (s9 n op (decide (op=24)))))))))
def Er(op:Int):auO:=cond (decide (op=1)) (uI n op (decide (op=1))) (cond (decide (op=2)) (uI n op (decide (op=2))) (cond (decide (op=3)) (uI n op (decide (op=3))) (cond (decide (op=25)) (uI n op (decide (op=25))) (cond (decide (op=26)) (uI n op (decide (op=26))) (uI n op (decide (op=27)))))))
def S0(n:Nat):auN:=some true
def S1(s:auJ)(aj:Int→auN)(v5:Int):auN:=cond (decide (v5<((s.length:Nat):Int))) (ar (aN v5 s.length)<|ar ((decide ((((s.getD (v5).toNat 0).toNat:Nat):Int)<32))||aN v5 s.length)<|cond (cond (decide ((((s.getD (v5).toNat 0).toNat:Nat):Int)<32)) true (decide (126<(((s.getD (v5).toNat 0).toNat:Nat):Int)))) (some false) (aj (auL (v5+1)))) (S0 n)
def Es(n:Nat)(s:auJ):Nat→Int→auN
 | 0=>λ_=>none
 |m+1=>S1 n s (Es n s m)
def KH(s:auJ):auN:=cond (decide (64<((s.length:Nat):Int))) (some false) (Es n s n 0)
def KI(e:Expr)(depth:Int):auO:=(Er n e.Op).bind λr1=>cond (cond (cond (decide (r1<0)) true (cond (!decide (e.Op=1)) (!decide (e.N=0)) false)) true (cond (cond (!decide (e.Op=2)) (!decide (e.Op=3)) false) (!(decide (e.S=([]:auJ)))) false)) (some 1) (Option.bind (cond (decide (e.Op=3)) (s6 n e.S) (some default)) λr3=>cond (cond (decide (e.Op=3)) (!r3) false) (some 7) (Option.bind (cond ((!(decide (e.N<0)))&&(decide (e.Op=2))) (KH n e.S) (some default)) λbu=>Option.bind (cond (!(cond (decide (e.N<0)) true (cond (decide (e.Op=2)) (!bu) false))) (Er n e.Op) (some default)) λaU=>cond (cond (cond (decide (e.N<0)) true (cond (decide (e.Op=2)) (!bu) false)) true (!decide (((e.an.length:Nat):Int)=aU))) (some 1) (cond (decide (12<depth)) (some 2) (some 0))))
def S2(n:Nat)(nP:Expr→Int→auO):auO:=some 0
def S3(nP:Expr→Int→auO)(depth:Int)(e:Expr)(aj:Int→auO)(v6:Int):auO:=cond (decide (v6<((e.an.length:Nat):Int))) (ar (aN v6 e.an.length)<|(nP (auM e.an v6) (auL (depth+1))).bind λcg=>cond (!decide (cg=0)) (some cg) (aj (auL (v6+1)))) (S2 n nP)
def Et(n:Nat)(nP:Expr→Int→auO)(depth:Int)(e:Expr):Nat→Int→auO
 | 0=>λ_=>none
 |m+1=>S3 n nP depth e (Et n nP depth e m)
def S4(nP:Expr→Int→auO)(e:Expr)(depth:Int):auO:=(KI n e depth).bind λr1=>cond (!decide (r1=0)) (some r1) (Et n nP depth e n 0)
def AC:Nat→Expr→Int→auO
 | 0=>λ_ _=>none
 |m+1=>S4 m (AC m)
def Eu(e:Expr):auO:=(AC n e 1).bind λr1=>some r1
def S5(n:Nat):Option (Bool×Bool×Bool×Bool×Bool×Bool):=some (false,true,false,false,false,false)
def KJ(op:Int)(v2:Bool):Option (Bool×Bool×Bool×Bool×Bool×Bool):=cond v2 (some (false,false,true,false,false,false)) (cond (decide (op=5)) (some (false,false,true,false,true,true)) (cond (decide (op=6)) (some (true,true,true,true,true,false)) (S5 n)))
def KK(op:Int)(v1:Bool):Option (Bool×Bool×Bool×Bool×Bool×Bool):=cond v1 (some (true,false,true,false,false,false)) (cond (decide (op=3)) (some (false,false,true,true,false,false)) (cond (decide (op=4)) (KJ n op (decide (op=4))) (KJ n op (decide (op=7)))))
def Ev(op:Int):Option (Bool×Bool×Bool×Bool×Bool×Bool):=cond (decide (op=1)) (KK n op (decide (op=1))) (KK n op (decide (op=2)))
def KL(n:Nat)(depth:Int):auO:=cond (decide (12<depth)) (some 2) (some 0)
def KM(depth:Int)(r1:Bool×Bool×Bool×Bool×Bool×Bool)(s:Stmt):auO:=cond r1.2.2.2.1 ((Eu n (⟨s.B.Op,s.B.N,s.B.S,s.B.an⟩:Expr)).bind λb9=>cond (!decide (b9=0)) (some b9) (KL n depth)) (KL n depth)
def KN(s:Stmt)(depth:Int):auO:=(Ev n s.Op).bind λr1=>Option.bind (cond ((!(cond (cond (cond (decide (s.Op<1)) true (decide (8<s.Op))) true (cond (!r1.1) (!(decide (s.Name=([]:auJ)))) false)) true (cond (!r1.2.1) (!decide (s.Max=0)) false)))&&(!r1.2.2.1)) (s7 n (⟨s.A.Op,s.A.N,s.A.S,s.A.an⟩:Expr)) (some default)) λr2=>Option.bind (cond ((!(cond (cond (cond (cond (decide (s.Op<1)) true (decide (8<s.Op))) true (cond (!r1.1) (!(decide (s.Name=([]:auJ)))) false)) true (cond (!r1.2.1) (!decide (s.Max=0)) false)) true (cond (!r1.2.2.1) (!r2) false)))&&(!r1.2.2.2.1)) (s7 n (⟨s.B.Op,s.B.N,s.B.S,s.B.an⟩:Expr)) (some default)) λr3=>cond (cond (cond (cond (cond (cond (cond (cond (decide (s.Op<1)) true (decide (8<s.Op))) true (cond (!r1.1) (!(decide (s.Name=([]:auJ)))) false)) true (cond (!r1.2.1) (!decide (s.Max=0)) false)) true (cond (!r1.2.2.1) (!r2) false)) true (cond (!r1.2.2.2.1) (!r3) false)) true (cond (!r1.2.2.2.2.1) (decide (0<((s.Body.length:Nat):Int))) false)) true (cond (!r1.2.2.2.2.2) (decide (0<((s.bK.length:Nat):Int))) false)) (some 1) (cond (cond (cond (decide (s.Op=6)) (cond (decide (s.Max<1)) true (decide (16<s.Max))) false) true (cond (decide (s.Op=8)) (cond (decide (s.Max<0)) true (decide (999<s.Max))) false)) (some 1) (Option.bind (cond r1.1 (s6 n s.Name) (some default)) λaU=>cond (cond r1.1 (!aU) false) (some 7) (cond r1.2.2.1 ((Eu n (⟨s.A.Op,s.A.N,s.A.S,s.A.an⟩:Expr)).bind λcg=>cond (!decide (cg=0)) (some cg) (KM n depth r1 s)) (KM n depth r1 s))))
def S6(n:Nat)(bu:(List cJ)):auO:=cond (decide (400<((bu.length:Nat):Int))) (some 2) (some 0)
def KO(n:Nat)(aj:Int→auO)(bu:(List cJ))(v11:Int):auO:=aj (auL (v11+1))
def S7(bu:(List cJ))(aj:Int→auO)(v11:Int):auO:=cond (decide (v11<((bu.length:Nat):Int))) (ar (aN v11 bu.length)<|cond ((auM bu v11).qq) (ar (aN v11 bu.length)<|ar (aN v11 bu.length)<|(KN n ((auM bu v11).Stmt) ((auM bu v11).C5)).bind λdi=>cond (!decide (di=0)) (some di) (KO n aj bu v11)) (KO n aj bu v11)) (S6 n bu)
def AD(n:Nat)(bu:(List cJ)):Nat→Int→auO
 | 0=>λ_=>none
 |m+1=>S7 n bu (AD n bu m)
def Ew(p:be):auO:=(s6 n p.Name).bind λr1=>cond (!r1) (some 7) ((KG n p.Params).bind λr3=>cond (!decide (r3=0)) (some r3) ((SU n p).bind λbu=>AD n bu n 0))
def S8(n:Nat)(a:Int):auO:=cond (decide (a<0)) (some (IntKind.u64.wrap (0-(IntKind.u64.wrap a)))) (some (IntKind.u64.wrap a))
def Ex(n:Nat)(cX:Int)(v12:auJ):Option auJ:=cond (decide (cX<0)) (ar (cq (([45]:auJ).length+v12.length))<|some (([45]:auJ)++v12)) (some v12)
def s'(cX:Int)(aj:Int→auJ→Option auJ)(v6:Int)(bE:auJ):Option auJ:=cond (cond (decide (0<v6)) true (decide (bE=([]:auJ)))) (ar (nz ([(IntKind.u8.wrap (IntKind.u64.wrap (48+(Int.tmod v6 10))))]:List Int))<|ar (cq ((kf ([(IntKind.u8.wrap (IntKind.u64.wrap (48+(Int.tmod v6 10))))]:List Int)).length+bE.length))<|aj (IntKind.u64.wrap (Int.tdiv v6 10)) ((kf ([(IntKind.u8.wrap (IntKind.u64.wrap (48+(Int.tmod v6 10))))]:List Int))++bE)) (Ex n cX bE)
def qz(n:Nat)(cX:Int):Nat→Int→auJ→Option auJ
 | 0=>λ_ _=>none
 |m+1=>s' n cX (qz n cX m)
def xe(cX:Int):Option auJ:=(S8 n cX).bind λr1=>qz n cX n r1 ([]:auJ)
def S9(n:Nat)(v9:auJ):Option auJ:=some v9
def S'(depth:Int)(aj:auJ→Int→Option auJ)(v4:auJ)(v5:Int):Option auJ:=cond (decide (v5<depth)) (ar (cq (v4.length+([32,32,32,32]:auJ).length))<|aj (v4++([32,32,32,32]:auJ)) (auL (v5+1))) (S9 n v4)
def Ey(n:Nat)(depth:Int):Nat→auJ→Int→Option auJ
 | 0=>λ_ _=>none
 |m+1=>S' n depth (Ey n depth m)
def S_(depth:Int):Option auJ:=Ey n depth n ([]:auJ) 0
def Ta(n:Nat):auN:=some true
def Tb(s:auJ)(aj:Int→auN)(v4:Int):auN:=cond (decide (v4<((s.length:Nat):Int))) (ar (aN v4 s.length)<|ar ((decide ((((s.getD (v4).toNat 0).toNat:Nat):Int)<32))||aN v4 s.length)<|cond (cond (decide ((((s.getD (v4).toNat 0).toNat:Nat):Int)<32)) true (decide (126<(((s.getD (v4).toNat 0).toNat:Nat):Int)))) (some false) (aj (auL (v4+1)))) (Ta n)
def AE(n:Nat)(s:auJ):Nat→Int→auN
 | 0=>λ_=>none
 |m+1=>Tb n s (AE n s m)
def Tc(s:auJ):auN:=AE n s n 0
def Td(n:Nat)(v24:auJ):Option (auJ×Int):=ar (cq (v24.length+([34]:auJ).length))<|some ((v24++([34]:auJ)),0)
def Te(n:Nat)(aj:auJ→Int→Option (auJ×Int))(s:auJ)(bI:Int)(v21:auJ):Option (auJ×Int):=aj v21 (auL (bI+1))
def KP(aj:auJ→Int→Option (auJ×Int))(s:auJ)(bI:Int)(bQ:auJ):Option (auJ×Int):=ar (lF bI (auL (bI+1)) s.length)<|ar (cq (bQ.length+((s.take ((auL (bI+1))).toNat).drop (bI).toNat).length))<|Te n aj s bI (bQ++((s.take ((auL (bI+1))).toNat).drop (bI).toNat))
def Tf(s:auJ)(aj:auJ→Int→Option (auJ×Int))(cD:auJ)(bI:Int):Option (auJ×Int):=cond (decide (bI<((s.length:Nat):Int))) (ar (aN bI s.length)<|ar ((decide ((((s.getD (bI).toNat 0).toNat:Nat):Int)=34))||aN bI s.length)<|cond (cond (decide ((((s.getD (bI).toNat 0).toNat:Nat):Int)=34)) true (decide ((((s.getD (bI).toNat 0).toNat:Nat):Int)=92))) (ar (cq (cD.length+([92]:auJ).length))<|KP n aj s bI (cD++([92]:auJ))) (KP n aj s bI cD)) (Td n cD)
def Ez(n:Nat)(s:auJ):Nat→auJ→Int→Option (auJ×Int)
 | 0=>λ_ _=>none
 |m+1=>Tf n s (Ez n s m)
def KQ(s:auJ):Option (auJ×Int):=cond (decide (64<((s.length:Nat):Int))) (some (([]:auJ),2)) ((Tc n s).bind λr2=>cond (!r2) (some (([]:auJ),1)) (Ez n s n ([34]:auJ) 0))
def aaQ(n:Nat):auO:=some 9
def KR(op:Int)(v3:Bool):auO:=cond v3 (some 7) (cond (decide (op=9)) (some 8) (aaQ n))
def Tg(op:Int)(v2:Bool):auO:=cond v2 (some 6) (cond (decide (op=6)) (KR n op (decide (op=6))) (cond (decide (op=7)) (KR n op (decide (op=7))) (KR n op (decide (op=8)))))
def xf(op:Int)(v1:Bool):auO:=cond v1 (some 4) (cond (decide (op=19)) (some 5) (cond (decide (op=4)) (Tg n op (decide (op=4))) (Tg n op (decide (op=5)))))
def KS(op:Int):auO:=cond (decide (op=17)) (some 1) (cond (decide (op=16)) (some 2) (cond (decide (op=18)) (some 3) (cond (decide (op=10)) (xf n op (decide (op=10))) (cond (decide (op=11)) (xf n op (decide (op=11))) (cond (decide (op=12)) (xf n op (decide (op=12))) (cond (decide (op=13)) (xf n op (decide (op=13))) (cond (decide (op=14)) (xf n op (decide (op=14))) (xf n op (decide (op=15))))))))))
def KT(n:Nat)(op:Int):Option auJ:=cond (decide (op=17)) (some ([111,114]:auJ)) (cond (decide (op=16)) (some ([97,110,100]:auJ)) (cond (decide (op=10)) (some ([61,61]:auJ)) (cond (decide (op=11)) (some ([33,61]:auJ)) (cond (decide (op=12)) (some ([60]:auJ)) (cond (decide (op=13)) (some ([60,61]:auJ)) (cond (decide (op=14)) (some ([62]:auJ)) (cond (decide (op=15)) (some ([62,61]:auJ)) (cond (decide (op=19)) (some ([43,43]:auJ)) (cond (decide (op=4)) (some ([43]:auJ)) (cond (decide (op=5)) (some ([45]:auJ)) (cond (decide (op=6)) (some ([42]:auJ)) (cond (decide (op=7)) (some ([47]:auJ)) (some ([37]:auJ))))))))))))))
def KU(n:Nat)(op:Int):Option auJ:=cond (decide (op=20)) (some ([116,101,120,116]:auJ)) (cond (decide (op=21)) (some ([108,101,110]:auJ)) (cond (decide (op=22)) (some ([103,101,116,105,110,116]:auJ)) (cond (decide (op=23)) (some ([103,101,116,115,116,114]:auJ)) (cond (decide (op=24)) (some ([104,97,115]:auJ)) (cond (decide (op=25)) (some ([110,111,119]:auJ)) (cond (decide (op=26)) (some ([114,97,110,100,111,109]:auJ)) (some ([110,111,100,101]:auJ))))))))
def KV(rK:Expr→Option auJ)(oI:Expr→Int→Option auJ)(e:Expr):Option auJ:=(KS n e.Op).bind λr1=>cond (decide (e.Op=1)) ((xe n e.N).bind λr3=>some r3) (cond (decide (e.Op=2)) ((KQ n e.S).bind λbu=>some bu.1) (cond (decide (e.Op=3)) (some e.S) (cond (decide (e.Op=18)) (ar (aN 0 e.an.length)<|(oI (e.an.getD 0 default) r1).bind λb9=>ar (cq (([110,111,116,32]:auJ).length+b9.length))<|some (([110,111,116,32]:auJ)++b9)) (cond (decide (e.Op=9)) (ar (aN 0 e.an.length)<|(oI (e.an.getD 0 default) r1).bind λcu=>ar (cq (([45]:auJ).length+cu.length))<|some (([45]:auJ)++cu)) (cond (cond (decide (r1=9)) (decide (((e.an.length:Nat):Int)=0)) false) ((KU n e.Op).bind λcC=>ar (cq (cC.length+([40,41]:auJ).length))<|some (cC++([40,41]:auJ))) (cond (decide (r1=9)) ((KU n e.Op).bind λfh=>ar (cq (fh.length+([40]:auJ).length))<|ar (aN 0 e.an.length)<|(rK (e.an.getD 0 default)).bind λdr=>ar (cq ((fh++([40]:auJ)).length+dr.length))<|ar (cq (((fh++([40]:auJ))++dr).length+([41]:auJ).length))<|some (((fh++([40]:auJ))++dr)++([41]:auJ))) (cond (decide (r1=4)) (ar (aN 0 e.an.length)<|(oI (e.an.getD 0 default) 5).bind λr27=>ar (cq (r27.length+([32]:auJ).length))<|(KT n e.Op).bind λfK=>ar (cq ((r27++([32]:auJ)).length+fK.length))<|ar (cq (((r27++([32]:auJ))++fK).length+([32]:auJ).length))<|ar (aN 1 e.an.length)<|(oI (e.an.getD 1 default) 5).bind λnE=>ar (cq ((((r27++([32]:auJ))++fK)++([32]:auJ)).length+nE.length))<|some ((((r27++([32]:auJ))++fK)++([32]:auJ))++nE)) (ar (aN 0 e.an.length)<|(oI (e.an.getD 0 default) r1).bind λoB=>ar (cq (oB.length+([32]:auJ).length))<|(KT n e.Op).bind λqu=>ar (cq ((oB++([32]:auJ)).length+qu.length))<|ar (cq (((oB++([32]:auJ))++qu).length+([32]:auJ).length))<|ar (aN 1 e.an.length)<|(oI (e.an.getD 1 default) (auL (r1+1))).bind λiE=>ar (cq ((((oB++([32]:auJ))++qu)++([32]:auJ)).length+iE.length))<|some ((((oB++([32]:auJ))++qu)++([32]:auJ))++iE)))))))))
def KW(rK:Expr→Option auJ)(oI:Expr→Int→Option auJ)(e:Expr)(least:Int):Option auJ:=(KS n e.Op).bind λr1=>cond (decide (r1<least)) ((rK e).bind λr3=>ar (cq (([40]:auJ).length+r3.length))<|ar (cq ((([40]:auJ)++r3).length+([41]:auJ).length))<|some ((([40]:auJ)++r3)++([41]:auJ))) ((rK e).bind λaU=>some aU)
def AF:Nat→(Expr→Option auJ)×(Expr→Int→Option auJ)
 | 0=>(λ_=>none,λ_ _=>none)
 |m+1=>(KV m ((AF m).1) ((AF m).2),KW m ((AF m).1) ((AF m).2))
def lA:Expr→Option auJ:=(AF n).1
def xg:Expr→Int→Option auJ:=(AF n).2
def Th(n:Nat)(jA:(List Stmt)→Int→Option auJ)(ki:Stmt→Int→Option auJ)(cD:auJ):Option auJ:=some cD
def Ti(jA:(List Stmt)→Int→Option auJ)(ki:Stmt→Int→Option auJ)(l:List Stmt)(depth:Int)(aj:auJ→Int→Option auJ)(v6:auJ)(bE:Int):Option auJ:=cond (decide (bE<((l.length:Nat):Int))) (ar (aN bE l.length)<|(ki (auM l bE) depth).bind λb9=>ar (cq (v6.length+b9.length))<|aj (v6++b9) (auL (bE+1))) (Th n jA ki v6)
def EA(n:Nat)(jA:(List Stmt)→Int→Option auJ)(ki:Stmt→Int→Option auJ)(l:List Stmt)(depth:Int):Nat→auJ→Int→Option auJ
 | 0=>λ_ _=>none
 |m+1=>Ti n jA ki l depth (EA n jA ki l depth m)
def KX(jA:(List Stmt)→Int→Option auJ)(ki:Stmt→Int→Option auJ)(l:List Stmt)(depth:Int):Option auJ:=EA n jA ki l depth n ([]:auJ) 0
def EB(n:Nat)(jA:(List Stmt)→Int→Option auJ)(ki:Stmt→Int→Option auJ)(EC:auJ):Option auJ:=ar (cq (EC.length+([10]:auJ).length))<|some (EC++([10]:auJ))
def KY(jA:(List Stmt)→Int→Option auJ)(ki:Stmt→Int→Option auJ)(x:Stmt)(depth:Int):Option auJ:=(S_ n depth).bind λr1=>cond (decide (x.Op=1)) (ar (cq (r1.length+([108,101,116,32]:auJ).length))<|ar (cq ((r1++([108,101,116,32]:auJ)).length+x.Name.length))<|ar (cq (((r1++([108,101,116,32]:auJ))++x.Name).length+([32,61,32]:auJ).length))<|(lA n (⟨x.A.Op,x.A.N,x.A.S,x.A.an⟩:Expr)).bind λaU=>ar (cq ((((r1++([108,101,116,32]:auJ))++x.Name)++([32,61,32]:auJ)).length+aU.length))<|ar (cq (((((r1++([108,101,116,32]:auJ))++x.Name)++([32,61,32]:auJ))++aU).length+([59,10]:auJ).length))<|some (((((r1++([108,101,116,32]:auJ))++x.Name)++([32,61,32]:auJ))++aU)++([59,10]:auJ))) (cond (decide (x.Op=2)) (ar (cq (r1.length+x.Name.length))<|ar (cq ((r1++x.Name).length+([32,61,32]:auJ).length))<|(lA n (⟨x.A.Op,x.A.N,x.A.S,x.A.an⟩:Expr)).bind λaX=>ar (cq (((r1++x.Name)++([32,61,32]:auJ)).length+aX.length))<|ar (cq ((((r1++x.Name)++([32,61,32]:auJ))++aX).length+([59,10]:auJ).length))<|some ((((r1++x.Name)++([32,61,32]:auJ))++aX)++([59,10]:auJ))) (cond (decide (x.Op=3)) (ar (cq (r1.length+([112,117,116,32]:auJ).length))<|(lA n (⟨x.A.Op,x.A.N,x.A.S,x.A.an⟩:Expr)).bind λdB=>ar (cq ((r1++([112,117,116,32]:auJ)).length+dB.length))<|ar (cq (((r1++([112,117,116,32]:auJ))++dB).length+([32,61,32]:auJ).length))<|(lA n (⟨x.B.Op,x.B.N,x.B.S,x.B.an⟩:Expr)).bind λel=>ar (cq ((((r1++([112,117,116,32]:auJ))++dB)++([32,61,32]:auJ)).length+el.length))<|ar (cq (((((r1++([112,117,116,32]:auJ))++dB)++([32,61,32]:auJ))++el).length+([59,10]:auJ).length))<|some (((((r1++([112,117,116,32]:auJ))++dB)++([32,61,32]:auJ))++el)++([59,10]:auJ))) (cond (decide (x.Op=4)) (ar (cq (r1.length+([100,101,108,101,116,101,32]:auJ).length))<|(lA n (⟨x.A.Op,x.A.N,x.A.S,x.A.an⟩:Expr)).bind λfJ=>ar (cq ((r1++([100,101,108,101,116,101,32]:auJ)).length+fJ.length))<|ar (cq (((r1++([100,101,108,101,116,101,32]:auJ))++fJ).length+([59,10]:auJ).length))<|some (((r1++([100,101,108,101,116,101,32]:auJ))++fJ)++([59,10]:auJ))) (cond (decide (x.Op=7)) (ar (cq (r1.length+([101,109,105,116,32]:auJ).length))<|(lA n (⟨x.A.Op,x.A.N,x.A.S,x.A.an⟩:Expr)).bind λh9=>ar (cq ((r1++([101,109,105,116,32]:auJ)).length+h9.length))<|ar (cq (((r1++([101,109,105,116,32]:auJ))++h9).length+([59,10]:auJ).length))<|some (((r1++([101,109,105,116,32]:auJ))++h9)++([59,10]:auJ))) (cond (decide (x.Op=8)) (ar (cq (r1.length+([97,98,111,114,116,32]:auJ).length))<|(xe n x.Max).bind λlz=>ar (cq ((r1++([97,98,111,114,116,32]:auJ)).length+lz.length))<|ar (cq (((r1++([97,98,111,114,116,32]:auJ))++lz).length+([59,10]:auJ).length))<|some (((r1++([97,98,111,114,116,32]:auJ))++lz)++([59,10]:auJ))) (cond (decide (x.Op=6)) (ar (cq (r1.length+([102,111,114,32]:auJ).length))<|ar (cq ((r1++([102,111,114,32]:auJ)).length+x.Name.length))<|ar (cq (((r1++([102,111,114,32]:auJ))++x.Name).length+([32,61,32]:auJ).length))<|(lA n (⟨x.A.Op,x.A.N,x.A.S,x.A.an⟩:Expr)).bind λiE=>ar (cq ((((r1++([102,111,114,32]:auJ))++x.Name)++([32,61,32]:auJ)).length+iE.length))<|ar (cq (((((r1++([102,111,114,32]:auJ))++x.Name)++([32,61,32]:auJ))++iE).length+([32,116,111,32]:auJ).length))<|(lA n (⟨x.B.Op,x.B.N,x.B.S,x.B.an⟩:Expr)).bind λjz=>ar (cq ((((((r1++([102,111,114,32]:auJ))++x.Name)++([32,61,32]:auJ))++iE)++([32,116,111,32]:auJ)).length+jz.length))<|ar (cq (((((((r1++([102,111,114,32]:auJ))++x.Name)++([32,61,32]:auJ))++iE)++([32,116,111,32]:auJ))++jz).length+([32,109,97,120,32]:auJ).length))<|(xe n x.Max).bind λrG=>ar (cq ((((((((r1++([102,111,114,32]:auJ))++x.Name)++([32,61,32]:auJ))++iE)++([32,116,111,32]:auJ))++jz)++([32,109,97,120,32]:auJ)).length+rG.length))<|ar (cq (((((((((r1++([102,111,114,32]:auJ))++x.Name)++([32,61,32]:auJ))++iE)++([32,116,111,32]:auJ))++jz)++([32,109,97,120,32]:auJ))++rG).length+([32,123,10]:auJ).length))<|(jA x.Body (auL (depth+1))).bind λqx=>ar (cq ((((((((((r1++([102,111,114,32]:auJ))++x.Name)++([32,61,32]:auJ))++iE)++([32,116,111,32]:auJ))++jz)++([32,109,97,120,32]:auJ))++rG)++([32,123,10]:auJ)).length+qx.length))<|ar (cq (((((((((((r1++([102,111,114,32]:auJ))++x.Name)++([32,61,32]:auJ))++iE)++([32,116,111,32]:auJ))++jz)++([32,109,97,120,32]:auJ))++rG)++([32,123,10]:auJ))++qx).length+r1.length))<|ar (cq ((((((((((((r1++([102,111,114,32]:auJ))++x.Name)++([32,61,32]:auJ))++iE)++([32,116,111,32]:auJ))++jz)++([32,109,97,120,32]:auJ))++rG)++([32,123,10]:auJ))++qx)++r1).length+([125,10]:auJ).length))<|some ((((((((((((r1++([102,111,114,32]:auJ))++x.Name)++([32,61,32]:auJ))++iE)++([32,116,111,32]:auJ))++jz)++([32,109,97,120,32]:auJ))++rG)++([32,123,10]:auJ))++qx)++r1)++([125,10]:auJ))) (ar (cq (r1.length+([105,102,32]:auJ).length))<|(lA n (⟨x.A.Op,x.A.N,x.A.S,x.A.an⟩:Expr)).bind λfp=>ar (cq ((r1++([105,102,32]:auJ)).length+fp.length))<|ar (cq (((r1++([105,102,32]:auJ))++fp).length+([32,123,10]:auJ).length))<|(jA x.Body (auL (depth+1))).bind λnI=>ar (cq ((((r1++([105,102,32]:auJ))++fp)++([32,123,10]:auJ)).length+nI.length))<|ar (cq (((((r1++([105,102,32]:auJ))++fp)++([32,123,10]:auJ))++nI).length+r1.length))<|ar (cq ((((((r1++([105,102,32]:auJ))++fp)++([32,123,10]:auJ))++nI)++r1).length+([125]:auJ).length))<|cond (decide (0<((x.bK.length:Nat):Int))) (ar (cq (((((((r1++([105,102,32]:auJ))++fp)++([32,123,10]:auJ))++nI)++r1)++([125]:auJ)).length+([32,101,108,115,101,32,123,10]:auJ).length))<|(jA x.bK (auL (depth+1))).bind λk6=>ar (cq ((((((((r1++([105,102,32]:auJ))++fp)++([32,123,10]:auJ))++nI)++r1)++([125]:auJ))++([32,101,108,115,101,32,123,10]:auJ)).length+k6.length))<|ar (cq (((((((((r1++([105,102,32]:auJ))++fp)++([32,123,10]:auJ))++nI)++r1)++([125]:auJ))++([32,101,108,115,101,32,123,10]:auJ))++k6).length+r1.length))<|ar (cq ((((((((((r1++([105,102,32]:auJ))++fp)++([32,123,10]:auJ))++nI)++r1)++([125]:auJ))++([32,101,108,115,101,32,123,10]:auJ))++k6)++r1).length+([125]:auJ).length))<|EB n jA ki ((((((((((r1++([105,102,32]:auJ))++fp)++([32,123,10]:auJ))++nI)++r1)++([125]:auJ))++([32,101,108,115,101,32,123,10]:auJ))++k6)++r1)++([125]:auJ))) (EB n jA ki ((((((r1++([105,102,32]:auJ))++fp)++([32,123,10]:auJ))++nI)++r1)++([125]:auJ))))))))))
def AG:Nat→((List Stmt)→Int→Option auJ)×(Stmt→Int→Option auJ)
 | 0=>(λ_ _=>none,λ_ _=>none)
 |m+1=>(KX m ((AG m).1) ((AG m).2),KY m ((AG m).1) ((AG m).2))
def rL:(List Stmt)→Int→Option auJ:=(AG n).1
def AH:Stmt→Int→Option auJ:=(AG n).2
def Tj(n:Nat)(ty:Int):Option auJ:=cond (decide (ty=1)) (some ([105,110,116]:auJ)) (cond (decide (ty=2)) (some ([115,116,114]:auJ)) (some ([98,111,111,108]:auJ)))
def Tk(p:be)(jh:auJ):Option auJ:=ar (cq (jh.length+([41,32,123,10]:auJ).length))<|(rL n p.Body 1).bind λgb=>ar (cq ((jh++([41,32,123,10]:auJ)).length+gb.length))<|ar (cq (((jh++([41,32,123,10]:auJ))++gb).length+([125,10]:auJ).length))<|some (((jh++([41,32,123,10]:auJ))++gb)++([125,10]:auJ))
def Tl(n:Nat)(aj:auJ→Int→Option auJ)(aP:Int)(p:be)(v26:auJ):Option auJ:=aj v26 (auL (aP+1))
def KZ(aj:auJ→Int→Option auJ)(aP:Int)(p:be)(b6:auJ):Option auJ:=ar (aN aP p.Params.length)<|ar (cq (b6.length+((auM p.Params aP).Name).length))<|ar (cq ((b6++((auM p.Params aP).Name)).length+([58,32]:auJ).length))<|ar (aN aP p.Params.length)<|(Tj n ((auM p.Params aP).f')).bind λr24=>ar (cq (((b6++((auM p.Params aP).Name))++([58,32]:auJ)).length+r24.length))<|Tl n aj aP p (((b6++((auM p.Params aP).Name))++([58,32]:auJ))++r24)
def Tm(p:be)(aj:auJ→Int→Option auJ)(ck:auJ)(aP:Int):Option auJ:=cond (decide (aP<((p.Params.length:Nat):Int))) (cond (decide (0<aP)) (ar (cq (ck.length+([44,32]:auJ).length))<|KZ n aj aP p (ck++([44,32]:auJ))) (KZ n aj aP p ck)) (Tk n p ck)
def ED(n:Nat)(p:be):Nat→auJ→Int→Option auJ
 | 0=>λ_ _=>none
 |m+1=>Tm n p (ED n p m)
def xh(p:be):Option auJ:=(Ew n p).bind λr1=>cond (!decide (r1=0)) (some ([]:auJ)) (ar (cq (([112,114,111,99,32]:auJ).length+p.Name.length))<|ar (cq ((([112,114,111,99,32]:auJ)++p.Name).length+([40]:auJ).length))<|ED n p n ((([112,114,111,99,32]:auJ)++p.Name)++([40]:auJ)) 0)
def Tn(n:Nat)(l:List be):auN:=some (decide (((l.length:Nat):Int)≤16))
def K0(l:List be)(aj:Int→auN)(v6:Int):auN:=cond (decide (v6<((l.length:Nat):Int))) (ar (aN v6 l.length)<|(xh n (auM l v6)).bind λcg=>ar ((cond (decide (cg=([]:auJ))) true (decide (16384<((cg.length:Nat):Int))))||(!(decide (0<v6))||aN (auL (v6-1)) l.length))<|ar ((cond (decide (cg=([]:auJ))) true (decide (16384<((cg.length:Nat):Int))))||(!(decide (0<v6))||aN v6 l.length))<|cond (cond (cond (decide (cg=([]:auJ))) true (decide (16384<((cg.length:Nat):Int)))) true (cond (decide (0<v6)) (!(Op.bytesLess ((auM l (auL (v6-1))).Name) ((auM l v6).Name))) false)) (some false) (aj (auL (v6+1)))) (Tn n l)
def AI(n:Nat)(l:List be):Nat→Int→auN
 | 0=>λ_=>none
 |m+1=>K0 n l (AI n l m)
def K1(l:List be):auN:=AI n l n 0
def To(n:Nat):auN:=some true
def K2(l:List auJ)(aj:Int→auN)(v6:Int):auN:=cond (decide (v6<((l.length:Nat):Int))) (ar (aN v6 l.length)<|(w9 n (auM l v6)).bind λcg=>ar ((!cg)||(!(decide (0<v6))||aN (auL (v6-1)) l.length))<|ar ((!cg)||(!(decide (0<v6))||aN v6 l.length))<|cond (cond (!cg) true (cond (decide (0<v6)) (!(Op.bytesLess (auM l (auL (v6-1))) (auM l v6))) false)) (some false) (aj (auL (v6+1)))) (To n)
def AJ(n:Nat)(l:List auJ):Nat→Int→auN
 | 0=>λ_=>none
 |m+1=>K2 n l (AJ n l m)
def EE(l:List auJ):auN:=AJ n l n 0
def EF(f:ff):auN:=cond f.eN (some (cond (decide (((f.Reads.length:Nat):Int)=0)) (decide (((f.dz.length:Nat):Int)=0)) false)) (Option.bind (cond (cond (decide (((f.Reads.length:Nat):Int)≤64)) (decide (((f.dz.length:Nat):Int)≤64)) false) (EE n f.Reads) (some default)) λr2=>Option.bind (cond (cond (cond (decide (((f.Reads.length:Nat):Int)≤64)) (decide (((f.dz.length:Nat):Int)≤64)) false) r2 false) (EE n f.dz) (some default)) λr3=>some (cond (cond (cond (decide (((f.Reads.length:Nat):Int)≤64)) (decide (((f.dz.length:Nat):Int)≤64)) false) r2 false) r3 false))
def Tp(ai:Request):auO:=(EF n ai.bP).bind λdQ=>cond (cond (cond (!dQ) true ai.bP.eN) true (cond (!ai.f_) (decide (0<(auL (((ai.bP.Reads.length:Nat):Int)+((ai.bP.dz.length:Nat):Int))))) false)) (some 1) (some 0)
def K3(ai:Request)(aj:Int→auO)(v9:Int):auO:=cond (decide (v9<((ai.an.length:Nat):Int))) (ar (aN v9 ai.an.length)<|(uE n (auM ai.an v9)).bind λa'=>ar ((!a')||aN v9 ai.an.length)<|cond (cond (!a') true (decide ((auM ai.an v9).Kind=0))) (some 1) (aj (auL (v9+1)))) (Tp n ai)
def xi(n:Nat)(ai:Request):Nat→Int→auO
 | 0=>λ_=>none
 |m+1=>K3 n ai (xi n ai m)
def AK(ai:Request):auO:=cond (cond (cond (cond (decide (ai.Client<1)) true (decide (32<ai.Client))) true (decide (ai.Seq<1))) true (decide (1099511627776<ai.Seq))) (some 1) ((s6 n ai.be).bind λr2=>cond (!r2) (some 7) (cond (decide (6<((ai.an.length:Nat):Int))) (some 2) (xi n ai n 0)))
def Tq(n:Nat)(l:List Request):auN:=some (decide (((l.length:Nat):Int)≤64))
def K4(l:List Request)(aj:Int→auN)(v4:Int):auN:=cond (decide (v4<((l.length:Nat):Int))) (ar (aN v4 l.length)<|(AK n (auM l v4)).bind λaU=>cond (!decide (aU=0)) (some false) (aj (auL (v4+1)))) (Tq n l)
def AL(n:Nat)(l:List Request):Nat→Int→auN
 | 0=>λ_=>none
 |m+1=>K4 n l (AL n l m)
def K5(l:List Request):auN:=AL n l n 0
def AM(ai:bL):auN:=Option.bind (cond (cond (decide (0≤ai.Pos)) (decide (ai.Pos≤1099511627776)) false) (Ai n ai.au) (some default)) λr1=>Option.bind (cond (cond (cond (cond (decide (0≤ai.Pos)) (decide (ai.Pos≤1099511627776)) false) r1 false) (decide (ai.au.bN=ai.Pos)) false) (K1 n ai.cL) (some default)) λr2=>Option.bind (cond (cond (cond (cond (cond (decide (0≤ai.Pos)) (decide (ai.Pos≤1099511627776)) false) r1 false) (decide (ai.au.bN=ai.Pos)) false) r2 false) (Ek n ai.cV) (some default)) λr3=>Option.bind (cond (cond (cond (cond (cond (cond (decide (0≤ai.Pos)) (decide (ai.Pos≤1099511627776)) false) r1 false) (decide (ai.au.bN=ai.Pos)) false) r2 false) r3 false) (Eh n ai.Place) (some default)) λaB=>Option.bind (cond (cond (cond (cond (cond (cond (cond (decide (0≤ai.Pos)) (decide (ai.Pos≤1099511627776)) false) r1 false) (decide (ai.au.bN=ai.Pos)) false) r2 false) r3 false) aB false) (Ky n ai.bh) (some default)) λbu=>Option.bind (cond (cond (cond (cond (cond (cond (cond (cond (decide (0≤ai.Pos)) (decide (ai.Pos≤1099511627776)) false) r1 false) (decide (ai.au.bN=ai.Pos)) false) r2 false) r3 false) aB false) bu false) (K5 n ai.Queue) (some default)) λaU=>some (cond (cond (cond (cond (cond (cond (cond (cond (decide (0≤ai.Pos)) (decide (ai.Pos≤1099511627776)) false) r1 false) (decide (ai.au.bN=ai.Pos)) false) r2 false) r3 false) aB false) bu false) aU false)
def Tr(ai:bL):Option (bL×Int):=(AM n ai).bind λr1=>cond (!r1) (none) ((aaO n ai.au ai.Pos).bind λr3=>(w_ n r3.1 ai.Pos).bind λaB=>some ((⟨ai.Pos,aB.1,ai.cL,ai.cV,ai.Place,ai.bh,ai.Queue,ai.c_⟩:bL),0))
def aaR(a:bL)(b:bL):auN:=(Tr n a).bind λr1=>(Tr n b).bind λr2=>Option.bind (cond (cond (decide (r1.2=0)) (decide (r2.2=0)) false) (Au n r1.1 r2.1) (some default)) λr3=>some (cond (cond (decide (r1.2=0)) (decide (r2.2=0)) false) r3 false)
def K6:auN:=(aap n).bind λr1=>(aab n r1).bind λr2=>(RV n r2.1 r1.au 2).bind λr3=>(aaJ n r1.au 6 ([(⟨[99],⟨0,0,[]⟩⟩:aY)]:List aY)).bind λaB=>(aaf n r3.1 ([120]:auJ)).bind λbu=>(RV n bu aB.1 2).bind λaU=>(RM n aU.1).bind λbz=>(D8 n bz.1).bind λcg=>(RM n r3.1).bind λb9=>cond (cond (cond (cond (cond (cond (!decide (r2.2=0)) true (!decide (r3.2=0))) true (!decide (aU.2=0))) true (!decide (bz.2.2=0))) true (!decide (cg.2.2=0))) true (!decide (b9.2.2=16))) (none) (Option.bind (cond (cond (cond (cond (cond (cond (cond (cond (decide (r2.1.dD=5)) (decide (((r3.1.gE.length:Nat):Int)=2)) false) (decide (r3.1.Next=([99]:auJ))) false) (!r3.1.eH) false) (decide (((aU.1.gE.length:Nat):Int)=3)) false) (decide (aU.1.Next=([]:auJ))) false) aU.1.eH false) (decide (bz.2.1=6)) false) (aaR n cg.1 r1) (some default)) λa'=>Option.bind (cond (cond (cond (cond (cond (cond (cond (cond (cond (decide (r2.1.dD=5)) (decide (((r3.1.gE.length:Nat):Int)=2)) false) (decide (r3.1.Next=([99]:auJ))) false) (!r3.1.eH) false) (decide (((aU.1.gE.length:Nat):Int)=3)) false) (decide (aU.1.Next=([]:auJ))) false) aU.1.eH false) (decide (bz.2.1=6)) false) a' false) (xa n cg.2.1 ([([120]:auJ)]:List auJ)) (some default)) λaX=>some (cond (cond (cond (cond (cond (cond (cond (cond (cond (decide (r2.1.dD=5)) (decide (((r3.1.gE.length:Nat):Int)=2)) false) (decide (r3.1.Next=([99]:auJ))) false) (!r3.1.eH) false) (decide (((aU.1.gE.length:Nat):Int)=3)) false) (decide (aU.1.Next=([]:auJ))) false) aU.1.eH false) (decide (bz.2.1=6)) false) a' false) aX false))
def aaS(n:Nat):Option (Int×Int×Int):=some (0,0,5)
def Ts(s:auJ)(at_:Int)(aj:Int→Int→Int→Option (Int×Int×Int))(v6:Int)(bE:Int)(bf:Int):Option (Int×Int×Int):=cond (decide (bf<10)) (cond (decide (((s.length:Nat):Int)≤(auL (at_+bf)))) (some (0,0,6)) (ar (aN (auL (at_+bf)) s.length)<|cond (cond (cond (decide (bf=9)) (decide (1<(((s.getD ((auL (at_+bf))).toNat 0).toNat:Nat):Int))) false) true (cond (decide ((((s.getD ((auL (at_+bf))).toNat 0).toNat:Nat):Int)=0)) (decide (0<bf)) false)) (some (0,0,5)) (cond (decide ((((s.getD ((auL (at_+bf))).toNat 0).toNat:Nat):Int)<128)) (some ((IntKind.u64.wrap (v6+(IntKind.u64.wrap ((IntKind.u64.wrap (Int.tmod (((s.getD ((auL (at_+bf))).toNat 0).toNat:Nat):Int) 128))*bE)))),(auL ((auL (at_+bf))+1)),0)) (aj (IntKind.u64.wrap (v6+(IntKind.u64.wrap ((IntKind.u64.wrap (Int.tmod (((s.getD ((auL (at_+bf))).toNat 0).toNat:Nat):Int) 128))*bE)))) (IntKind.u64.wrap (bE*128)) (auL (bf+1)))))) (aaS n)
def EG(n:Nat)(s:auJ)(at_:Int):Nat→Int→Int→Int→Option (Int×Int×Int)
 | 0=>λ_ _ _=>none
 |m+1=>Ts n s at_ (EG n s at_ m)
def qA(s:auJ)(at_:Int):Option (Int×Int×Int):=cond (cond (decide (at_<0)) true (decide (((s.length:Nat):Int)<at_))) (some (0,0,1)) (EG n s at_ n 0 1 0)
def nQ(s:auJ)(at_:Int)(most:Int):Option (Int×Int×Int):=(qA n s at_).bind λr1=>cond (!decide (r1.2.2=0)) (some (0,0,r1.2.2)) (cond (cond (decide (most<0)) true (decide ((IntKind.u64.wrap most)<r1.1))) (some (0,0,2)) (cond (decide ((IntKind.u64.wrap (auL (((s.length:Nat):Int)-r1.2.1)))<r1.1)) (some (0,0,6)) (some ((auL r1.1),r1.2.1,0))))
def nb(s:auJ)(at_:Int)(most:Int):Option (auJ×Int×Int):=(qA n s at_).bind λr1=>cond (!decide (r1.2.2=0)) (some (([]:auJ),0,r1.2.2)) (cond (cond (decide (most<0)) true (decide ((IntKind.u64.wrap most)<r1.1))) (some (([]:auJ),0,2)) (cond (decide ((IntKind.u64.wrap (auL (((s.length:Nat):Int)-r1.2.1)))<r1.1)) (some (([]:auJ),0,6)) (ar (lF r1.2.1 (auL (r1.2.1+(auL r1.1))) s.length)<|some (((s.take ((auL (r1.2.1+(auL r1.1)))).toNat).drop (r1.2.1).toNat),(auL (r1.2.1+(auL r1.1))),0))))
def K7(n:Nat)(u:Int):auO:=cond (decide ((Int.tmod u 2)=1)) (some (auL ((auL (0-(auL (IntKind.u64.wrap (Int.tdiv u 2)))))-1))) (some (auL (IntKind.u64.wrap (Int.tdiv u 2))))
def nR(s:auJ)(at_:Int):Option (Int×Int×Int):=(qA n s at_).bind λr1=>cond (!decide (r1.2.2=0)) (some (0,0,r1.2.2)) ((K7 n r1.1).bind λr3=>some (r3,r1.2.1,0))
def Tt(n:Nat)(cX:Int):Option bn:=some (⟨1,cX,[]⟩:bn)
def AN(s:auJ)(at_:Int):Option (bn×Int×Int):=(qA n s at_).bind λr1=>cond (!decide (r1.2.2=0)) (some ((⟨0,0,[]⟩:bn),0,r1.2.2)) (cond (decide (r1.1=0)) (some ((⟨0,0,[]⟩:bn),r1.2.1,0)) (cond (decide (r1.1=1)) ((nR n s r1.2.1).bind λbu=>cond (!decide (bu.2.2=0)) (some ((⟨0,0,[]⟩:bn),0,bu.2.2)) ((Tt n bu.1).bind λbz=>some (bz,bu.2.1,0))) (cond (!decide (r1.1=2)) (some ((⟨0,0,[]⟩:bn),0,5)) ((nb n s r1.2.1 64).bind λb9=>cond (!decide (b9.2.2=0)) (some ((⟨0,0,[]⟩:bn),0,b9.2.2)) ((D' n b9.1).bind λa'=>cond (!a') (some ((⟨0,0,[]⟩:bn),0,5)) (some ((⟨2,0,b9.1⟩:bn),b9.2.1,0)))))))
def K8(bQ:List aY)(b6:Int):Option ((List aY)×Int×Int):=(Ea n bQ).bind λel=>cond (!el) (some (([]:List aY),0,5)) (some (bQ,b6,0))
def K9(s:auJ)(r1:Int×Int×Int)(aj:(List aY)→Int→Int→Option ((List aY)×Int×Int))(v9:List aY)(v10:Int)(v11:Int):Option ((List aY)×Int×Int):=cond (decide (v10<r1.1)) ((nb n s v11 24).bind λaX=>cond (!decide (aX.2.2=0)) (some (([]:List aY),0,aX.2.2)) ((AN n s aX.2.1).bind λcu=>cond (!decide (cu.2.2=0)) (some (([]:List aY),0,cu.2.2)) (ar (room (v9.length+([(⟨aX.1,cu.1⟩:aY)]:List aY).length) 48)<|aj (v9++([(⟨aX.1,cu.1⟩:aY)]:List aY)) (auL (v10+1)) cu.2.1))) (K8 n v9 v11)
def xj(n:Nat)(s:auJ)(r1:Int×Int×Int):Nat→(List aY)→Int→Int→Option ((List aY)×Int×Int)
 | 0=>λ_ _ _=>none
 |m+1=>K9 n s r1 (xj n s r1 m)
def K'(s:auJ)(at_:Int):Option ((List aY)×Int×Int):=(nQ n s at_ 2147483647).bind λr1=>cond (!decide (r1.2.2=0)) (some (([]:List aY),0,r1.2.2)) (xj n s r1 n ([]:List aY) 0 r1.2.1)
def K_(s:auJ)(at_:Int):Option (Part×Int×Int):=(nR n s at_).bind λr1=>cond (!decide (r1.2.2=0)) (some ((⟨0,[],0,0,[]⟩:Part),0,r1.2.2)) ((nb n s r1.2.1 24).bind λr3=>cond (!decide (r3.2.2=0)) (some ((⟨0,[],0,0,[]⟩:Part),0,r3.2.2)) ((nR n s r3.2.1).bind λbu=>cond (!decide (bu.2.2=0)) (some ((⟨0,[],0,0,[]⟩:Part),0,bu.2.2)) ((nR n s bu.2.1).bind λbz=>cond (!decide (bz.2.2=0)) (some ((⟨0,[],0,0,[]⟩:Part),0,bz.2.2)) ((nb n s bz.2.1 24).bind λb9=>cond (!decide (b9.2.2=0)) (some ((⟨0,[],0,0,[]⟩:Part),0,b9.2.2)) (some ((⟨r1.1,r3.1,bu.1,bz.1,b9.1⟩:Part),b9.2.1,0))))))
def La(r1:Int×Int×Int)(bQ:List Part)(b6:Int):Option (b1×Int×Int):=(Eh n (⟨r1.1,bQ⟩:b1)).bind λel=>cond (!el) (some ((⟨0,[]⟩:b1),0,5)) (some ((⟨r1.1,bQ⟩:b1),b6,0))
def Lb(s:auJ)(r3:Int×Int×Int)(r1:Int×Int×Int)(aj:(List Part)→Int→Int→Option (b1×Int×Int))(v10:List Part)(v11:Int)(v12:Int):Option (b1×Int×Int):=cond (decide (v12<r3.1)) ((K_ n s v11).bind λcu=>cond (!decide (cu.2.2=0)) (some ((⟨0,[]⟩:b1),0,cu.2.2)) (ar (room (v10.length+([cu.1]:List Part).length) 56)<|aj (v10++([cu.1]:List Part)) cu.2.1 (auL (v12+1)))) (La n r1 v10 v11)
def xk(n:Nat)(s:auJ)(r3:Int×Int×Int)(r1:Int×Int×Int):Nat→(List Part)→Int→Int→Option (b1×Int×Int)
 | 0=>λ_ _ _=>none
 |m+1=>Lb n s r3 r1 (xk n s r3 r1 m)
def Lc(s:auJ)(at_:Int):Option (b1×Int×Int):=(nR n s at_).bind λr1=>cond (!decide (r1.2.2=0)) (some ((⟨0,[]⟩:b1),0,r1.2.2)) ((nQ n s r1.2.1 16).bind λr3=>cond (!decide (r3.2.2=0)) (some ((⟨0,[]⟩:b1),0,r3.2.2)) (xk n s r3 r1 n ([]:List Part) r3.2.1 0))
def Ld(n:Nat)(s:auJ)(at_:Int):Option (Bool×Int×Int):=cond (cond (decide (at_<0)) true (decide (((s.length:Nat):Int)<at_))) (some (false,0,1)) (cond (decide (at_=((s.length:Nat):Int))) (some (false,0,6)) (ar (aN at_ s.length)<|cond (decide (1<(((s.getD (at_).toNat 0).toNat:Nat):Int))) (some (false,0,5)) (ar (aN at_ s.length)<|some ((decide ((((s.getD (at_).toNat 0).toNat:Nat):Int)=1)),(auL (at_+1)),0))))
def EH(n:Nat)(bQ:Int)(b6:Int)(v20:List bn):Option ((List bn)×Int×Int):=some (v20,bQ,b6)
def AO(s:auJ)(r1:Int×Int×Int)(aj:Int→Int→Int→(List bn)→Option ((List bn)×Int×Int))(bf:Int)(v9:Int)(v10:Int)(v11:List bn):Option ((List bn)×Int×Int):=cond (cond (decide (v9<r1.1)) (decide (v10=0)) false) ((AN n s bf).bind λaX=>ar (room (v11.length+([aX.1]:List bn).length) 32)<|aj aX.2.1 (auL (v9+1)) aX.2.2 (v11++([aX.1]:List bn))) (EH n bf v10 v11)
def uJ(n:Nat)(s:auJ)(r1:Int×Int×Int):Nat→Int→Int→Int→(List bn)→Option ((List bn)×Int×Int)
 | 0=>λ_ _ _ _=>none
 |m+1=>AO n s r1 (uJ n s r1 m)
def EI(s:auJ)(at_:Int):Option ((List bn)×Int×Int):=(nQ n s at_ 6).bind λr1=>uJ n s r1 n r1.2.1 0 r1.2.2 ([]:List bn)
def AP(n:Nat)(bu:auJ×Int×Int)(r1:Int×Int×Int)(r3:Int×Int×Int)(bE:Int)(bf:Int):Option (Request×Bool×Int×Int):=some ((⟨(auL bf),(auL bE),bu.1,[],false,⟨false,[],[]⟩⟩:Request),(cond (decide (r1.1≤32)) (decide (r3.1≤1099511627776)) false),bu.2.1,0)
def Tu(s:auJ)(at_:Int):Option (Request×Bool×Int×Int):=(qA n s at_).bind λr1=>cond (!decide (r1.2.2=0)) (some ((⟨0,0,[],[],false,⟨false,[],[]⟩⟩:Request),false,0,r1.2.2)) ((qA n s r1.2.1).bind λr3=>cond (!decide (r3.2.2=0)) (some ((⟨0,0,[],[],false,⟨false,[],[]⟩⟩:Request),false,0,r3.2.2)) ((nb n s r3.2.1 16).bind λbu=>cond (!decide (bu.2.2=0)) (some ((⟨0,0,[],[],false,⟨false,[],[]⟩⟩:Request),false,0,bu.2.2)) (cond (!(cond (decide (r1.1≤32)) (decide (r3.1≤1099511627776)) false)) (AP n bu r1 r3 0 0) (AP n bu r1 r3 r3.1 r1.1))))
def EJ(n:Nat)(bQ:Int)(b6:Int)(v20:List auJ):Option ((List auJ)×Int×Int):=some (v20,bQ,b6)
def AQ(s:auJ)(r1:Int×Int×Int)(aj:Int→Int→Int→(List auJ)→Option ((List auJ)×Int×Int))(bf:Int)(v9:Int)(v10:Int)(v11:List auJ):Option ((List auJ)×Int×Int):=cond (cond (decide (v9<r1.1)) (decide (v10=0)) false) ((nb n s bf 24).bind λaX=>ar (room (v11.length+([aX.1]:List auJ).length) 16)<|aj aX.2.1 (auL (v9+1)) aX.2.2 (v11++([aX.1]:List auJ))) (EJ n bf v10 v11)
def uK(n:Nat)(s:auJ)(r1:Int×Int×Int):Nat→Int→Int→Int→(List auJ)→Option ((List auJ)×Int×Int)
 | 0=>λ_ _ _ _=>none
 |m+1=>AQ n s r1 (uK n s r1 m)
def AR(s:auJ)(at_:Int):Option ((List auJ)×Int×Int):=(nQ n s at_ 64).bind λr1=>uK n s r1 n r1.2.1 0 r1.2.2 ([]:List auJ)
def EK(r1:Request×Bool×Int×Int)(r3:(List bn)×Int×Int)(bu:Bool×Int×Int)(v9:List auJ)(v10:List auJ)(v11:Int):Option (Request×Int×Int):=Option.bind (cond (!(!r1.2.1)) (AK n (⟨r1.1.Client,r1.1.Seq,r1.1.be,r3.1,bu.1,⟨r1.1.bP.eN,v9,v10⟩⟩:Request)) (some default)) λaX=>cond (cond (!r1.2.1) true (!decide (aX=0))) (some ((⟨0,0,[],[],false,⟨false,[],[]⟩⟩:Request),0,5)) (some ((⟨r1.1.Client,r1.1.Seq,r1.1.be,r3.1,bu.1,⟨r1.1.bP.eN,v9,v10⟩⟩:Request),v11,0))
def Le(s:auJ)(at_:Int):Option (Request×Int×Int):=(Tu n s at_).bind λr1=>cond (!decide (r1.2.2.2=0)) (some ((⟨0,0,[],[],false,⟨false,[],[]⟩⟩:Request),0,r1.2.2.2)) ((EI n s r1.2.2.1).bind λr3=>cond (!decide (r3.2.2=0)) (some ((⟨0,0,[],[],false,⟨false,[],[]⟩⟩:Request),0,r3.2.2)) ((Ld n s r3.2.1).bind λbu=>cond (!decide (bu.2.2=0)) (some ((⟨0,0,[],[],false,⟨false,[],[]⟩⟩:Request),0,bu.2.2)) (cond bu.1 ((AR n s bu.2.1).bind λbz=>cond (!decide (bz.2.2=0)) (some ((⟨0,0,[],[],false,⟨false,[],[]⟩⟩:Request),0,bz.2.2)) ((AR n s bz.2.1).bind λcg=>cond (!decide (cg.2.2=0)) (some ((⟨0,0,[],[],false,⟨false,[],[]⟩⟩:Request),0,cg.2.2)) (EK n r1 r3 bu bz.1 cg.1 cg.2.1))) (EK n r1 r3 bu r1.1.bP.Reads r1.1.bP.dz bu.2.1))))
def Tv(n:Nat)(ck:Int)(aP:List Request):Option ((List Request)×Int×Int):=some (aP,ck,0)
def Lf(s:auJ)(r1:Int×Int×Int)(aj:Int→Int→(List Request)→Option ((List Request)×Int×Int))(bf:Int)(v9:Int)(v10:List Request):Option ((List Request)×Int×Int):=cond (decide (v9<r1.1)) ((Le n s bf).bind λa'=>cond (!decide (a'.2.2=0)) (some (([]:List Request),0,a'.2.2)) (ar (room (v10.length+([a'.1]:List Request).length) 120)<|aj a'.2.1 (auL (v9+1)) (v10++([a'.1]:List Request)))) (Tv n bf v10)
def xl(n:Nat)(s:auJ)(r1:Int×Int×Int):Nat→Int→Int→(List Request)→Option ((List Request)×Int×Int)
 | 0=>λ_ _ _=>none
 |m+1=>Lf n s r1 (xl n s r1 m)
def Lg(s:auJ)(at_:Int):Option ((List Request)×Int×Int):=(nQ n s at_ 64).bind λr1=>cond (!decide (r1.2.2=0)) (some (([]:List Request),0,r1.2.2)) (xl n s r1 n r1.2.1 0 ([]:List Request))
def xm(s:auJ)(at_:Int)(most:Int):Option (Int×Int×Int):=(qA n s at_).bind λr1=>cond (!decide (r1.2.2=0)) (some (0,0,r1.2.2)) (cond (decide (most<r1.1)) (some (0,0,5)) (some ((auL r1.1),r1.2.1,0)))
def Tw(n:Nat)(r1:Int×Int×Int)(r3:Int×Int×Int)(v20:List bn)(v21:Int):Option (Outcome×Int×Int):=some ((⟨r1.1,r3.1,v20⟩:Outcome),v21,0)
def Lh(s:auJ)(bu:Int×Int×Int)(r1:Int×Int×Int)(r3:Int×Int×Int)(aj:(List bn)→Int→Int→Option (Outcome×Int×Int))(v12:List bn)(cD:Int)(bI:Int):Option (Outcome×Int×Int):=cond (decide (bI<bu.1)) ((AN n s cD).bind λdi=>cond (!decide (di.2.2=0)) (some ((⟨0,0,[]⟩:Outcome),0,di.2.2)) (ar (room (v12.length+([di.1]:List bn).length) 32)<|aj (v12++([di.1]:List bn)) di.2.1 (auL (bI+1)))) (Tw n r1 r3 v12 cD)
def xn(n:Nat)(s:auJ)(bu:Int×Int×Int)(r1:Int×Int×Int)(r3:Int×Int×Int):Nat→(List bn)→Int→Int→Option (Outcome×Int×Int)
 | 0=>λ_ _ _=>none
 |m+1=>Lh n s bu r1 r3 (xn n s bu r1 r3 m)
def Li(s:auJ)(at_:Int):Option (Outcome×Int×Int):=(xm n s at_ 9999).bind λr1=>cond (!decide (r1.2.2=0)) (some ((⟨0,0,[]⟩:Outcome),0,r1.2.2)) ((xm n s r1.2.1 9999).bind λr3=>cond (!decide (r3.2.2=0)) (some ((⟨0,0,[]⟩:Outcome),0,r3.2.2)) ((nQ n s r3.2.1 16).bind λbu=>cond (!decide (bu.2.2=0)) (some ((⟨0,0,[]⟩:Outcome),0,bu.2.2)) (xn n s bu r1 r3 n ([]:List bn) bu.2.1 0)))
def Tx(n:Nat)(r1:Int×Int×Int)(aB:Int×Int×Int)(v21:List d')(v22:Int):Option (bG×Int×Int):=some ((⟨r1.1,aB.1,v21⟩:bG),v22,0)
def Lj(s:auJ)(aB:Int×Int×Int)(bz:Int)(r1:Int×Int×Int)(gw:(List d')→Int→Int→Option (bG×Int×Int))(cD:List d')(bI:Int)(bA:Int):Option (bG×Int×Int):=cond (decide (bA<bz)) ((Li n s bI).bind λcC=>cond (!decide (cC.2.2=0)) (some ((⟨0,0,[]⟩:bG),0,cC.2.2)) (ar (room (cD.length+([(⟨r1.1,(auL (aB.1-(auL (bz-bA)))),cC.1⟩:d')]:List d').length) 56)<|gw (cD++([(⟨r1.1,(auL (aB.1-(auL (bz-bA)))),cC.1⟩:d')]:List d')) cC.2.1 (auL (bA+1)))) (Tx n r1 aB cD bI)
def AS(n:Nat)(s:auJ)(aB:Int×Int×Int)(bz:Int)(r1:Int×Int×Int):Nat→(List d')→Int→Int→Option (bG×Int×Int)
 | 0=>λ_ _ _=>none
 |m+1=>Lj n s aB bz r1 (AS n s aB bz r1 m)
def AT(s:auJ)(aB:Int×Int×Int)(r1:Int×Int×Int)(v5:Int):Option (bG×Int×Int):=cond (!decide (v5=0)) (some ((⟨0,0,[]⟩:bG),0,v5)) ((Ej n aB.1).bind λbz=>AS n s aB bz r1 n ([]:List d') aB.2.1 0)
def AU(s:auJ)(r1:Int×Int×Int)(v2:Int):Option (bG×Int×Int):=cond (!decide (v2=0)) (some ((⟨0,0,[]⟩:bG),0,v2)) ((xm n s r1.2.1 1099511627776).bind λaB=>cond (cond (decide (aB.2.2=0)) (decide (aB.1<1)) false) (AT n s aB r1 5) (AT n s aB r1 aB.2.2))
def Lk(s:auJ)(at_:Int):Option (bG×Int×Int):=(xm n s at_ 32).bind λr1=>cond (cond (decide (r1.2.2=0)) (decide (r1.1<1)) false) (AU n s r1 5) (AU n s r1 r1.2.2)
def Ll(ck:Int)(aP:List bG):Option ((List bG)×Int×Int):=(Ek n aP).bind λe8=>cond (!e8) (some (([]:List bG),0,5)) (some (aP,ck,0))
def Lm(s:auJ)(r1:Int×Int×Int)(aj:Int→Int→(List bG)→Option ((List bG)×Int×Int))(bf:Int)(v9:Int)(v10:List bG):Option ((List bG)×Int×Int):=cond (decide (v9<r1.1)) ((Lk n s bf).bind λa'=>cond (!decide (a'.2.2=0)) (some (([]:List bG),0,a'.2.2)) (ar (room (v10.length+([a'.1]:List bG).length) 40)<|aj a'.2.1 (auL (v9+1)) (v10++([a'.1]:List bG)))) (Ll n bf v10)
def xo(n:Nat)(s:auJ)(r1:Int×Int×Int):Nat→Int→Int→(List bG)→Option ((List bG)×Int×Int)
 | 0=>λ_ _ _=>none
 |m+1=>Lm n s r1 (xo n s r1 m)
def Ln(s:auJ)(at_:Int):Option ((List bG)×Int×Int):=(nQ n s at_ 32).bind λr1=>cond (!decide (r1.2.2=0)) (some (([]:List bG),0,r1.2.2)) (xo n s r1 n r1.2.1 0 ([]:List bG))
def Ty(n:Nat)(bQ:Int)(b6:List bh):Option ((List bh)×Int×Int):=some (b6,bQ,0)
def Lo(s:auJ)(r1:Int×Int×Int)(aj:Int→Int→(List bh)→Option ((List bh)×Int×Int))(v9:Int)(v10:Int)(v11:List bh):Option ((List bh)×Int×Int):=cond (decide (v10<r1.1)) ((nb n s v9 24).bind λaX=>cond (!decide (aX.2.2=0)) (some (([]:List bh),0,aX.2.2)) ((nR n s aX.2.1).bind λcu=>cond (!decide (cu.2.2=0)) (some (([]:List bh),0,cu.2.2)) (ar (room (v11.length+([(⟨aX.1,cu.1⟩:bh)]:List bh).length) 24)<|aj cu.2.1 (auL (v10+1)) (v11++([(⟨aX.1,cu.1⟩:bh)]:List bh))))) (Ty n v9 v11)
def xp(n:Nat)(s:auJ)(r1:Int×Int×Int):Nat→Int→Int→(List bh)→Option ((List bh)×Int×Int)
 | 0=>λ_ _ _=>none
 |m+1=>Lo n s r1 (xp n s r1 m)
def Lp(s:auJ)(at_:Int):Option ((List bh)×Int×Int):=(nQ n s at_ 32).bind λr1=>cond (!decide (r1.2.2=0)) (some (([]:List bh),0,r1.2.2)) (xp n s r1 n r1.2.1 0 ([]:List bh))
def Tz(n:Nat)(v11:Int):auO:=some v11
def Lq(n:Nat)(aj:Int→Int→auO)(s:auJ)(at_:Int)(v6:Int)(bf:Int):auO:=aj bf (auL (v6+1))
def TA(s:auJ)(at_:Int)(aj:Int→Int→auO)(v5:Int)(v6:Int):auO:=cond (decide (v6<at_)) (ar (aN v6 s.length)<|cond (decide ((((s.getD (v6).toNat 0).toNat:Nat):Int)=10)) (Lq n aj s at_ v6 (auL (v5+1))) (Lq n aj s at_ v6 v5)) (Tz n v5)
def EL(n:Nat)(s:auJ)(at_:Int):Nat→Int→Int→auO
 | 0=>λ_ _=>none
 |m+1=>TA n s at_ (EL n s at_ m)
def Lr(s:auJ)(at_:Int):auO:=EL n s at_ n 0 0
def TB(n:Nat)(v22:Int):auO:=some v22
def TC(n:Nat)(aj:Int→auO)(s:auJ)(fW:Int→auO)(bA:Int):auO:=ar (!(decide (bA<((s.length:Nat):Int)))||aN bA s.length)<|cond (cond (decide (bA<((s.length:Nat):Int))) (!decide ((((s.getD (bA).toNat 0).toNat:Nat):Int)=10)) false) (fW (auL (bA+1))) (aj bA)
def EM(n:Nat)(aj:Int→auO)(s:auJ):Nat→Int→auO
 | 0=>λ_=>none
 |m+1=>TC n aj s (EM n aj s m)
def TD(s:auJ)(aj:Int→auO)(v11:Int):auO:=cond (decide (v11<((s.length:Nat):Int))) (ar (aN v11 s.length)<|cond (decide ((((s.getD (v11).toNat 0).toNat:Nat):Int)=35)) (EM n aj s n v11) (ar (aN v11 s.length)<|ar ((decide ((((s.getD (v11).toNat 0).toNat:Nat):Int)=32))||aN v11 s.length)<|ar ((cond (decide ((((s.getD (v11).toNat 0).toNat:Nat):Int)=32)) true (decide ((((s.getD (v11).toNat 0).toNat:Nat):Int)=9)))||aN v11 s.length)<|cond (cond (cond (decide ((((s.getD (v11).toNat 0).toNat:Nat):Int)=32)) true (decide ((((s.getD (v11).toNat 0).toNat:Nat):Int)=9))) true (decide ((((s.getD (v11).toNat 0).toNat:Nat):Int)=10))) (aj (auL (v11+1))) (some v11))) (TB n v11)
def EN(n:Nat)(s:auJ):Nat→Int→auO
 | 0=>λ_=>none
 |m+1=>TD n s (EN n s m)
def EO(s:auJ)(at_:Int):auO:=EN n s n at_
def TE(n:Nat):Option (List auJ):=some ([([61,61]:auJ),([33,61]:auJ),([60,61]:auJ),([62,61]:auJ),([43,43]:auJ),([40]:auJ),([41]:auJ),([123]:auJ),([125]:auJ),([44]:auJ),([59]:auJ),([58]:auJ),([61]:auJ),([60]:auJ),([62]:auJ),([43]:auJ),([45]:auJ),([42]:auJ),([47]:auJ),([37]:auJ)]:List auJ)
def TF(n:Nat)(s:auJ):auN:=ar (!(decide (0<((s.length:Nat):Int)))||aN 0 s.length)<|some (cond (decide (0<((s.length:Nat):Int))) (cond (!decide ((((s.getD 0 0).toNat:Nat):Int)=48)) true (decide (((s.length:Nat):Int)=1))) false)
def TG(s:auJ)(aj:Int→auN)(v4:Int):auN:=cond (decide (v4<((s.length:Nat):Int))) (ar (aN v4 s.length)<|ar ((decide ((((s.getD (v4).toNat 0).toNat:Nat):Int)<48))||aN v4 s.length)<|cond (cond (decide ((((s.getD (v4).toNat 0).toNat:Nat):Int)<48)) true (decide (57<(((s.getD (v4).toNat 0).toNat:Nat):Int)))) (some false) (aj (auL (v4+1)))) (TF n s)
def AV(n:Nat)(s:auJ):Nat→Int→auN
 | 0=>λ_=>none
 |m+1=>TG n s (AV n s m)
def TH(s:auJ):auN:=AV n s n 0
def TI(n:Nat)(s:auJ)(bA:Int):Option (Int×Int):=cond (cond (decide (0<((s.length:Nat):Int))) (decide ((((s.getD 0 0).toNat:Nat):Int)=45)) false) (some ((auL (IntKind.u64.wrap (0-bA))),0)) (some ((auL bA),0))
def TJ(s:auJ)(v3:auJ)(v4:Int)(fW:Int→Int→Option (Int×Int))(v10:Int)(v11:Int):Option (Int×Int):=cond (decide (v11<((v3.length:Nat):Int))) (ar (aN v11 v3.length)<|cond (decide ((IntKind.u64.wrap (Int.tdiv (IntKind.u64.wrap (v4-(IntKind.u64.wrap (IntKind.u8.wrap ((((v3.getD (v11).toNat 0).toNat:Nat):Int)-48))))) 10))<v10)) (some (0,3)) (fW (IntKind.u64.wrap ((IntKind.u64.wrap (v10*10))+(IntKind.u64.wrap (IntKind.u8.wrap ((((v3.getD (v11).toNat 0).toNat:Nat):Int)-48))))) (auL (v11+1)))) (TI n s v10)
def EP(n:Nat)(s:auJ)(v3:auJ)(v4:Int):Nat→Int→Int→Option (Int×Int)
 | 0=>λ_ _=>none
 |m+1=>TJ n s v3 v4 (EP n s v3 v4 m)
def Ls(s:auJ)(v3:auJ)(v4:Int):Option (Int×Int):=(TH n v3).bind λbu=>cond (cond (!bu) true (cond (cond (decide (0<((s.length:Nat):Int))) (decide ((((s.getD 0 0).toNat:Nat):Int)=45)) false) (decide (v3=([48]:auJ))) false)) (some (0,5)) (EP n s v3 v4 n 0 0)
def Lt(s:auJ):Option (Int×Int):=ar (!(decide (0<((s.length:Nat):Int)))||aN 0 s.length)<|cond (cond (decide (0<((s.length:Nat):Int))) (decide ((((s.getD 0 0).toNat:Nat):Int)=45)) false) (ar (hE 1 s.length)<|Ls n s (s.drop 1) 9223372036854775808) (Ls n s s 9223372036854775807)
def Lu(w:auJ):Option (Token×Int):=ar (aN 0 w.length)<|(AA n (((w.getD 0 0).toNat:Nat):Int)).bind λr2=>cond r2 ((Em n w).bind λaB=>cond aB (some ((⟨2,w,0,0⟩:Token),0)) ((s6 n w).bind λaU=>cond aU (some ((⟨1,w,0,0⟩:Token),0)) (some ((⟨0,[],0,0⟩:Token),2)))) ((Lt n w).bind λcg=>cond (!decide (cg.2=0)) (some ((⟨0,[],0,0⟩:Token),cg.2)) (some ((⟨3,[],cg.1,0⟩:Token),0)))
def TK(n:Nat)(b6:Int):Option (auJ×Int×Int):=some (([]:auJ),b6,6)
def Lv(n:Nat)(aj:Int→auJ→Option (auJ×Int×Int))(s:auJ)(v10:auJ)(bI:Int):Option (auJ×Int×Int):=cond (decide (((v10.length:Nat):Int)=64)) (some (([]:auJ),bI,2)) (ar (lF bI (auL (bI+1)) s.length)<|ar (cq (v10.length+((s.take ((auL (bI+1))).toNat).drop (bI).toNat).length))<|aj (auL (bI+1)) (v10++((s.take ((auL (bI+1))).toNat).drop (bI).toNat)))
def TL(s:auJ)(aj:Int→auJ→Option (auJ×Int×Int))(v9:Int)(v10:auJ):Option (auJ×Int×Int):=cond (decide (v9<((s.length:Nat):Int))) (ar (aN v9 s.length)<|cond (decide ((((s.getD (v9).toNat 0).toNat:Nat):Int)=34)) (some (v10,(auL (v9+1)),0)) (cond (decide ((((s.getD (v9).toNat 0).toNat:Nat):Int)=92)) (cond (decide ((auL (v9+1))=((s.length:Nat):Int))) (some (([]:auJ),(auL (v9+1)),6)) (ar (aN (auL (v9+1)) s.length)<|ar (!(!decide ((((s.getD ((auL (v9+1))).toNat 0).toNat:Nat):Int)=34))||aN (auL (v9+1)) s.length)<|cond (cond (!decide ((((s.getD ((auL (v9+1))).toNat 0).toNat:Nat):Int)=34)) (!decide ((((s.getD ((auL (v9+1))).toNat 0).toNat:Nat):Int)=92)) false) (some (([]:auJ),(auL (v9+1)),5)) (Lv n aj s v10 (auL (v9+1))))) (cond (cond (decide ((((s.getD (v9).toNat 0).toNat:Nat):Int)<32)) true (decide (126<(((s.getD (v9).toNat 0).toNat:Nat):Int)))) (some (([]:auJ),v9,5)) (Lv n aj s v10 v9)))) (TK n v9)
def EQ(n:Nat)(s:auJ):Nat→Int→auJ→Option (auJ×Int×Int)
 | 0=>λ_ _=>none
 |m+1=>TL n s (EQ n s m)
def TM(s:auJ)(at_:Int):Option (auJ×Int×Int):=EQ n s n (auL (at_+1)) ([]:auJ)
def TN(n:Nat)(at_:Int):Option (Token×Int×Int):=some ((⟨0,[],0,0⟩:Token),at_,5)
def TO(s:auJ)(at_:Int)(dd:(List auJ))(aj:Int→Option (Token×Int×Int))(bQ:Int):Option (Token×Int×Int):=cond (decide (bQ<((dd.length:Nat):Int))) (ar (aN bQ dd.length)<|ar (!(decide ((auL (at_+(((auM dd bQ).length:Nat):Int)))≤((s.length:Nat):Int)))||aN bQ dd.length)<|ar (!(decide ((auL (at_+(((auM dd bQ).length:Nat):Int)))≤((s.length:Nat):Int)))||lF at_ (auL (at_+(((auM dd bQ).length:Nat):Int))) s.length)<|ar (!(decide ((auL (at_+(((auM dd bQ).length:Nat):Int)))≤((s.length:Nat):Int)))||aN bQ dd.length)<|cond (cond (decide ((auL (at_+(((auM dd bQ).length:Nat):Int)))≤((s.length:Nat):Int))) (decide (((s.take ((auL (at_+(((auM dd bQ).length:Nat):Int)))).toNat).drop (at_).toNat)=(auM dd bQ))) false) (ar (aN bQ dd.length)<|ar (aN bQ dd.length)<|some ((⟨5,(auM dd bQ),0,0⟩:Token),(auL (at_+(((auM dd bQ).length:Nat):Int))),0)) (aj (auL (bQ+1)))) (TN n at_)
def AW(n:Nat)(s:auJ)(at_:Int)(dd:(List auJ)):Nat→Int→Option (Token×Int×Int)
 | 0=>λ_=>none
 |m+1=>TO n s at_ dd (AW n s at_ dd m)
def Lw(s:auJ)(at_:Int):Option (Token×Int×Int):=ar (aN at_ s.length)<|cond (decide ((((s.getD (at_).toNat 0).toNat:Nat):Int)=34)) ((TM n s at_).bind λr3=>some ((⟨4,r3.1,0,0⟩:Token),r3.2.1,r3.2.2)) (ar (aN at_ s.length)<|(En n (((s.getD (at_).toNat 0).toNat:Nat):Int)).bind λbu=>cond bu ((KD n s at_).bind λbz=>ar (lF at_ bz s.length)<|(Lu n ((s.take (bz).toNat).drop (at_).toNat)).bind λb9=>some (b9.1,bz,b9.2)) ((TE n).bind λdd=>AW n s at_ dd n 0))
def TP(n:Nat)(aP:List Token):Option ((List Token)×Int×Int):=some (aP,0,0)
def Lx(src:auJ)(aj:(List Token)→Int→Option ((List Token)×Int×Int))(v9:List Token)(v10:Int):Option ((List Token)×Int×Int):=cond (decide (v10<((src.length:Nat):Int))) ((Lr n src v10).bind λa'=>(Lw n src v10).bind λaX=>cond (!decide (aX.2.2=0)) (some (([]:List Token),(auL (a'+1)),aX.2.2)) (ar (room (v9.length+([(⟨aX.1.Kind,aX.1.Text,aX.1.N,(auL (a'+1))⟩:Token)]:List Token).length) 40)<|(EO n src aX.2.1).bind λdQ=>aj (v9++([(⟨aX.1.Kind,aX.1.Text,aX.1.N,(auL (a'+1))⟩:Token)]:List Token)) dQ)) (TP n v9)
def AX(n:Nat)(src:auJ):Nat→(List Token)→Int→Option ((List Token)×Int×Int)
 | 0=>λ_ _=>none
 |m+1=>Lx n src (AX n src m)
def Ly(src:auJ):Option ((List Token)×Int×Int):=cond (decide (16384<((src.length:Nat):Int))) (some (([]:List Token),0,2)) ((EO n src 0).bind λr2=>AX n src n ([]:List Token) r2)
def Lz(n:Nat)(l:List Token)(at_:Int)(f:Int):auO:=cond (cond (decide (f=0)) (decide (at_<((l.length:Nat):Int))) false) (some 5) (some f)
def LA(n:Nat)(l:List Token)(at_:Int):auO:=cond (decide (((l.length:Nat):Int)=0)) (some 1) (ar (aN (cond (decide ((auL (((l.length:Nat):Int)-1))<at_)) (auL (((l.length:Nat):Int)-1)) at_) l.length)<|some ((auM l (cond (decide ((auL (((l.length:Nat):Int)-1))<at_)) (auL (((l.length:Nat):Int)-1)) at_)).ls))
def kH(n:Nat)(l:List Token)(at_:Int)(text:auJ):auN:=ar (!(decide (at_<((l.length:Nat):Int)))||aN at_ l.length)<|ar (!(decide (at_<((l.length:Nat):Int)))||((decide ((auM l at_).Kind=2))||aN at_ l.length))<|ar (!(cond (decide (at_<((l.length:Nat):Int))) (cond (decide ((auM l at_).Kind=2)) true (decide ((auM l at_).Kind=5))) false)||aN at_ l.length)<|some (cond (cond (decide (at_<((l.length:Nat):Int))) (cond (decide ((auM l at_).Kind=2)) true (decide ((auM l at_).Kind=5))) false) (decide (((auM l at_).Text)=text)) false)
def uL(n:Nat)(l:List Token)(at_:Int):auO:=cond (decide (((l.length:Nat):Int)≤at_)) (some 6) (some 5)
def LB(n:Nat)(cD:Int):Option (Int×Int):=some (cD,0)
def LC(l:List Token)(words:List auJ)(aj:Int→Int→Option (Int×Int))(v6:Int)(bE:Int):Option (Int×Int):=cond (decide (bE<((words.length:Nat):Int))) (ar (aN bE words.length)<|(kH n l v6 (words.getD (bE).toNat default)).bind λb9=>cond (!b9) ((uL n l v6).bind λdd=>some (v6,dd)) (aj (auL (v6+1)) (auL (bE+1)))) (LB n v6)
def ER(n:Nat)(l:List Token)(words:List auJ):Nat→Int→Int→Option (Int×Int)
 | 0=>λ_ _=>none
 |m+1=>LC n l words (ER n l words m)
def kj(l:List Token)(at_:Int)(words:List auJ):Option (Int×Int):=ER n l words n at_ 0
def TQ(n:Nat):auO:=some 0
def TR(l:List Token)(at_:Int)(level:Int)(aj:Int→auO)(v6:Int):auO:=cond (decide (v6<((([([111,114]:auJ),([97,110,100]:auJ),([61,61]:auJ),([33,61]:auJ),([60]:auJ),([60,61]:auJ),([62]:auJ),([62,61]:auJ),([43,43]:auJ),([43]:auJ),([45]:auJ),([42]:auJ),([47]:auJ),([37]:auJ)]:List auJ).length:Nat):Int))) (ar (aN v6 ([1,2,4,4,4,4,4,4,5,6,6,7,7,7]:List Int).length)<|ar (!(decide ((([1,2,4,4,4,4,4,4,5,6,6,7,7,7]:List Int).getD (v6).toNat default)=level))||aN v6 ([([111,114]:auJ),([97,110,100]:auJ),([61,61]:auJ),([33,61]:auJ),([60]:auJ),([60,61]:auJ),([62]:auJ),([62,61]:auJ),([43,43]:auJ),([43]:auJ),([45]:auJ),([42]:auJ),([47]:auJ),([37]:auJ)]:List auJ).length)<|Option.bind (cond (decide ((([1,2,4,4,4,4,4,4,5,6,6,7,7,7]:List Int).getD (v6).toNat default)=level)) (kH n l at_ (([([111,114]:auJ),([97,110,100]:auJ),([61,61]:auJ),([33,61]:auJ),([60]:auJ),([60,61]:auJ),([62]:auJ),([62,61]:auJ),([43,43]:auJ),([43]:auJ),([45]:auJ),([42]:auJ),([47]:auJ),([37]:auJ)]:List auJ).getD (v6).toNat default)) (some default)) λb9=>cond (cond (decide ((([1,2,4,4,4,4,4,4,5,6,6,7,7,7]:List Int).getD (v6).toNat default)=level)) b9 false) (ar (aN v6 ([17,16,10,11,12,13,14,15,19,4,5,6,7,8]:List Int).length)<|some (([17,16,10,11,12,13,14,15,19,4,5,6,7,8]:List Int).getD (v6).toNat default)) (aj (auL (v6+1)))) (TQ n)
def ES(n:Nat)(l:List Token)(at_:Int)(level:Int):Nat→Int→auO
 | 0=>λ_=>none
 |m+1=>TR n l at_ level (ES n l at_ level m)
def TS(l:List Token)(at_:Int)(level:Int):auO:=ES n l at_ level n 0
def LD(l:List Token)(at_:Int)(level:Int):auO:=Option.bind (cond (decide (level=3)) (kH n l at_ ([110,111,116]:auJ)) (some default)) λr1=>cond (cond (decide (level=3)) r1 false) (some 18) (Option.bind (cond (decide (level=8)) (kH n l at_ ([45]:auJ)) (some default)) λr3=>cond (cond (decide (level=8)) r3 false) (some 9) (some 0))
def TT(n:Nat):auO:=some 0
def TU(l:List Token)(at_:Int)(aj:Int→auO)(v5:Int):auO:=cond (decide (v5<((([([116,101,120,116]:auJ),([108,101,110]:auJ),([103,101,116,105,110,116]:auJ),([103,101,116,115,116,114]:auJ),([104,97,115]:auJ),([110,111,119]:auJ),([114,97,110,100,111,109]:auJ),([110,111,100,101]:auJ)]:List auJ).length:Nat):Int))) (ar (aN v5 ([([116,101,120,116]:auJ),([108,101,110]:auJ),([103,101,116,105,110,116]:auJ),([103,101,116,115,116,114]:auJ),([104,97,115]:auJ),([110,111,119]:auJ),([114,97,110,100,111,109]:auJ),([110,111,100,101]:auJ)]:List auJ).length)<|(kH n l at_ (([([116,101,120,116]:auJ),([108,101,110]:auJ),([103,101,116,105,110,116]:auJ),([103,101,116,115,116,114]:auJ),([104,97,115]:auJ),([110,111,119]:auJ),([114,97,110,100,111,109]:auJ),([110,111,100,101]:auJ)]:List auJ).getD (v5).toNat default)).bind λbz=>cond bz (ar (aN v5 ([20,21,22,23,24,25,26,27]:List Int).length)<|some (([20,21,22,23,24,25,26,27]:List Int).getD (v5).toNat default)) (aj (auL (v5+1)))) (TT n)
def ET(n:Nat)(l:List Token)(at_:Int):Nat→Int→auO
 | 0=>λ_=>none
 |m+1=>TU n l at_ (ET n l at_ m)
def TV(l:List Token)(at_:Int):auO:=ET n l at_ n 0
def xq(n:Nat)(h_:(List Token)→Int→Int→Int→Option (Expr×Int×Int))(iP:(List Token)→Int→Int→Option (Expr×Int×Int))(iF:(List Token)→Int→Int→Option (Expr×Int×Int))(v30:Int)(v31:Int):Option (Expr×Int×Int):=some ((⟨0,0,[],[]⟩:Expr),v30,v31)
def s_(h_:(List Token)→Int→Int→Int→Option (Expr×Int×Int))(iP:(List Token)→Int→Int→Option (Expr×Int×Int))(iF:(List Token)→Int→Int→Option (Expr×Int×Int))(l:List Token)(level:Int)(cX:Int)(aj:Int→Int→auJ→(List Expr)→Int→Int→Option (Expr×Int×Int))(ck:Int)(aP:Int)(bQ:auJ)(b6:List Expr)(v20:Int)(v21:Int):Option (Expr×Int×Int):=cond (decide (v21=0)) ((TS n l v20 level).bind λdr=>cond (decide (dr=0)) (some ((⟨ck,aP,bQ,b6⟩:Expr),v20,0)) ((h_ l (auL (v20+1)) (auL (level+1)) cX).bind λey=>cond (cond (decide (ey.2.2=0)) (decide (level=4)) false) (some ((⟨dr,0,[],[⟨ck,aP,bQ,b6⟩,ey.1]⟩:Expr),ey.2.1,0)) (aj dr 0 ([]:auJ) ([(⟨ck,aP,bQ,b6⟩:Expr),ey.1]:List Expr) ey.2.1 ey.2.2))) (xq n h_ iP iF v20 v21)
def qB(n:Nat)(h_:(List Token)→Int→Int→Int→Option (Expr×Int×Int))(iP:(List Token)→Int→Int→Option (Expr×Int×Int))(iF:(List Token)→Int→Int→Option (Expr×Int×Int))(l:List Token)(level:Int)(cX:Int):Nat→Int→Int→auJ→(List Expr)→Int→Int→Option (Expr×Int×Int)
 | 0=>λ_ _ _ _ _ _=>none
 |m+1=>s_ n h_ iP iF l level cX (qB n h_ iP iF l level cX m)
def EU(h_:(List Token)→Int→Int→Int→Option (Expr×Int×Int))(iP:(List Token)→Int→Int→Option (Expr×Int×Int))(iF:(List Token)→Int→Int→Option (Expr×Int×Int))(l:List Token)(at_:Int)(level:Int)(cX:Int):Option (Expr×Int×Int):=cond (decide (level=9)) ((iP l at_ cX).bind λr2=>some (r2.1,r2.2.1,r2.2.2)) ((LD n l at_ level).bind λr3=>cond (!decide (r3=0)) (cond (decide (cX=24)) (some ((⟨0,0,[],[]⟩:Expr),at_,2)) ((h_ l (auL (at_+1)) level (auL (cX+1))).bind λaU=>some ((⟨r3,0,[],[aU.1]⟩:Expr),aU.2.1,aU.2.2))) ((h_ l at_ (auL (level+1)) cX).bind λbz=>qB n h_ iP iF l level cX n bz.1.Op bz.1.N bz.1.S bz.1.an bz.2.1 bz.2.2))
def EV(h_:(List Token)→Int→Int→Int→Option (Expr×Int×Int))(iP:(List Token)→Int→Int→Option (Expr×Int×Int))(iF:(List Token)→Int→Int→Option (Expr×Int×Int))(l:List Token)(at_:Int)(cX:Int):Option (Expr×Int×Int):=(TV n l at_).bind λbu=>cond (decide (25≤bu)) ((kj n l (auL (at_+1)) ([([40]:auJ),([41]:auJ)]:List auJ)).bind λbz=>some ((⟨bu,0,[],[]⟩:Expr),bz.1,bz.2)) (Option.bind (cond (decide (bu=0)) (kH n l at_ ([40]:auJ)) (some default)) λcg=>cond (cond (decide (bu=0)) (!cg) false) ((uL n l at_).bind λdd=>some ((⟨0,0,[],[]⟩:Expr),at_,dd)) (cond (decide (cX=24)) (some ((⟨0,0,[],[]⟩:Expr),at_,2)) (cond (decide (bu=0)) ((iF l at_ (auL (cX+1))).bind λcu=>some (cu.1,cu.2.1,cu.2.2)) ((iF l (auL (at_+1)) (auL (cX+1))).bind λdQ=>some ((⟨bu,0,[],[dQ.1]⟩:Expr),dQ.2.1,dQ.2.2)))))
def LE(h_:(List Token)→Int→Int→Int→Option (Expr×Int×Int))(iP:(List Token)→Int→Int→Option (Expr×Int×Int))(iF:(List Token)→Int→Int→Option (Expr×Int×Int))(l:List Token)(at_:Int)(cX:Int):Option (Expr×Int×Int):=cond (decide (at_<((l.length:Nat):Int))) (ar (aN at_ l.length)<|cond (decide ((auM l at_).Kind=3)) (ar (aN at_ l.length)<|some ((⟨1,(auM l at_).N,[],[]⟩:Expr),(auL (at_+1)),0)) (cond (decide ((auM l at_).Kind=4)) (ar (aN at_ l.length)<|some ((⟨2,0,(auM l at_).Text,[]⟩:Expr),(auL (at_+1)),0)) (cond (decide ((auM l at_).Kind=1)) (ar (aN at_ l.length)<|some ((⟨3,0,(auM l at_).Text,[]⟩:Expr),(auL (at_+1)),0)) (EV n h_ iP iF l at_ cX)))) (EV n h_ iP iF l at_ cX)
def EW(h_:(List Token)→Int→Int→Int→Option (Expr×Int×Int))(iP:(List Token)→Int→Int→Option (Expr×Int×Int))(iF:(List Token)→Int→Int→Option (Expr×Int×Int))(l:List Token)(at_:Int)(cX:Int):Option (Expr×Int×Int):=(kj n l at_ ([([40]:auJ)]:List auJ)).bind λr1=>cond (!decide (r1.2=0)) (some ((⟨0,0,[],[]⟩:Expr),r1.1,r1.2)) ((h_ l r1.1 1 cX).bind λr3=>cond (!decide (r3.2.2=0)) (some ((⟨0,0,[],[]⟩:Expr),r3.2.1,r3.2.2)) ((kj n l r3.2.1 ([([41]:auJ)]:List auJ)).bind λbu=>some (r3.1,bu.1,bu.2)))
def pz:Nat→((List Token)→Int→Int→Int→Option (Expr×Int×Int))×((List Token)→Int→Int→Option (Expr×Int×Int))×((List Token)→Int→Int→Option (Expr×Int×Int))
 | 0=>(λ_ _ _ _=>none,λ_ _ _=>none,λ_ _ _=>none)
 |m+1=>(EU m ((pz m).1) ((pz m).2.1) ((pz m).2.2),LE m ((pz m).1) ((pz m).2.1) ((pz m).2.2),EW m ((pz m).1) ((pz m).2.1) ((pz m).2.2))
def nS:(List Token)→Int→Int→Int→Option (Expr×Int×Int):=(pz n).1
def ta:(List Token)→Int→Int→Option (Expr×Int×Int):=(pz n).2.1
def uM:(List Token)→Int→Int→Option (Expr×Int×Int):=(pz n).2.2
def TW(n:Nat):auO:=some 0
def TX(l:List Token)(at_:Int)(aj:Int→auO)(v5:Int):auO:=cond (decide (v5<((([([108,101,116]:auJ),([112,117,116]:auJ),([100,101,108,101,116,101]:auJ),([105,102]:auJ),([102,111,114]:auJ),([101,109,105,116]:auJ),([97,98,111,114,116]:auJ)]:List auJ).length:Nat):Int))) (ar (aN v5 ([([108,101,116]:auJ),([112,117,116]:auJ),([100,101,108,101,116,101]:auJ),([105,102]:auJ),([102,111,114]:auJ),([101,109,105,116]:auJ),([97,98,111,114,116]:auJ)]:List auJ).length)<|(kH n l at_ (([([108,101,116]:auJ),([112,117,116]:auJ),([100,101,108,101,116,101]:auJ),([105,102]:auJ),([102,111,114]:auJ),([101,109,105,116]:auJ),([97,98,111,114,116]:auJ)]:List auJ).getD (v5).toNat default)).bind λbz=>cond bz (ar (aN v5 ([1,3,4,5,6,7,8]:List Int).length)<|some (([1,3,4,5,6,7,8]:List Int).getD (v5).toNat default)) (aj (auL (v5+1)))) (TW n)
def EX(n:Nat)(l:List Token)(at_:Int):Nat→Int→auO
 | 0=>λ_=>none
 |m+1=>TX n l at_ (EX n l at_ m)
def TY(l:List Token)(at_:Int):auO:=EX n l at_ n 0
def rM(l:List Token)(at_:Int)(kind:Int):Option (Token×Int×Int):=ar ((decide (((l.length:Nat):Int)≤at_))||aN at_ l.length)<|cond (cond (decide (((l.length:Nat):Int)≤at_)) true (!decide ((auM l at_).Kind=kind))) ((uL n l at_).bind λr3=>some ((⟨0,[],0,0⟩:Token),at_,r3)) (ar (aN at_ l.length)<|some ((auM l at_),(auL (at_+1)),0))
def TZ(n:Nat)(fs:(List Token)→Int→Int→Option ((List Stmt)×Int×Int))(fF:(List Token)→Int→Int→Option (Stmt×Int×Int))(fC:(List Token)→Int→Stmt→Int→Option (Stmt×Int×Int))(fG:(List Token)→Int→Stmt→Int→Option (Stmt×Int×Int))(ck:Int)(aP:List Stmt):Option ((List Stmt)×Int×Int):=some (aP,(auL (ck+1)),0)
def T0(fs:(List Token)→Int→Int→Option ((List Stmt)×Int×Int))(fF:(List Token)→Int→Int→Option (Stmt×Int×Int))(fC:(List Token)→Int→Stmt→Int→Option (Stmt×Int×Int))(fG:(List Token)→Int→Stmt→Int→Option (Stmt×Int×Int))(l:List Token)(depth:Int)(aj:Int→(List Stmt)→Option ((List Stmt)×Int×Int))(v9:Int)(v10:List Stmt):Option ((List Stmt)×Int×Int):=(kH n l v9 ([125]:auJ)).bind λa'=>cond (!a') ((fF l v9 depth).bind λaX=>cond (!decide (aX.2.2=0)) (some (([]:List Stmt),aX.2.1,aX.2.2)) (ar (room (v10.length+([(⟨aX.1.Op,aX.1.Name,aX.1.Max,⟨aX.1.A.Op,aX.1.A.N,aX.1.A.S,aX.1.A.an⟩,⟨aX.1.B.Op,aX.1.B.N,aX.1.B.S,aX.1.B.an⟩,aX.1.Body,aX.1.bK⟩:Stmt)]:List Stmt).length) 192)<|aj aX.2.1 (v10++([(⟨aX.1.Op,aX.1.Name,aX.1.Max,⟨aX.1.A.Op,aX.1.A.N,aX.1.A.S,aX.1.A.an⟩,⟨aX.1.B.Op,aX.1.B.N,aX.1.B.S,aX.1.B.an⟩,aX.1.Body,aX.1.bK⟩:Stmt)]:List Stmt)))) (TZ n fs fF fC fG v9 v10)
def EY(n:Nat)(fs:(List Token)→Int→Int→Option ((List Stmt)×Int×Int))(fF:(List Token)→Int→Int→Option (Stmt×Int×Int))(fC:(List Token)→Int→Stmt→Int→Option (Stmt×Int×Int))(fG:(List Token)→Int→Stmt→Int→Option (Stmt×Int×Int))(l:List Token)(depth:Int):Nat→Int→(List Stmt)→Option ((List Stmt)×Int×Int)
 | 0=>λ_ _=>none
 |m+1=>T0 n fs fF fC fG l depth (EY n fs fF fC fG l depth m)
def LF(fs:(List Token)→Int→Int→Option ((List Stmt)×Int×Int))(fF:(List Token)→Int→Int→Option (Stmt×Int×Int))(fC:(List Token)→Int→Stmt→Int→Option (Stmt×Int×Int))(fG:(List Token)→Int→Stmt→Int→Option (Stmt×Int×Int))(l:List Token)(at_:Int)(depth:Int):Option ((List Stmt)×Int×Int):=(kj n l at_ ([([123]:auJ)]:List auJ)).bind λr1=>cond (!decide (r1.2=0)) (some (([]:List Stmt),r1.1,r1.2)) (cond (decide (12<depth)) (some (([]:List Stmt),(auL (r1.1-1)),2)) (EY n fs fF fC fG l depth n r1.1 ([]:List Stmt)))
def uN(n:Nat)(fs:(List Token)→Int→Int→Option ((List Stmt)×Int×Int))(fF:(List Token)→Int→Int→Option (Stmt×Int×Int))(fC:(List Token)→Int→Stmt→Int→Option (Stmt×Int×Int))(fG:(List Token)→Int→Stmt→Int→Option (Stmt×Int×Int))(l:List Token)(depth:Int)(v4:Int)(bf:auJ)(aX:Expr×Int×Int)(aP:List Expr)(bQ:Int)(b6:Int)(v20:auJ)(v21:Int):Option (Stmt×Int×Int):=(fG l v21 (⟨v4,bf,0,aX.1,⟨bQ,b6,v20,aP⟩,[],[]⟩:Stmt) depth).bind λdr=>some ((⟨dr.1.Op,dr.1.Name,dr.1.Max,⟨dr.1.A.Op,dr.1.A.N,dr.1.A.S,dr.1.A.an⟩,⟨dr.1.B.Op,dr.1.B.N,dr.1.B.S,dr.1.B.an⟩,dr.1.Body,dr.1.bK⟩:Stmt),dr.2.1,dr.2.2)
def EZ(fs:(List Token)→Int→Int→Option ((List Stmt)×Int×Int))(fF:(List Token)→Int→Int→Option (Stmt×Int×Int))(fC:(List Token)→Int→Stmt→Int→Option (Stmt×Int×Int))(fG:(List Token)→Int→Stmt→Int→Option (Stmt×Int×Int))(l:List Token)(aX:Expr×Int×Int)(depth:Int)(v4:Int)(bf:auJ)(bI:auJ):Option (Stmt×Int×Int):=(kj n l aX.2.1 ([bI]:List auJ)).bind λdi=>cond (!decide (di.2=0)) (some ((⟨v4,bf,0,aX.1,⟨0,0,[],[]⟩,[],[]⟩:Stmt),di.1,di.2)) ((nS n l di.1 1 0).bind λcC=>cond (!decide (cC.2.2=0)) (some ((⟨v4,bf,0,aX.1,cC.1,[],[]⟩:Stmt),cC.2.1,cC.2.2)) (uN n fs fF fC fG l depth v4 bf aX cC.1.an cC.1.Op cC.1.N cC.1.S cC.2.1))
def nc(fs:(List Token)→Int→Int→Option ((List Stmt)×Int×Int))(fF:(List Token)→Int→Int→Option (Stmt×Int×Int))(fC:(List Token)→Int→Stmt→Int→Option (Stmt×Int×Int))(fG:(List Token)→Int→Stmt→Int→Option (Stmt×Int×Int))(l:List Token)(depth:Int)(v4:Int)(bf:auJ)(v9:Int):Option (Stmt×Int×Int):=cond (decide (v4=8)) ((fC l v9 (⟨v4,bf,0,⟨0,0,[],[]⟩,⟨0,0,[],[]⟩,[],[]⟩:Stmt) depth).bind λa'=>some ((⟨a'.1.Op,a'.1.Name,a'.1.Max,⟨a'.1.A.Op,a'.1.A.N,a'.1.A.S,a'.1.A.an⟩,⟨a'.1.B.Op,a'.1.B.N,a'.1.B.S,a'.1.B.an⟩,a'.1.Body,a'.1.bK⟩:Stmt),a'.2.1,a'.2.2)) ((nS n l v9 1 0).bind λaX=>cond (!decide (aX.2.2=0)) (some ((⟨v4,bf,0,aX.1,⟨0,0,[],[]⟩,[],[]⟩:Stmt),aX.2.1,aX.2.2)) (cond (cond (decide (v4=3)) true (decide (v4=6))) (cond (decide (v4=6)) (EZ n fs fF fC fG l aX depth v4 bf ([116,111]:auJ)) (EZ n fs fF fC fG l aX depth v4 bf ([61]:auJ))) (uN n fs fF fC fG l depth v4 bf aX ([]:List Expr) 0 0 ([]:auJ) aX.2.1)))
def qC(fs:(List Token)→Int→Int→Option ((List Stmt)×Int×Int))(fF:(List Token)→Int→Int→Option (Stmt×Int×Int))(fC:(List Token)→Int→Stmt→Int→Option (Stmt×Int×Int))(fG:(List Token)→Int→Stmt→Int→Option (Stmt×Int×Int))(l:List Token)(depth:Int)(v4:Int)(v5:Int):Option (Stmt×Int×Int):=cond (cond (cond (decide (v4=1)) true (decide (v4=2))) true (decide (v4=6))) ((rM n l (auL (v5+1)) 1).bind λaU=>cond (!decide (aU.2.2=0)) (some ((⟨v4,[],0,⟨0,0,[],[]⟩,⟨0,0,[],[]⟩,[],[]⟩:Stmt),aU.2.1,aU.2.2)) ((kj n l aU.2.1 ([([61]:auJ)]:List auJ)).bind λbz=>cond (!decide (bz.2=0)) (some ((⟨v4,aU.1.Text,0,⟨0,0,[],[]⟩,⟨0,0,[],[]⟩,[],[]⟩:Stmt),bz.1,bz.2)) (nc n fs fF fC fG l depth v4 aU.1.Text bz.1))) (nc n fs fF fC fG l depth v4 ([]:auJ) (auL (v5+1)))
def LG(fs:(List Token)→Int→Int→Option ((List Stmt)×Int×Int))(fF:(List Token)→Int→Int→Option (Stmt×Int×Int))(fC:(List Token)→Int→Stmt→Int→Option (Stmt×Int×Int))(fG:(List Token)→Int→Stmt→Int→Option (Stmt×Int×Int))(l:List Token)(at_:Int)(depth:Int):Option (Stmt×Int×Int):=(TY n l at_).bind λr1=>cond (decide (r1=0)) (ar ((decide (((l.length:Nat):Int)≤at_))||aN at_ l.length)<|cond (cond (decide (((l.length:Nat):Int)≤at_)) true (!decide ((auM l at_).Kind=1))) ((uL n l at_).bind λr3=>some ((⟨r1,[],0,⟨0,0,[],[]⟩,⟨0,0,[],[]⟩,[],[]⟩:Stmt),at_,r3)) (qC n fs fF fC fG l depth 2 (auL (at_-1)))) (qC n fs fF fC fG l depth r1 at_)
def E0(fs:(List Token)→Int→Int→Option ((List Stmt)×Int×Int))(fF:(List Token)→Int→Int→Option (Stmt×Int×Int))(fC:(List Token)→Int→Stmt→Int→Option (Stmt×Int×Int))(fG:(List Token)→Int→Stmt→Int→Option (Stmt×Int×Int))(l:List Token)(at_:Int)(s:Stmt)(depth:Int):Option (Stmt×Int×Int):=(rM n l at_ 3).bind λr1=>cond (!decide (r1.2.2=0)) (some ((⟨s.Op,s.Name,s.Max,⟨s.A.Op,s.A.N,s.A.S,s.A.an⟩,⟨s.B.Op,s.B.N,s.B.S,s.B.an⟩,s.Body,s.bK⟩:Stmt),r1.2.1,r1.2.2)) (cond (decide (s.Op=8)) ((kj n l r1.2.1 ([([59]:auJ)]:List auJ)).bind λaB=>some ((⟨s.Op,s.Name,r1.1.N,⟨s.A.Op,s.A.N,s.A.S,s.A.an⟩,⟨s.B.Op,s.B.N,s.B.S,s.B.an⟩,s.Body,s.bK⟩:Stmt),aB.1,aB.2)) ((fs l r1.2.1 (auL (depth+1))).bind λbu=>some ((⟨s.Op,s.Name,r1.1.N,⟨s.A.Op,s.A.N,s.A.S,s.A.an⟩,⟨s.B.Op,s.B.N,s.B.S,s.B.an⟩,bu.1,s.bK⟩:Stmt),bu.2.1,bu.2.2)))
def LH(n:Nat)(fs:(List Token)→Int→Int→Option ((List Stmt)×Int×Int))(fF:(List Token)→Int→Int→Option (Stmt×Int×Int))(fC:(List Token)→Int→Stmt→Int→Option (Stmt×Int×Int))(fG:(List Token)→Int→Stmt→Int→Option (Stmt×Int×Int))(s:Stmt)(aU:(List Stmt)×Int×Int)(v9:List Stmt)(v10:Int)(v11:Int):Option (Stmt×Int×Int):=some ((⟨s.Op,s.Name,s.Max,⟨s.A.Op,s.A.N,s.A.S,s.A.an⟩,⟨s.B.Op,s.B.N,s.B.S,s.B.an⟩,aU.1,v9⟩:Stmt),v10,v11)
def AY(fs:(List Token)→Int→Int→Option ((List Stmt)×Int×Int))(fF:(List Token)→Int→Int→Option (Stmt×Int×Int))(fC:(List Token)→Int→Stmt→Int→Option (Stmt×Int×Int))(fG:(List Token)→Int→Stmt→Int→Option (Stmt×Int×Int))(l:List Token)(at_:Int)(s:Stmt)(depth:Int):Option (Stmt×Int×Int):=cond (decide (s.Op=6)) ((kj n l at_ ([([109,97,120]:auJ)]:List auJ)).bind λr2=>cond (!decide (r2.2=0)) (some ((⟨s.Op,s.Name,s.Max,⟨s.A.Op,s.A.N,s.A.S,s.A.an⟩,⟨s.B.Op,s.B.N,s.B.S,s.B.an⟩,s.Body,s.bK⟩:Stmt),r2.1,r2.2)) ((fC l r2.1 (⟨s.Op,s.Name,s.Max,⟨s.A.Op,s.A.N,s.A.S,s.A.an⟩,⟨s.B.Op,s.B.N,s.B.S,s.B.an⟩,s.Body,s.bK⟩:Stmt) depth).bind λaB=>some ((⟨aB.1.Op,aB.1.Name,aB.1.Max,⟨aB.1.A.Op,aB.1.A.N,aB.1.A.S,aB.1.A.an⟩,⟨aB.1.B.Op,aB.1.B.N,aB.1.B.S,aB.1.B.an⟩,aB.1.Body,aB.1.bK⟩:Stmt),aB.2.1,aB.2.2))) (cond (decide (s.Op=5)) ((fs l at_ (auL (depth+1))).bind λaU=>Option.bind (cond (decide (aU.2.2=0)) (kH n l aU.2.1 ([101,108,115,101]:auJ)) (some default)) λbz=>cond (cond (decide (aU.2.2=0)) bz false) ((fs l (auL (aU.2.1+1)) (auL (depth+1))).bind λcg=>LH n fs fF fC fG s aU cg.1 cg.2.1 cg.2.2) (LH n fs fF fC fG s aU s.bK aU.2.1 aU.2.2)) ((kj n l at_ ([([59]:auJ)]:List auJ)).bind λcu=>some ((⟨s.Op,s.Name,s.Max,⟨s.A.Op,s.A.N,s.A.S,s.A.an⟩,⟨s.B.Op,s.B.N,s.B.S,s.B.an⟩,s.Body,s.bK⟩:Stmt),cu.1,cu.2)))
def k7:Nat→((List Token)→Int→Int→Option ((List Stmt)×Int×Int))×((List Token)→Int→Int→Option (Stmt×Int×Int))×((List Token)→Int→Stmt→Int→Option (Stmt×Int×Int))×((List Token)→Int→Stmt→Int→Option (Stmt×Int×Int))
 | 0=>(λ_ _ _=>none,λ_ _ _=>none,λ_ _ _ _=>none,λ_ _ _ _=>none)
 |m+1=>(LF m ((k7 m).1) ((k7 m).2.1) ((k7 m).2.2.1) ((k7 m).2.2.2),LG m ((k7 m).1) ((k7 m).2.1) ((k7 m).2.2.1) ((k7 m).2.2.2),E0 m ((k7 m).1) ((k7 m).2.1) ((k7 m).2.2.1) ((k7 m).2.2.2),AY m ((k7 m).1) ((k7 m).2.1) ((k7 m).2.2.1) ((k7 m).2.2.2))
def mi:(List Token)→Int→Int→Option ((List Stmt)×Int×Int):=(k7 n).1
def nT:(List Token)→Int→Int→Option (Stmt×Int×Int):=(k7 n).2.1
def oJ:(List Token)→Int→Stmt→Int→Option (Stmt×Int×Int):=(k7 n).2.2.1
def nd:(List Token)→Int→Stmt→Int→Option (Stmt×Int×Int):=(k7 n).2.2.2
def E1(ef:Int→(List Param)→Option ((List Param)×Int×Int))(l:List Token)(e8:Int×Int)(ck:List Param)(dB:Token×Int×Int)(v23:Int):Option ((List Param)×Int×Int):=ar (room (ck.length+([(⟨dB.1.Text,v23⟩:Param)]:List Param).length) 24)<|(kH n l (auL (e8.1+1)) ([41]:auJ)).bind λfJ=>cond fJ (some ((ck++([(⟨dB.1.Text,v23⟩:Param)]:List Param)),(auL ((auL (e8.1+1))+1)),0)) ((kj n l (auL (e8.1+1)) ([([44]:auJ)]:List auJ)).bind λr26=>cond (!decide (r26.2=0)) (some (([]:List Param),r26.1,r26.2)) (ef r26.1 (ck++([(⟨dB.1.Text,v23⟩:Param)]:List Param))))
def E2(l:List Token)(ef:Int→(List Param)→Option ((List Param)×Int×Int))(bA:Int)(ck:List Param):Option ((List Param)×Int×Int):=(rM n l bA 1).bind λdB=>cond (!decide (dB.2.2=0)) (some (([]:List Param),dB.2.1,dB.2.2)) ((kj n l dB.2.1 ([([58]:auJ)]:List auJ)).bind λe8=>cond (!decide (e8.2=0)) (some (([]:List Param),e8.1,e8.2)) ((kH n l e8.1 ([105,110,116]:auJ)).bind λfh=>cond fh (E1 n ef l e8 ck dB 1) ((kH n l e8.1 ([115,116,114]:auJ)).bind λel=>cond el (E1 n ef l e8 ck dB 2) ((kH n l e8.1 ([98,111,111,108]:auJ)).bind λeZ=>cond eZ (E1 n ef l e8 ck dB 3) ((uL n l e8.1).bind λdr=>some (([]:List Param),e8.1,dr))))))
def uO(n:Nat)(l:List Token):Nat→Int→(List Param)→Option ((List Param)×Int×Int)
 | 0=>λ_ _=>none
 |m+1=>E2 n l (uO n l m)
def T1(l:List Token)(at_:Int):Option ((List Param)×Int×Int):=(kH n l at_ ([41]:auJ)).bind λr1=>cond r1 (some (([]:List Param),(auL (at_+1)),0)) (uO n l n at_ ([]:List Param))
def AZ(l:List Token)(at_:Int):Option (be×Int×Int):=(kj n l at_ ([([112,114,111,99]:auJ)]:List auJ)).bind λr1=>cond (!decide (r1.2=0)) (some ((⟨[],[],[]⟩:be),r1.1,r1.2)) ((rM n l r1.1 1).bind λr3=>cond (!decide (r3.2.2=0)) (some ((⟨[],[],[]⟩:be),r3.2.1,r3.2.2)) ((kj n l r3.2.1 ([([40]:auJ)]:List auJ)).bind λbu=>cond (!decide (bu.2=0)) (some ((⟨[],[],[]⟩:be),bu.1,bu.2)) ((T1 n l bu.1).bind λbz=>cond (!decide (bz.2.2=0)) (some ((⟨[],[],[]⟩:be),bz.2.1,bz.2.2)) ((mi n l bz.2.1 0).bind λb9=>some ((⟨r3.1.Text,bz.1,b9.1⟩:be),b9.2.1,b9.2.2)))))
def E3(src:auJ):Option (be×Int×Int):=(Ly n src).bind λr1=>cond (!decide (r1.2.2=0)) (some ((⟨[],[],[]⟩:be),r1.2.1,r1.2.2)) ((AZ n r1.1 0).bind λr3=>(Lz n r1.1 r3.2.1 r3.2.2).bind λaB=>cond (!decide (aB=0)) ((LA n r1.1 r3.2.1).bind λaU=>some ((⟨[],[],[]⟩:be),aU,aB)) ((Ew n r3.1).bind λbz=>cond (!decide (bz=0)) (some ((⟨[],[],[]⟩:be),0,bz)) (some (r3.1,0,0))))
def T2(n:Nat)(aP:List be):Option ((List be)×Bool):=some (aP,true)
def LI(l:List auJ)(aj:(List be)→Int→Option ((List be)×Bool))(bf:List be)(v9:Int):Option ((List be)×Bool):=cond (decide (v9<((l.length:Nat):Int))) (ar (aN v9 l.length)<|(E3 n (auM l v9)).bind λa'=>Option.bind (cond (!(!decide (a'.2.2=0))) (xh n a'.1) (some default)) λaX=>ar ((!decide (a'.2.2=0))||aN v9 l.length)<|cond (cond (!decide (a'.2.2=0)) true (!(decide (aX=(auM l v9))))) (some (([]:List be),false)) (ar (room (bf.length+([a'.1]:List be).length) 64)<|aj (bf++([a'.1]:List be)) (auL (v9+1)))) (T2 n bf)
def A0(n:Nat)(l:List auJ):Nat→(List be)→Int→Option ((List be)×Bool)
 | 0=>λ_ _=>none
 |m+1=>LI n l (A0 n l m)
def LJ(l:List auJ):Option ((List be)×Bool):=A0 n l n ([]:List be) 0
def T3(n:Nat)(ck:Int)(aP:List auJ):Option ((List auJ)×Int×Int):=some (aP,ck,0)
def LK(s:auJ)(r1:Int×Int×Int)(aj:Int→Int→(List auJ)→Option ((List auJ)×Int×Int))(bf:Int)(v9:Int)(v10:List auJ):Option ((List auJ)×Int×Int):=cond (decide (v9<r1.1)) ((nb n s bf 16384).bind λa'=>cond (!decide (a'.2.2=0)) (some (([]:List auJ),0,a'.2.2)) (ar (room (v10.length+([a'.1]:List auJ).length) 16)<|aj a'.2.1 (auL (v9+1)) (v10++([a'.1]:List auJ)))) (T3 n bf v10)
def xr(n:Nat)(s:auJ)(r1:Int×Int×Int):Nat→Int→Int→(List auJ)→Option ((List auJ)×Int×Int)
 | 0=>λ_ _ _=>none
 |m+1=>LK n s r1 (xr n s r1 m)
def LL(s:auJ)(at_:Int):Option ((List auJ)×Int×Int):=(nQ n s at_ 16).bind λr1=>cond (!decide (r1.2.2=0)) (some (([]:List auJ),0,r1.2.2)) (xr n s r1 n r1.2.1 0 ([]:List auJ))
def rN(s:auJ):Option (bL×Int):=cond (decide (16384<((s.length:Nat):Int))) (some ((⟨0,⟨0,0,[]⟩,[],[],⟨0,[]⟩,[],[],0⟩:bL),2)) ((nR n s 0).bind λr2=>cond (!decide (r2.2.2=0)) (some ((⟨0,⟨0,0,[]⟩,[],[],⟨0,[]⟩,[],[],0⟩:bL),r2.2.2)) ((K' n s r2.2.1).bind λaB=>cond (!decide (aB.2.2=0)) (some ((⟨0,⟨0,0,[]⟩,[],[],⟨0,[]⟩,[],[],0⟩:bL),aB.2.2)) ((LL n s aB.2.1).bind λaU=>cond (!decide (aU.2.2=0)) (some ((⟨0,⟨0,0,[]⟩,[],[],⟨0,[]⟩,[],[],0⟩:bL),aU.2.2)) ((Ln n s aU.2.1).bind λcg=>cond (!decide (cg.2.2=0)) (some ((⟨0,⟨0,0,[]⟩,[],[],⟨0,[]⟩,[],[],0⟩:bL),cg.2.2)) ((Lc n s cg.2.1).bind λdd=>cond (!decide (dd.2.2=0)) (some ((⟨0,⟨0,0,[]⟩,[],[],⟨0,[]⟩,[],[],0⟩:bL),dd.2.2)) ((Lp n s dd.2.1).bind λaX=>cond (!decide (aX.2.2=0)) (some ((⟨0,⟨0,0,[]⟩,[],[],⟨0,[]⟩,[],[],0⟩:bL),aX.2.2)) ((Lg n s aX.2.1).bind λdQ=>cond (!decide (dQ.2.2=0)) (some ((⟨0,⟨0,0,[]⟩,[],[],⟨0,[]⟩,[],[],0⟩:bL),dQ.2.2)) ((qA n s dQ.2.1).bind λcC=>cond (!decide (cC.2.2=0)) (some ((⟨0,⟨0,0,[]⟩,[],[],⟨0,[]⟩,[],[],0⟩:bL),cC.2.2)) ((LJ n aU.1).bind λe8=>cond (cond (cond (cond (!decide (cC.2.1=((s.length:Nat):Int))) true (decide (r2.1<0))) true (decide (1099511627776<r2.1))) true (!e8.2)) (some ((⟨0,⟨0,0,[]⟩,[],[],⟨0,[]⟩,[],[],0⟩:bL),5)) ((w_ n aB.1 r2.1).bind λel=>(AM n (⟨r2.1,el.1,e8.1,cg.1,dd.1,aX.1,dQ.1,cC.1⟩:bL)).bind λeZ=>cond (!eZ) (some ((⟨0,⟨0,0,[]⟩,[],[],⟨0,[]⟩,[],[],0⟩:bL),5)) (some ((⟨r2.1,el.1,e8.1,cg.1,dd.1,aX.1,dQ.1,cC.1⟩:bL),0))))))))))))
def LM(n:Nat)(s:auJ)(aU:Int×Int×Int)(aB:bL×Int)(v21:List auJ)(v22:Int):Option (bL×(List auJ)×Int):=cond (cond (!decide (v22=((s.length:Nat):Int))) true (decide ((auL (1099511627776-aB.1.Pos))<aU.1))) (some ((⟨0,⟨0,0,[]⟩,[],[],⟨0,[]⟩,[],[],0⟩:bL),([]:List auJ),5)) (some (aB.1,v21,0))
def LN(s:auJ)(aU:Int×Int×Int)(aB:bL×Int)(aj:(List auJ)→Int→Int→Option (bL×(List auJ)×Int))(cD:List auJ)(bI:Int)(bA:Int):Option (bL×(List auJ)×Int):=cond (decide (bI<aU.1)) ((nb n s bA 4096).bind λcC=>cond (!decide (cC.2.2=0)) (some ((⟨0,⟨0,0,[]⟩,[],[],⟨0,[]⟩,[],[],0⟩:bL),([]:List auJ),cC.2.2)) (ar (room (cD.length+([cC.1]:List auJ).length) 16)<|aj (cD++([cC.1]:List auJ)) (auL (bI+1)) cC.2.1)) (LM n s aU aB cD bA)
def xt(n:Nat)(s:auJ)(aU:Int×Int×Int)(aB:bL×Int):Nat→(List auJ)→Int→Int→Option (bL×(List auJ)×Int)
 | 0=>λ_ _ _=>none
 |m+1=>LN n s aU aB (xt n s aU aB m)
def LO(s:auJ):Option (bL×(List auJ)×Int):=cond (decide (16384<((s.length:Nat):Int))) (some ((⟨0,⟨0,0,[]⟩,[],[],⟨0,[]⟩,[],[],0⟩:bL),([]:List auJ),2)) ((nb n s 0 16384).bind λr2=>cond (!decide (r2.2.2=0)) (some ((⟨0,⟨0,0,[]⟩,[],[],⟨0,[]⟩,[],[],0⟩:bL),([]:List auJ),r2.2.2)) ((rN n r2.1).bind λaB=>cond (!decide (aB.2=0)) (some ((⟨0,⟨0,0,[]⟩,[],[],⟨0,[]⟩,[],[],0⟩:bL),([]:List auJ),aB.2)) ((nQ n s r2.2.1 16384).bind λaU=>cond (!decide (aU.2.2=0)) (some ((⟨0,⟨0,0,[]⟩,[],[],⟨0,[]⟩,[],[],0⟩:bL),([]:List auJ),aU.2.2)) (xt n s aU aB n ([]:List auJ) 0 aU.2.1))))
def T4(s:auJ):auN:=cond (decide (4000<((s.length:Nat):Int))) ((K6 n).bind λr2=>some r2) ((D8 n s).bind λr3=>(LO n s).bind λaB=>(Au n r3.1 aB.1).bind λbu=>Option.bind (cond bu (xa n r3.2.1 aB.2.1) (some default)) λaU=>Option.bind (cond (cond (cond bu aU false) (decide (r3.2.2=aB.2.2)) false) (K6 n) (some default)) λbz=>some (cond (cond (cond bu aU false) (decide (r3.2.2=aB.2.2)) false) bz false))
end Go.Ab.Y

/- What each function computes, over plain data, with fuel. Printed by a program. -/
import Derived.Test.YtcjbfnojhpfchaaGreatDoorHand
set_option linter.all false
namespace Go.Ab.Y
open Go Go.Ab Go.Proofs
variable (n:Nat)
def LA(n:Nat)(c:Int):anX:=some (cond (cond (cond (cond (cond (cond (decide (97≤c)) (decide (c≤122)) false) true (cond (decide (48≤c)) (decide (c≤57)) false)) true (decide (c=47))) true (decide (c=46))) true (decide (c=95))) true (decide (c=45)))
def LB(n:Nat):anX:=some true
def E3(s:anT)(aq:Int→anX)(v5:Int):anX:=cond (decide (v5<((s.length:Nat):Int))) ( aE (a7 v5 s.length)<|(LA n (((s.getD (v5).toNat 0).toNat:Nat):Int)).bind λcJ=>cond (!cJ) ( some false) ( aq (anV (v5+1)))) ( LB n)
def xj(n:Nat)(s:anT):Nat→Int→anX
 | 0=>λ_=>none
 |m+1=>E3 n s (xj n s m)
def E4(s:anT):anX:=cond (decide (24<((s.length:Nat):Int))) ( some false) ( xj n s n 0)
def uP(k:anT):anX:=Option.bind (cond (!(decide (k=([]:anT)))) (E4 n k) (some default)) λr1=>some (cond (!(decide (k=([]:anT)))) r1 false)
def LC(n:Nat)(l:List anT):anX:=some (decide (((l.length:Nat):Int)≤64))
def E5(l:List anT)(aq:Int→anX)(v5:Int):anX:=cond (decide (v5<((l.length:Nat):Int))) ( aE (a7 v5 l.length)<|(uP n (anW l v5)).bind λcJ=>aE ((!cJ)||(!(decide (0<v5))||a7 (anV (v5-1)) l.length))<|cond (cond (!cJ) true (cond (decide (0<v5)) ((Op.bytesLess (anW l v5) (anW l (anV (v5-1))))||(decide ((anW l v5)=(anW l (anV (v5-1)))))) false)) ( some false) ( aq (anV (v5+1)))) ( LC n l)
def xk(n:Nat)(l:List anT):Nat→Int→anX
 | 0=>λ_=>none
 |m+1=>E5 n l (xk n l m)
def A1(l:List anT):anX:=xk n l n 0
def A2(f:fg):anX:=cond f.eI ( some (cond (decide (((f.Reads.length:Nat):Int)=0)) (decide (((f.cT.length:Nat):Int)=0)) false)) ( (A1 n f.Reads).bind λr2=>Option.bind (cond r2 (A1 n f.cT) (some default)) λr3=>some (cond r2 r3 false))
def LD(n:Nat):anX:=some false
def hS(v1:Bool):anX:=cond v1 ( some true) ( LD n)
def A3(s:anT):anX:=cond (decide (s=([112,114,111,99]:anT))) ( hS n (decide (s=([112,114,111,99]:anT)))) ( cond (decide (s=([108,101,116]:anT))) ( hS n (decide (s=([108,101,116]:anT)))) ( cond (decide (s=([112,117,116]:anT))) ( hS n (decide (s=([112,117,116]:anT)))) ( cond (decide (s=([100,101,108,101,116,101]:anT))) ( hS n (decide (s=([100,101,108,101,116,101]:anT)))) ( cond (decide (s=([105,102]:anT))) ( hS n (decide (s=([105,102]:anT)))) ( cond (decide (s=([101,108,115,101]:anT))) ( hS n (decide (s=([101,108,115,101]:anT)))) ( cond (decide (s=([102,111,114]:anT))) ( hS n (decide (s=([102,111,114]:anT)))) ( cond (decide (s=([116,111]:anT))) ( hS n (decide (s=([116,111]:anT)))) ( cond (decide (s=([109,97,120]:anT))) ( hS n (decide (s=([109,97,120]:anT)))) ( cond (decide (s=([101,109,105,116]:anT))) ( hS n (decide (s=([101,109,105,116]:anT)))) ( cond (decide (s=([97,98,111,114,116]:anT))) ( hS n (decide (s=([97,98,111,114,116]:anT)))) ( cond (decide (s=([110,111,116]:anT))) ( hS n (decide (s=([110,111,116]:anT)))) ( cond (decide (s=([97,110,100]:anT))) ( hS n (decide (s=([97,110,100]:anT)))) ( cond (decide (s=([111,114]:anT))) ( hS n (decide (s=([111,114]:anT)))) ( cond (decide (s=([105,110,116]:anT))) ( hS n (decide (s=([105,110,116]:anT)))) ( cond (decide (s=([115,116,114]:anT))) ( hS n (decide (s=([115,116,114]:anT)))) ( cond (decide (s=([98,111,111,108]:anT))) ( hS n (decide (s=([98,111,111,108]:anT)))) ( cond (decide (s=([116,101,120,116]:anT))) ( hS n (decide (s=([116,101,120,116]:anT)))) ( cond (decide (s=([108,101,110]:anT))) ( hS n (decide (s=([108,101,110]:anT)))) ( cond (decide (s=([103,101,116,105,110,116]:anT))) ( hS n (decide (s=([103,101,116,105,110,116]:anT)))) ( cond (decide (s=([103,101,116,115,116,114]:anT))) ( hS n (decide (s=([103,101,116,115,116,114]:anT)))) ( cond (decide (s=([104,97,115]:anT))) ( hS n (decide (s=([104,97,115]:anT)))) ( cond (decide (s=([110,111,119]:anT))) ( hS n (decide (s=([110,111,119]:anT)))) ( cond (decide (s=([114,97,110,100,111,109]:anT))) ( hS n (decide (s=([114,97,110,100,111,109]:anT)))) ( hS n (decide (s=([110,111,100,101]:anT)))))))))))))))))))))))))))
def A4(n:Nat)(c:Int):anX:=some (cond (decide (97≤c)) (decide (c≤122)) false)
def rq(s:anT):anX:=aE (!(cond (!(decide (s=([]:anT)))) (decide (((s.length:Nat):Int)≤16)) false)||a7 0 s.length)<|Option.bind (cond (cond (!(decide (s=([]:anT)))) (decide (((s.length:Nat):Int)≤16)) false) (A4 n (IntKind.i32.wrap (((s.getD 0 0).toNat:Nat):Int))) (some default)) λr2=>Option.bind (cond (cond (cond (!(decide (s=([]:anT)))) (decide (((s.length:Nat):Int)≤16)) false) r2 false) (xg n s) (some default)) λr3=>Option.bind (cond (cond (cond (cond (!(decide (s=([]:anT)))) (decide (((s.length:Nat):Int)≤16)) false) r2 false) (decide (r3=((s.length:Nat):Int))) false) (A3 n s) (some default)) λaZ=>some (cond (cond (cond (cond (!(decide (s=([]:anT)))) (decide (((s.length:Nat):Int)≤16)) false) r2 false) (decide (r3=((s.length:Nat):Int))) false) (!aZ) false)
def TJ(n:Nat)(s:anT):anX:=some (decide (((s.length:Nat):Int)≤64))
def LE(s:anT)(aq:Int→anX)(v4:Int):anX:=cond (decide (v4<((s.length:Nat):Int))) ( aE (a7 v4 s.length)<|aE ((decide ((((s.getD (v4).toNat 0).toNat:Nat):Int)<32))||a7 v4 s.length)<|cond (cond (decide ((((s.getD (v4).toNat 0).toNat:Nat):Int)<32)) true (decide (126<(((s.getD (v4).toNat 0).toNat:Nat):Int)))) ( some false) ( aq (anV (v4+1)))) ( TJ n s)
def A5(n:Nat)(s:anT):Nat→Int→anX
 | 0=>λ_=>none
 |m+1=>LE n s (A5 n s m)
def A6(s:anT):anX:=A5 n s n 0
def rr(v:bq):anX:=cond (decide (v.Kind=0)) ( some ((decide (v.Kind=0))&&((decide (v.N=0))&&((decide (v.S=([]:anT)))&&true)))) ( cond (decide (v.Kind=1)) ( some (decide (v.S=([]:anT)))) ( cond (decide (v.Kind=2)) ( Option.bind (cond (decide (v.N=0)) (A6 n v.S) (some default)) λaZ=>some (cond (decide (v.N=0)) aZ false)) ( some false)))
def LF(v:bq):anX:=Option.bind (cond (!(decide (v.Kind=0))) (rr n v) (some default)) λr1=>some (cond (decide (v.Kind=0)) true (!r1))
def LG(n:Nat):anY:=some (-1)
def E6(s:List bq)(aq:Int→anY)(v4:Int):anY:=cond (decide (v4<((s.length:Nat):Int))) ( aE (a7 v4 s.length)<|(LF n (anW s v4)).bind λb8=>cond b8 ( some v4) ( aq (anV (v4+1)))) ( LG n)
def xl(n:Nat)(s:List bq):Nat→Int→anY
 | 0=>λ_=>none
 |m+1=>E6 n s (xl n s m)
def LH(s:List bq):anY:=xl n s n 0
def LI(s:List bq):anX:=(LH n s).bind λr1=>some (decide (0≤r1))
def nG(aj:Request):anY:=cond (cond (cond (cond (decide (aj.Client<1)) true (decide (32<aj.Client))) true (decide (aj.Seq<1))) true (decide (1099511627776<aj.Seq))) ( some 1) ( (rq n aj.bd).bind λr2=>cond (!r2) ( some 7) ( cond (decide (6<((aj.aw.length:Nat):Int))) ( some 2) ( (LI n aj.aw).bind λcA=>cond cA ( some 1) ( (A2 n aj.bx).bind λcJ=>cond (cond (cond (!cJ) true aj.bx.eI) true (cond (!aj.eW) (decide (0<(anV (((aj.bx.Reads.length:Nat):Int)+((aj.bx.cT.length:Nat):Int))))) false)) ( some 1) ( some 0)))))
def E7(n:Nat)(b:List Int)(c:Int):Option (List Int):=aE (room (b.length+([c]:List Int).length) 1)<|some (b++([c]:List Int))
def LJ(v9:Int)(v10:List Int):Option anT:=(E7 n v10 (IntKind.u8.wrap v9)).bind λbZ=>aE (oc bZ)<|some (kS bZ)
def LK(aq:Int→(List Int)→Option anT)(v4:Int)(v5:List Int):Option anT:=cond (decide (128≤v4)) ( (E7 n v5 (pQ .u8 (IntKind.u8.wrap v4) 128)).bind λb8=>aq (mw .u64 v4 7) b8) ( LJ n v4 v5)
def A7(n:Nat):Nat→Int→(List Int)→Option anT
 | 0=>λ_ _=>none
 |m+1=>LK n (A7 n m)
def hA(u:Int):Option anT:=A7 n n u ([]:List Int)
def pf(s:anT):Option anT:=(hA n (IntKind.u64.wrap ((s.length:Nat):Int))).bind λr1=>aE (eU (r1.length+s.length))<|some (r1++s)
def LL(n:Nat)(cj:anT):Option anT:=some cj
def E8(l:List anT)(aq:Int→anT→Option anT)(bK:Int)(bV:anT):Option anT:=cond (decide (bK<((l.length:Nat):Int))) ( aE (a7 bK l.length)<|(pf n (anW l bK)).bind λc8=>aE (eU (bV.length+c8.length))<|aq (anV (bK+1)) (bV++c8)) ( LL n bV)
def xm(n:Nat)(l:List anT):Nat→Int→anT→Option anT
 | 0=>λ_ _=>none
 |m+1=>E8 n l (xm n l m)
def A8(l:List anT):Option anT:=(hA n (IntKind.u64.wrap ((l.length:Nat):Int))).bind λr1=>xm n l n 0 r1
def qd(hT:Int):Option anT:=(hA n (l7 .u64 (n0 .u64 (IntKind.u64.wrap hT) 1) (IntKind.u64.wrap (mw .i64 hT 63)))).bind λr1=>some r1
def uQ(v:bq):Option anT:=cond (decide (v.Kind=1)) ( (hA n 1).bind λr2=>(qd n v.N).bind λr3=>aE (eU (r2.length+r3.length))<|some (r2++r3)) ( cond (decide (v.Kind=2)) ( (hA n 2).bind λb8=>(pf n v.S).bind λcJ=>aE (eU (b8.length+cJ.length))<|some (b8++cJ)) ( (hA n 0).bind λcy=>some cy))
def LM(n:Nat)(b:Bool):Option anT:=cond b ( some ([1]:anT)) ( some ([0]:anT))
def A9(n:Nat)(jm:anT):Option anT:=some jm
def A'(aj:Request)(db:anT):Option anT:=(LM n aj.eW).bind λe7=>aE (eU (db.length+e7.length))<|cond aj.eW ( (A8 n aj.bx.Reads).bind λgE=>(A8 n aj.bx.cT).bind λr26=>aE (eU (gE.length+r26.length))<|aE (eU ((db++e7).length+(gE++r26).length))<|A9 n ((db++e7)++(gE++r26))) ( A9 n (db++e7))
def E9(aj:Request)(eb:anT→Int→Option anT)(cu:anT)(ep:Int):Option anT:=cond (decide (ep<((aj.aw.length:Nat):Int))) ( aE (a7 ep aj.aw.length)<|(uQ n (anW aj.aw ep)).bind λf_=>aE (eU (cu.length+f_.length))<|eb (cu++f_) (anV (ep+1))) ( A' n aj cu)
def xn(n:Nat)(aj:Request):Nat→anT→Int→Option anT
 | 0=>λ_ _=>none
 |m+1=>E9 n aj (xn n aj m)
def E'(aj:Request):Option anT:=(nG n aj).bind λr1=>cond (!decide (r1=0)) ( some ([]:anT)) ( (hA n (IntKind.u64.wrap aj.Client)).bind λr3=>(hA n (IntKind.u64.wrap aj.Seq)).bind λaZ=>aE (eU (r3.length+aZ.length))<|(pf n aj.bd).bind λb8=>aE (eU ((r3++aZ).length+b8.length))<|(hA n (IntKind.u64.wrap ((aj.aw.length:Nat):Int))).bind λcM=>aE (eU (((r3++aZ)++b8).length+cM.length))<|xn n aj n (((r3++aZ)++b8)++cM) 0)
def LN(n:Nat)(a6:anT):Option anT:=some a6
def E_(l:List Request)(aq:Int→anT→Option anT)(v9:Int)(v10:anT):Option anT:=cond (decide (v9<((l.length:Nat):Int))) ( aE (a7 v9 l.length)<|(nG n (⟨(anW l v9).Client,(anW l v9).Seq,(anW l v9).bd,(anW l v9).aw,(anW l v9).eW,⟨((anW l v9).bx).eI,((anW l v9).bx).Reads,((anW l v9).bx).cT⟩⟩:Request)).bind λez=>cond (!decide (ez=0)) ( some ([]:anT)) ( (E' n (⟨(anW l v9).Client,(anW l v9).Seq,(anW l v9).bd,(anW l v9).aw,(anW l v9).eW,⟨((anW l v9).bx).eI,((anW l v9).bx).Reads,((anW l v9).bx).cT⟩⟩:Request)).bind λdz=>aE (eU (v10.length+dz.length))<|aq (anV (v9+1)) (v10++dz))) ( LN n v10)
def xo(n:Nat)(l:List Request):Nat→Int→anT→Option anT
 | 0=>λ_ _=>none
 |m+1=>E_ n l (xo n l m)
def xp(l:List Request):Option anT:=cond (decide (64<((l.length:Nat):Int))) ( some ([]:anT)) ( (hA n (IntKind.u64.wrap ((l.length:Nat):Int))).bind λr2=>xo n l n 0 r2)
def LO(n:Nat):anX:=some true
def Fa(floor:Int)(last:Int)(aj:Row)(aq:Int→anX)(bV:Int):anX:=cond (decide (bV<((aj.bJ.length:Nat):Int))) ( aE (a7 bV aj.bJ.length)<|Option.bind (cond (!(cond (decide ((anW aj.bJ bV).cl<floor)) true (decide (last<(anW aj.bJ bV).cl)))) (rr n (⟨((anW aj.bJ bV).b0).Kind,((anW aj.bJ bV).b0).N,((anW aj.bJ bV).b0).S⟩:bq)) (some default)) λc8=>cond (cond (cond (decide ((anW aj.bJ bV).cl<floor)) true (decide (last<(anW aj.bJ bV).cl))) true (!c8)) ( some false) ( aE (!(decide (0<bV))||a7 (anV (bV-1)) aj.bJ.length)<|aE (!(decide (0<bV))||((decide ((anW aj.bJ bV).cl≤(anW aj.bJ (anV (bV-1))).cl))||a7 (anV (bV-1)) aj.bJ.length))<|cond (cond (decide (0<bV)) (cond (decide ((anW aj.bJ bV).cl≤(anW aj.bJ (anV (bV-1))).cl)) true ((decide (((anW aj.bJ bV).b0).Kind=((anW aj.bJ (anV (bV-1))).b0).Kind))&&((decide (((anW aj.bJ bV).b0).N=((anW aj.bJ (anV (bV-1))).b0).N))&&((decide (((anW aj.bJ bV).b0).S=((anW aj.bJ (anV (bV-1))).b0).S))&&true)))) false) ( some false) ( aq (anV (bV+1))))) ( LO n)
def xq(n:Nat)(floor:Int)(last:Int)(aj:Row):Nat→Int→anX
 | 0=>λ_=>none
 |m+1=>Fa n floor last aj (xq n floor last aj m)
def Fb(aj:Row)(floor:Int)(last:Int):anX:=aE ((decide (((aj.bJ.length:Nat):Int)=0))||a7 0 aj.bJ.length)<|cond (cond (decide (((aj.bJ.length:Nat):Int)=0)) true (decide (((aj.bJ.getD 0 default).b0).Kind=0))) ( some false) ( xq n floor last aj n 0)
def LP(n:Nat):anX:=some true
def Fc(s:aA)(aq:Int→anX)(bK:Int):anX:=cond (decide (bK<((s.Rows.length:Nat):Int))) ( aE (a7 bK s.Rows.length)<|(uP n ((anW s.Rows bK).Key)).bind λcy=>aE ((!cy)||(!(decide (0<bK))||a7 (anV (bK-1)) s.Rows.length))<|Option.bind (cond (!(cond (!cy) true (cond (decide (0<bK)) ((Op.bytesLess ((anW s.Rows bK).Key) ((anW s.Rows (anV (bK-1))).Key))||(decide (((anW s.Rows bK).Key)=((anW s.Rows (anV (bK-1))).Key)))) false))) (Fb n (anW s.Rows bK) s.cD s.cp) (some default)) λbZ=>cond (cond (cond (!cy) true (cond (decide (0<bK)) ((Op.bytesLess ((anW s.Rows bK).Key) ((anW s.Rows (anV (bK-1))).Key))||(decide (((anW s.Rows bK).Key)=((anW s.Rows (anV (bK-1))).Key)))) false)) true (!bZ)) ( some false) ( aq (anV (bK+1)))) ( LP n)
def xr(n:Nat)(s:aA):Nat→Int→anX
 | 0=>λ_=>none
 |m+1=>Fc n s (xr n s m)
def uR(s:aA):anX:=cond (cond (cond (decide (s.cD<0)) true (decide (s.cp<s.cD))) true (decide (1099511627776<s.cp))) ( some false) ( xr n s n 0)
def xt(n:Nat)(s:aA)(at_:Int):anY:=cond (cond (decide (at_<s.cD)) true (decide (s.cp<at_))) ( some 15) ( some 0)
def Fd(n:Nat)(v6:Int):anY:=some v6
def Fe(at_:Int)(aj:Row)(aq:Int→anY)(v3:Int):anY:=aE (!(decide (v3<((aj.bJ.length:Nat):Int)))||a7 v3 aj.bJ.length)<|cond (cond (decide (v3<((aj.bJ.length:Nat):Int))) (decide ((anW aj.bJ v3).cl≤at_)) false) ( aq (anV (v3+1))) ( Fd n v3)
def uS(n:Nat)(at_:Int)(aj:Row):Nat→Int→anY
 | 0=>λ_=>none
 |m+1=>Fe n at_ aj (uS n at_ aj m)
def A_(aj:Row)(at_:Int):anY:=uS n at_ aj n 0
def xu(aj:Row)(at_:Int):Option bq:=(A_ n aj at_).bind λr1=>cond (decide (r1=0)) ( some (⟨0,0,[]⟩:bq)) ( aE (a7 (anV (r1-1)) aj.bJ.length)<|some (⟨((anW aj.bJ (anV (r1-1))).b0).Kind,((anW aj.bJ (anV (r1-1))).b0).N,((anW aj.bJ (anV (r1-1))).b0).S⟩:bq))
def Ff(n:Nat)(c':List bI):Option ((List bI)×Int):=some (c',0)
def xv(n:Nat)(aq:Int→(List bI)→Option ((List bI)×Int))(at_:Int)(s:aA)(v11:Int)(ep:List bI):Option ((List bI)×Int):=aq (anV (v11+1)) ep
def Fg(at_:Int)(s:aA)(aq:Int→(List bI)→Option ((List bI)×Int))(v11:Int)(v12:List bI):Option ((List bI)×Int):=cond (decide (v11<((s.Rows.length:Nat):Int))) ( aE (a7 v11 s.Rows.length)<|(xu n (anW s.Rows v11) at_).bind λeF=>cond (!decide (eF.Kind=0)) ( aE (room (v12.length+([(⟨(anW s.Rows v11).Key,eF⟩:bI)]:List bI).length) 48)<|xv n aq at_ s v11 (v12++([(⟨(anW s.Rows v11).Key,eF⟩:bI)]:List bI))) ( xv n aq at_ s v11 v12)) ( Ff n v12)
def uT(n:Nat)(at_:Int)(s:aA):Nat→Int→(List bI)→Option ((List bI)×Int)
 | 0=>λ_ _=>none
 |m+1=>Fg n at_ s (uT n at_ s m)
def uU(s:aA)(at_:Int):Option ((List bI)×Int):=(uR n s).bind λr1=>cond (!r1) ( some (([]:List bI),1)) ( (xt n s at_).bind λr3=>cond (!decide (r3=0)) ( some (([]:List bI),r3)) ( uT n at_ s n 0 ([]:List bI)))
def LQ(n:Nat)(mh:anT):Option anT:=some mh
def Fh(p:b7)(aq:Int→anT→Option anT)(a6:Int)(cF:anT):Option anT:=cond (decide (a6<((p.aW.length:Nat):Int))) ( aE (a7 a6 p.aW.length)<|(qd n ((anW p.aW a6).Id)).bind λeQ=>(pf n ((anW p.aW a6).fQ)).bind λfB=>aE (eU (eQ.length+fB.length))<|(qd n ((anW p.aW a6).Node)).bind λe7=>aE (eU ((eQ++fB).length+e7.length))<|(qd n ((anW p.aW a6).h2)).bind λgE=>aE (eU (((eQ++fB)++e7).length+gE.length))<|(pf n ((anW p.aW a6).ir)).bind λr27=>aE (eU ((((eQ++fB)++e7)++gE).length+r27.length))<|aE (eU (cF.length+((((eQ++fB)++e7)++gE)++r27).length))<|aq (anV (a6+1)) (cF++((((eQ++fB)++e7)++gE)++r27))) ( LQ n cF)
def xw(n:Nat)(p:b7):Nat→Int→anT→Option anT
 | 0=>λ_ _=>none
 |m+1=>Fh n p (xw n p m)
def Ba(p:b7):Option anT:=(qd n p.Version).bind λr1=>(hA n (IntKind.u64.wrap ((p.aW.length:Nat):Int))).bind λr2=>aE (eU (r1.length+r2.length))<|xw n p n 0 (r1++r2)
def LR(n:Nat)(y:Param)(ad:Param):anX:=some (decide (y.Name=ad.Name))
def LS(n:Nat)(ad:Param):anY:=some (-1)
def LT(s:List Param)(ad:Param)(aq:Int→anY)(v4:Int):anY:=cond (decide (v4<((s.length:Nat):Int))) ( aE (a7 v4 s.length)<|(LR n (anW s v4) ad).bind λb8=>cond b8 ( some v4) ( aq (anV (v4+1)))) ( LS n ad)
def xx(n:Nat)(s:List Param)(ad:Param):Nat→Int→anY
 | 0=>λ_=>none
 |m+1=>LT n s ad (xx n s ad m)
def LU(s:List Param)(ad:Param):anY:=xx n s ad n 0
def Fj(s:List Param)(ad:Param):anX:=(LU n s ad).bind λr1=>some (decide (0≤r1))
def LV(n:Nat):anY:=some 0
def LW(l:List Param)(aq:Int→anY)(bK:Int):anY:=cond (decide (bK<((l.length:Nat):Int))) ( aE (a7 bK l.length)<|(rq n ((anW l bK).Name)).bind λcy=>cond (!cy) ( some 7) ( cond (cond (decide ((anW l bK).gp<1)) true (decide (3<(anW l bK).gp))) ( some 10) ( aE (gC bK l.length)<|(Fj n (l.take (bK).toNat) (anW l bK)).bind λbZ=>cond bZ ( some 8) ( aq (anV (bK+1)))))) ( LV n)
def xy(n:Nat)(l:List Param):Nat→Int→anY
 | 0=>λ_=>none
 |m+1=>LW n l (xy n l m)
def Fk(l:List Param):anY:=cond (decide (6<((l.length:Nat):Int))) ( some 2) ( xy n l n 0)
def Fl(n:Nat)(op:Int):anY:=cond (cond (decide (op<1)) true (decide (27<op))) ( some (-1)) ( cond (cond (decide (op≤3)) true (decide (25≤op))) ( some 0) ( cond (cond (cond (decide (op=9)) true (decide (op=18))) true (decide (20≤op))) ( some 1) ( some 2)))
def LX(n:Nat)(s:anT):anX:=some (decide (((s.length:Nat):Int)≤64))
def LY(s:anT)(aq:Int→anX)(v4:Int):anX:=cond (decide (v4<((s.length:Nat):Int))) ( aE (a7 v4 s.length)<|aE ((decide ((((s.getD (v4).toNat 0).toNat:Nat):Int)<32))||a7 v4 s.length)<|cond (cond (decide ((((s.getD (v4).toNat 0).toNat:Nat):Int)<32)) true (decide (126<(((s.getD (v4).toNat 0).toNat:Nat):Int)))) ( some false) ( aq (anV (v4+1)))) ( LX n s)
def xz(n:Nat)(s:anT):Nat→Int→anX
 | 0=>λ_=>none
 |m+1=>LY n s (xz n s m)
def LZ(s:anT):anX:=xz n s n 0
def Fm(e:Expr)(depth:Int):anY:=(Fl n e.Op).bind λr1=>cond (cond (cond (decide (r1<0)) true (cond (!decide (e.Op=1)) (!decide (e.N=0)) false)) true (cond (cond (!decide (e.Op=2)) (!decide (e.Op=3)) false) (!(decide (e.S=([]:anT)))) false)) ( some 1) ( Option.bind (cond (decide (e.Op=3)) (rq n e.S) (some default)) λr3=>cond (cond (decide (e.Op=3)) (!r3) false) ( some 7) ( Option.bind (cond ((!(cond (decide (e.Op=1)) (decide (e.N<0)) false))&&(decide (e.Op=2))) (LZ n e.S) (some default)) λcA=>cond (cond (cond (cond (decide (e.Op=1)) (decide (e.N<0)) false) true (cond (decide (e.Op=2)) (!cA) false)) true (!decide (((e.aw.length:Nat):Int)=r1))) ( some 1) ( cond (decide (12<depth)) ( some 2) ( some 0))))
def L0(n:Nat)(mL:Expr→Int→anY):anY:=some 0
def L1(mL:Expr→Int→anY)(depth:Int)(e:Expr)(aq:Int→anY)(v6:Int):anY:=cond (decide (v6<((e.aw.length:Nat):Int))) ( aE (a7 v6 e.aw.length)<|(mL (anW e.aw v6) (anV (depth+1))).bind λcM=>cond (!decide (cM=0)) ( some cM) ( aq (anV (v6+1)))) ( L0 n mL)
def Bb(n:Nat)(mL:Expr→Int→anY)(depth:Int)(e:Expr):Nat→Int→anY
 | 0=>λ_=>none
 |m+1=>L1 n mL depth e (Bb n mL depth e m)
def L2(mL:Expr→Int→anY)(e:Expr)(depth:Int):anY:=(Fm n e depth).bind λr1=>cond (!decide (r1=0)) ( some r1) ( Bb n mL depth e n 0)
def xA:Nat→Expr→Int→anY
 | 0=>λ_ _=>none
 |m+1=>L2 m (xA m)
def Bc(e:Expr):anY:=(xA n e 1).bind λr1=>some r1
def xB(n:Nat)(e:Expr):anX:=some (cond (cond (cond (decide (e.Op=0)) (decide (e.N=0)) false) (decide (e.S=([]:anT))) false) (decide (((e.aw.length:Nat):Int)=0)) false)
def Fn(s:Stmt)(u:kp):anX:=Option.bind (cond ((!(cond (!u.name) (!(decide (s.Name=([]:anT)))) false))&&(!u.a)) (xB n (⟨s.A.Op,s.A.N,s.A.S,s.A.aw⟩:Expr)) (some default)) λr1=>Option.bind (cond ((!(cond (cond (!u.name) (!(decide (s.Name=([]:anT)))) false) true (cond (!u.a) (!r1) false)))&&(!u.b)) (xB n (⟨s.B.Op,s.B.N,s.B.S,s.B.aw⟩:Expr)) (some default)) λr2=>cond (cond (cond (cond (cond (cond (cond (!u.name) (!(decide (s.Name=([]:anT)))) false) true (cond (!u.a) (!r1) false)) true (cond (!u.b) (!r2) false)) true (cond (!u.max) (!decide (s.Max=0)) false)) true (cond (!u.body) (decide (0<((s.Body.length:Nat):Int))) false)) true (cond (!u.other) (decide (0<((s.bw.length:Nat):Int))) false)) ( some false) ( cond (decide (s.Op=6)) ( some (cond (decide (1≤s.Max)) (decide (s.Max≤16)) false)) ( cond (decide (s.Op=8)) ( some (cond (decide (0≤s.Max)) (decide (s.Max≤999)) false)) ( some true)))
def L3(n:Nat):Option (kp×Bool):=some ((⟨false,false,false,false,false,false⟩:kp),false)
def Fo(op:Int)(v2:Bool):Option (kp×Bool):=cond v2 ( some ((⟨false,true,false,false,false,false⟩:kp),true)) ( cond (decide (op=5)) ( some ((⟨false,true,false,false,true,true⟩:kp),true)) ( cond (decide (op=6)) ( some ((⟨true,true,true,true,true,false⟩:kp),true)) ( cond (decide (op=8)) ( some ((⟨false,false,false,true,false,false⟩:kp),true)) ( L3 n))))
def Fp(op:Int)(v1:Bool):Option (kp×Bool):=cond v1 ( some ((⟨true,true,false,false,false,false⟩:kp),true)) ( cond (decide (op=3)) ( some ((⟨false,true,true,false,false,false⟩:kp),true)) ( cond (decide (op=4)) ( Fo n op (decide (op=4))) ( Fo n op (decide (op=7)))))
def Fq(op:Int):Option (kp×Bool):=cond (decide (op=1)) ( Fp n op (decide (op=1))) ( Fp n op (decide (op=2)))
def Fr(n:Nat)(depth:Int):anY:=cond (decide (12<depth)) ( some 2) ( some 0)
def Fs(depth:Int)(s:Stmt)(r1:kp×Bool):anY:=cond r1.1.b ( (Bc n (⟨s.B.Op,s.B.N,s.B.S,s.B.aw⟩:Expr)).bind λcJ=>cond (!decide (cJ=0)) ( some cJ) ( Fr n depth)) ( Fr n depth)
def Ft(s:Stmt)(depth:Int):anY:=(Fq n s.Op).bind λr1=>Option.bind (cond (!(!r1.2)) (Fn n (⟨s.Op,s.Name,s.Max,⟨s.A.Op,s.A.N,s.A.S,s.A.aw⟩,⟨s.B.Op,s.B.N,s.B.S,s.B.aw⟩,s.Body,s.bw⟩:Stmt) r1.1) (some default)) λr2=>cond (cond (!r1.2) true (!r2)) ( some 1) ( Option.bind (cond r1.1.name (rq n s.Name) (some default)) λaZ=>cond (cond r1.1.name (!aZ) false) ( some 7) ( cond r1.1.a ( (Bc n (⟨s.A.Op,s.A.N,s.A.S,s.A.aw⟩:Expr)).bind λb8=>cond (!decide (b8=0)) ( some b8) ( Fs n depth s r1)) ( Fs n depth s r1)))
def Fu(s:Stmt)(depth:Int)(ad:Int):anY:=cond (decide (ad=0)) ( (Ft n (⟨s.Op,s.Name,s.Max,⟨s.A.Op,s.A.N,s.A.S,s.A.aw⟩,⟨s.B.Op,s.B.N,s.B.S,s.B.aw⟩,s.Body,s.bw⟩:Stmt) depth).bind λr2=>some r2) ( some ad)
def L4(n:Nat)(a0:Expr):Option Unit:=some ()
def L5(n:Nat)(pg:Expr→Int→Int→anY)(e:Expr)(gc:Int)(cP:Int→Int→anY)(v6:Int)(bK:Int):anY:=cond (decide (bK<((e.aw.length:Nat):Int))) ( aE (a7 bK e.aw.length)<|(pg (anW e.aw bK) v6 gc).bind λcy=>cP cy (anV (bK+1))) ( some v6)
def Bd(n:Nat)(pg:Expr→Int→Int→anY)(e:Expr)(gc:Int):Nat→Int→Int→anY
 | 0=>λ_ _=>none
 |m+1=>L5 n pg e gc (Bd n pg e gc m)
def L6(pg:Expr→Int→Int→anY)(e:Expr)(iW:Int)(gc:Int):anY:=cond (decide (iW=0)) ( some iW) ( Bd n pg e gc n (anV (iW-1)) 0)
def xC:Nat→Expr→Int→Int→anY
 | 0=>λ_ _ _=>none
 |m+1=>L6 m (xC m)
def Be(e:Expr)(iW:Int)(gc:Int):anY:=Option.bind (cond (!(decide (iW=0))) (xB n e) (some default)) λr1=>cond (cond (decide (iW=0)) true r1) ( some iW) ( (L4 n e).bind λr3=>(xC n e iW gc).bind λaZ=>some aZ)
def L7(oh:(List Stmt)→Int→Int→Int→Option (Int×Int))(depth:Int)(l:List Stmt)(cP:Int→Int→Int→Option (Int×Int))(v10:Int)(v11:Int)(v12:Int):Option (Int×Int):=cond (decide (v12<((l.length:Nat):Int))) ( aE (a7 v12 l.length)<|cond (decide (v10=0)) ( some (v10,v11)) ( (Fu n (⟨(anW l v12).Op,(anW l v12).Name,(anW l v12).Max,⟨((anW l v12).A).Op,((anW l v12).A).N,((anW l v12).A).S,((anW l v12).A).aw⟩,⟨((anW l v12).B).Op,((anW l v12).B).N,((anW l v12).B).S,((anW l v12).B).aw⟩,(anW l v12).Body,(anW l v12).bw⟩:Stmt) depth v11).bind λeF=>(Be n (⟨((anW l v12).A).Op,((anW l v12).A).N,((anW l v12).A).S,((anW l v12).A).aw⟩:Expr) (anV (v10-1)) eF).bind λdH=>(Be n (⟨((anW l v12).B).Op,((anW l v12).B).N,((anW l v12).B).S,((anW l v12).B).aw⟩:Expr) dH eF).bind λeR=>(oh ((anW l v12).Body) (anV (depth+1)) eR eF).bind λe'=>(oh ((anW l v12).bw) (anV (depth+1)) e'.1 e'.2).bind λf_=>cP f_.1 f_.2 (anV (v12+1)))) ( some (v10,v11))
def Bf(n:Nat)(oh:(List Stmt)→Int→Int→Int→Option (Int×Int))(depth:Int)(l:List Stmt):Nat→Int→Int→Int→Option (Int×Int)
 | 0=>λ_ _ _=>none
 |m+1=>L7 n oh depth l (Bf n oh depth l m)
def L8(oh:(List Stmt)→Int→Int→Int→Option (Int×Int))(l:List Stmt)(depth:Int)(iW:Int)(gc:Int):Option (Int×Int):=Bf n oh depth l n iW gc 0
def uV:Nat→(List Stmt)→Int→Int→Int→Option (Int×Int)
 | 0=>λ_ _ _ _=>none
 |m+1=>L8 m (uV m)
def L9(p:bd)(ad:Int):Option (Int×Int):=(uV n p.Body 1 401 ad).bind λr1=>some ((anV (401-r1.1)),r1.2)
def Bg(p:bd):anY:=(rq n p.Name).bind λr1=>cond (!r1) ( some 7) ( (Fk n p.Params).bind λr3=>cond (!decide (r3=0)) ( some r3) ( (L9 n p r3).bind λcA=>cond (cond (decide (cA.2=0)) (decide (400<cA.1)) false) ( some 2) ( some cA.2)))
def Fv(n:Nat)(ty:Int):Option anT:=cond (decide (ty=1)) ( some ([105,110,116]:anT)) ( cond (decide (ty=2)) ( some ([115,116,114]:anT)) ( some ([98,111,111,108]:anT)))
def qe(n:Nat)(op:Int):Option (Unit ⊕ Unit ⊕ Unit ⊕ Unit ⊕ Unit ⊕ Unit ⊕ Unit ⊕ Unit):=cond (decide (op=1)) ( some (.inl ())) ( cond (decide (op=2)) ( some (.inr (.inl ()))) ( cond (decide (op=3)) ( some (.inr (.inr (.inl ())))) ( cond (decide (op=4)) ( some (.inr (.inr (.inr (.inl ()))))) ( cond (decide (op=5)) ( some (.inr (.inr (.inr (.inr (.inl ())))))) ( cond (decide (op=6)) ( some (.inr (.inr (.inr (.inr (.inr (.inl ()))))))) ( cond (decide (op=7)) ( some (.inr (.inr (.inr (.inr (.inr (.inr (.inl ())))))))) ( some (.inr (.inr (.inr (.inr (.inr (.inr (.inr ()))))))))))))))
def uW(hT:Int):Option anT:=(E0 n hT 10).bind λr1=>some r1
def xD(n:Nat)(bQ:List Int)(bW:Int):Option Unit:=some ()
def Fw(c:Int)(bQ:List Int)(bW:Int):Option (List Int):=(xD n bQ bW).bind λr1=>aE (room (bQ.length+([c]:List Int).length) 1)<|some (bQ++([c]:List Int))
def Bh(s:anT)(bQ:List Int)(bW:Int):Option (Int×(List Int)):=(xD n bQ bW).bind λr1=>aE (room (bQ.length+s.length) 1)<|some (((s.length:Nat):Int),(bQ++s.map λb=>(b.toNat:Int)))
def L'(bW:Int)(v20:List Int):Option (List Int):=(Fw n 10 v20 bW).bind λfB=>some fB
def L_(parts:List anT)(bW:Int)(eb:(List Int)→Int→Option (List Int))(cj:List Int)(cu:Int):Option (List Int):=cond (decide (cu<((parts.length:Nat):Int))) ( aE (a7 cu parts.length)<|(Bh n (anW parts cu) cj bW).bind λe'=>eb e'.2 (anV (cu+1))) ( L' n bW cj)
def Bi(n:Nat)(parts:List anT)(bW:Int):Nat→(List Int)→Int→Option (List Int)
 | 0=>λ_ _=>none
 |m+1=>L_ n parts bW (Bi n parts bW m)
def Ma(parts:List anT)(bW:Int)(v9:List Int):Option (List Int):=Bi n parts bW n v9 0
def Mb(parts:List anT)(bW:Int)(dS:(List Int)→Int→Option (List Int))(v4:List Int)(v5:Int):Option (List Int):=cond (decide (v5<bW)) ( (Bh n ([32,32,32,32]:anT) v4 bW).bind λb8=>dS b8.2 (anV (v5+1))) ( Ma n parts bW v4)
def Bj(n:Nat)(parts:List anT)(bW:Int):Nat→(List Int)→Int→Option (List Int)
 | 0=>λ_ _=>none
 |m+1=>Mb n parts bW (Bj n parts bW m)
def lP(parts:List anT)(bQ:List Int)(bW:Int):Option (List Int):=Bj n parts bW n bQ 0
def Mc(s:Stmt)(bQ:List Int)(bW:Int):Option (List Int):=(uW n s.Max).bind λr1=>(lP n ([([97,98,111,114,116,32]:anT),r1,([59]:anT)]:List anT) bQ bW).bind λr2=>some r2
def Md(n:Nat):anX:=some true
def Me(s:anT)(aq:Int→anX)(v4:Int):anX:=cond (decide (v4<((s.length:Nat):Int))) ( aE (a7 v4 s.length)<|aE ((decide ((((s.getD (v4).toNat 0).toNat:Nat):Int)<32))||a7 v4 s.length)<|cond (cond (decide ((((s.getD (v4).toNat 0).toNat:Nat):Int)<32)) true (decide (126<(((s.getD (v4).toNat 0).toNat:Nat):Int)))) ( some false) ( aq (anV (v4+1)))) ( Md n)
def Bk(n:Nat)(s:anT):Nat→Int→anX
 | 0=>λ_=>none
 |m+1=>Me n s (Bk n s m)
def Mf(s:anT):anX:=Bk n s n 0
def ru(n:Nat)(bQ:List Int):Option (anT×(List Int)):=aE (oc bQ&&decide (bQ.length≤9223372036854775807))<|some (kS bQ,bQ)
def xE(n:Nat)(bQ:List Int):Option Unit:=some ()
def qf(c:Int)(bQ:List Int):Option (List Int):=(xE n bQ).bind λr1=>aE (room (bQ.length+([c]:List Int).length) 1)<|some (bQ++([c]:List Int))
def Mg(v25:List Int):Option (anT×Int):=(qf n 34 v25).bind λr26=>(ru n r26).bind λr27=>some (r27.1,0)
def Mh(n:Nat)(aq:(List Int)→Int→Option (anT×Int))(s:anT)(cu:Int)(db:List Int):Option (anT×Int):=aq db (anV (cu+1))
def Fx(aq:(List Int)→Int→Option (anT×Int))(s:anT)(cu:Int)(c':List Int):Option (anT×Int):=aE (a7 cu s.length)<|(qf n (((s.getD (cu).toNat 0).toNat:Nat):Int) c').bind λfB=>Mh n aq s cu fB
def Mi(s:anT)(aq:(List Int)→Int→Option (anT×Int))(cj:List Int)(cu:Int):Option (anT×Int):=cond (decide (cu<((s.length:Nat):Int))) ( aE (a7 cu s.length)<|aE ((decide ((((s.getD (cu).toNat 0).toNat:Nat):Int)=34))||a7 cu s.length)<|cond (cond (decide ((((s.getD (cu).toNat 0).toNat:Nat):Int)=34)) true (decide ((((s.getD (cu).toNat 0).toNat:Nat):Int)=92))) ( (qf n 92 cj).bind λf_=>Fx n aq s cu f_) ( Fx n aq s cu cj)) ( Mg n cj)
def Bl(n:Nat)(s:anT):Nat→(List Int)→Int→Option (anT×Int)
 | 0=>λ_ _=>none
 |m+1=>Mi n s (Bl n s m)
def Fy(s:anT):Option (anT×Int):=cond (decide (64<((s.length:Nat):Int))) ( some (([]:anT),2)) ( (Mf n s).bind λr2=>cond (!r2) ( some (([]:anT),1)) ( (qf n 34 ([]:List Int)).bind λaZ=>Bl n s n aZ 0))
def Mj(n:Nat):anY:=some 9
def Bm(op:Int)(v3:Bool):anY:=cond v3 ( some 7) ( cond (decide (op=9)) ( some 8) ( Mj n))
def Fz(op:Int)(v2:Bool):anY:=cond v2 ( some 6) ( cond (decide (op=6)) ( Bm n op (decide (op=6))) ( cond (decide (op=7)) ( Bm n op (decide (op=7))) ( Bm n op (decide (op=8)))))
def sH(op:Int)(v1:Bool):anY:=cond v1 ( some 4) ( cond (decide (op=19)) ( some 5) ( cond (decide (op=4)) ( Fz n op (decide (op=4))) ( Fz n op (decide (op=5)))))
def Bn(op:Int):anY:=cond (decide (op=17)) ( some 1) ( cond (decide (op=16)) ( some 2) ( cond (decide (op=18)) ( some 3) ( cond (decide (op=10)) ( sH n op (decide (op=10))) ( cond (decide (op=11)) ( sH n op (decide (op=11))) ( cond (decide (op=12)) ( sH n op (decide (op=12))) ( cond (decide (op=13)) ( sH n op (decide (op=13))) ( cond (decide (op=14)) ( sH n op (decide (op=14))) ( sH n op (decide (op=15))))))))))
def FA(n:Nat)(op:Int):Option anT:=cond (decide (op=17)) ( some ([111,114]:anT)) ( cond (decide (op=16)) ( some ([97,110,100]:anT)) ( cond (decide (op=10)) ( some ([61,61]:anT)) ( cond (decide (op=11)) ( some ([33,61]:anT)) ( cond (decide (op=12)) ( some ([60]:anT)) ( cond (decide (op=13)) ( some ([60,61]:anT)) ( cond (decide (op=14)) ( some ([62]:anT)) ( cond (decide (op=15)) ( some ([62,61]:anT)) ( cond (decide (op=19)) ( some ([43,43]:anT)) ( cond (decide (op=4)) ( some ([43]:anT)) ( cond (decide (op=5)) ( some ([45]:anT)) ( cond (decide (op=6)) ( some ([42]:anT)) ( cond (decide (op=7)) ( some ([47]:anT)) ( some ([37]:anT))))))))))))))
def FB(n:Nat)(op:Int):Option anT:=cond (decide (op=20)) ( some ([116,101,120,116]:anT)) ( cond (decide (op=21)) ( some ([108,101,110]:anT)) ( cond (decide (op=22)) ( some ([103,101,116,105,110,116]:anT)) ( cond (decide (op=23)) ( some ([103,101,116,115,116,114]:anT)) ( cond (decide (op=24)) ( some ([104,97,115]:anT)) ( cond (decide (op=25)) ( some ([110,111,119]:anT)) ( cond (decide (op=26)) ( some ([114,97,110,100,111,109]:anT)) ( cond (decide (op=27)) ( some ([110,111,100,101]:anT)) ( some ([]:anT)))))))))
def FC(qg:Expr→Option anT)(nH:Expr→Int→Option anT)(e:Expr):Option anT:=(Bn n e.Op).bind λr1=>cond (decide (e.Op=1)) ( (uW n e.N).bind λr3=>some r3) ( cond (decide (e.Op=2)) ( (Fy n e.S).bind λcA=>some cA.1) ( cond (decide (e.Op=3)) ( some e.S) ( cond (decide (e.Op=18)) ( aE (a7 0 e.aw.length)<|(nH (e.aw.getD 0 default) r1).bind λcy=>aE (eU (([110,111,116,32]:anT).length+cy.length))<|some (([110,111,116,32]:anT)++cy)) ( cond (decide (e.Op=9)) ( aE (a7 0 e.aw.length)<|(nH (e.aw.getD 0 default) r1).bind λdz=>aE (eU (([45]:anT).length+dz.length))<|some (([45]:anT)++dz)) ( cond (cond (decide (r1=9)) (decide (((e.aw.length:Nat):Int)=0)) false) ( (FB n e.Op).bind λeR=>aE (eU (eR.length+([40,41]:anT).length))<|some (eR++([40,41]:anT))) ( cond (decide (r1=9)) ( (FB n e.Op).bind λgj=>aE (eU (gj.length+([40]:anT).length))<|aE (a7 0 e.aw.length)<|(qg (e.aw.getD 0 default)).bind λet=>aE (eU ((gj++([40]:anT)).length+et.length))<|aE (eU (((gj++([40]:anT))++et).length+([41]:anT).length))<|some (((gj++([40]:anT))++et)++([41]:anT))) ( cond (decide (r1=4)) ( aE (a7 0 e.aw.length)<|(nH (e.aw.getD 0 default) 5).bind λr27=>aE (eU (r27.length+([32]:anT).length))<|(FA n e.Op).bind λgd=>aE (eU ((r27++([32]:anT)).length+gd.length))<|aE (eU (((r27++([32]:anT))++gd).length+([32]:anT).length))<|aE (a7 1 e.aw.length)<|(nH (e.aw.getD 1 default) 5).bind λsI=>aE (eU ((((r27++([32]:anT))++gd)++([32]:anT)).length+sI.length))<|some ((((r27++([32]:anT))++gd)++([32]:anT))++sI)) ( aE (a7 0 e.aw.length)<|(nH (e.aw.getD 0 default) r1).bind λxF=>aE (eU (xF.length+([32]:anT).length))<|(FA n e.Op).bind λBo=>aE (eU ((xF++([32]:anT)).length+Bo.length))<|aE (eU (((xF++([32]:anT))++Bo).length+([32]:anT).length))<|aE (a7 1 e.aw.length)<|(nH (e.aw.getD 1 default) (anV (r1+1))).bind λmM=>aE (eU ((((xF++([32]:anT))++Bo)++([32]:anT)).length+mM.length))<|some ((((xF++([32]:anT))++Bo)++([32]:anT))++mM)))))))))
def FD(qg:Expr→Option anT)(nH:Expr→Int→Option anT)(e:Expr)(least:Int):Option anT:=(Bn n e.Op).bind λr1=>cond (decide (r1<least)) ( (qg e).bind λr3=>aE (eU (([40]:anT).length+r3.length))<|aE (eU ((([40]:anT)++r3).length+([41]:anT).length))<|some ((([40]:anT)++r3)++([41]:anT))) ( (qg e).bind λb8=>some b8)
def xG:Nat→(Expr→Option anT)×(Expr→Int→Option anT)
 | 0=>(λ_=>none,λ_ _=>none)
 |m+1=>(FC m ((xG m).1) ((xG m).2),FD m ((xG m).1) ((xG m).2))
def lm:Expr→Option anT:=(xG n).1
def uX:Expr→Int→Option anT:=(xG n).2
def Mk(s:Stmt)(bQ:List Int)(bW:Int):Option (List Int):=(lm n (⟨s.A.Op,s.A.N,s.A.S,s.A.aw⟩:Expr)).bind λr1=>(lP n ([s.Name,([32,61,32]:anT),r1,([59]:anT)]:List anT) bQ bW).bind λr2=>some r2
def Ml(s:Stmt)(bQ:List Int)(bW:Int):Option (List Int):=(lm n (⟨s.A.Op,s.A.N,s.A.S,s.A.aw⟩:Expr)).bind λr1=>(lP n ([([108,101,116,32]:anT),s.Name,([32,61,32]:anT),r1,([59]:anT)]:List anT) bQ bW).bind λr2=>some r2
def Mm(s:Stmt)(bQ:List Int)(bW:Int):Option (List Int):=(lm n (⟨s.A.Op,s.A.N,s.A.S,s.A.aw⟩:Expr)).bind λr1=>(lP n ([([101,109,105,116,32]:anT),r1,([59]:anT)]:List anT) bQ bW).bind λr2=>some r2
def Mn(s:Stmt)(bQ:List Int)(bW:Int):Option (List Int):=(lm n (⟨s.A.Op,s.A.N,s.A.S,s.A.aw⟩:Expr)).bind λr1=>(lm n (⟨s.B.Op,s.B.N,s.B.S,s.B.aw⟩:Expr)).bind λr2=>(lP n ([([112,117,116,32]:anT),r1,([32,61,32]:anT),r2,([59]:anT)]:List anT) bQ bW).bind λr3=>some r3
def Mo(s:Stmt)(bQ:List Int)(bW:Int):Option (List Int):=(lm n (⟨s.A.Op,s.A.N,s.A.S,s.A.aw⟩:Expr)).bind λr1=>(lP n ([([100,101,108,101,116,101,32]:anT),r1,([59]:anT)]:List anT) bQ bW).bind λr2=>some r2
def Mp(n:Nat)(hJ:(List Stmt)→(List Int)→Int→Option ((List Int)×Int))(h5:Stmt→(List Int)→Int→Option ((List Int)×Int))(h6:Stmt→(List Int)→Int→Option ((List Int)×Int))(mh:List Int)(hK:Int):Option ((List Int)×Int):=some (mh,(anV (hK-1)))
def Mq(hJ:(List Stmt)→(List Int)→Int→Option ((List Int)×Int))(h5:Stmt→(List Int)→Int→Option ((List Int)×Int))(h6:Stmt→(List Int)→Int→Option ((List Int)×Int))(l:List Stmt)(aq:(List Int)→Int→Int→Option ((List Int)×Int))(cu:List Int)(ep:Int)(a6:Int):Option ((List Int)×Int):=cond (decide (a6<((l.length:Nat):Int))) ( aE (a7 a6 l.length)<|(qe n ((anW l a6).Op)).bind λgj=>hQ.on gj (λac5=>(Ml n (⟨(anW l a6).Op,(anW l a6).Name,(anW l a6).Max,⟨((anW l a6).A).Op,((anW l a6).A).N,((anW l a6).A).S,((anW l a6).A).aw⟩,⟨((anW l a6).B).Op,((anW l a6).B).N,((anW l a6).B).S,((anW l a6).B).aw⟩,(anW l a6).Body,(anW l a6).bw⟩:Stmt) cu ep).bind λfB=>aq fB ep (anV (a6+1))) (λTK=>hQ.on TK (λac6=>(Mk n (⟨(anW l a6).Op,(anW l a6).Name,(anW l a6).Max,⟨((anW l a6).A).Op,((anW l a6).A).N,((anW l a6).A).S,((anW l a6).A).aw⟩,⟨((anW l a6).B).Op,((anW l a6).B).N,((anW l a6).B).S,((anW l a6).B).aw⟩,(anW l a6).Body,(anW l a6).bw⟩:Stmt) cu ep).bind λet=>aq et ep (anV (a6+1))) (λTL=>hQ.on TL (λac7=>(Mn n (⟨(anW l a6).Op,(anW l a6).Name,(anW l a6).Max,⟨((anW l a6).A).Op,((anW l a6).A).N,((anW l a6).A).S,((anW l a6).A).aw⟩,⟨((anW l a6).B).Op,((anW l a6).B).N,((anW l a6).B).S,((anW l a6).B).aw⟩,(anW l a6).Body,(anW l a6).bw⟩:Stmt) cu ep).bind λe7=>aq e7 ep (anV (a6+1))) (λTM=>hQ.on TM (λac8=>(Mo n (⟨(anW l a6).Op,(anW l a6).Name,(anW l a6).Max,⟨((anW l a6).A).Op,((anW l a6).A).N,((anW l a6).A).S,((anW l a6).A).aw⟩,⟨((anW l a6).B).Op,((anW l a6).B).N,((anW l a6).B).S,((anW l a6).B).aw⟩,(anW l a6).Body,(anW l a6).bw⟩:Stmt) cu ep).bind λr24=>aq r24 ep (anV (a6+1))) (λTN=>hQ.on TN (λac9=>(h5 (⟨(anW l a6).Op,(anW l a6).Name,(anW l a6).Max,⟨((anW l a6).A).Op,((anW l a6).A).N,((anW l a6).A).S,((anW l a6).A).aw⟩,⟨((anW l a6).B).Op,((anW l a6).B).N,((anW l a6).B).S,((anW l a6).B).aw⟩,(anW l a6).Body,(anW l a6).bw⟩:Stmt) cu ep).bind λgE=>aq gE.1 gE.2 (anV (a6+1))) (λTO=>hQ.on TO (λac'=>(h6 (⟨(anW l a6).Op,(anW l a6).Name,(anW l a6).Max,⟨((anW l a6).A).Op,((anW l a6).A).N,((anW l a6).A).S,((anW l a6).A).aw⟩,⟨((anW l a6).B).Op,((anW l a6).B).N,((anW l a6).B).S,((anW l a6).B).aw⟩,(anW l a6).Body,(anW l a6).bw⟩:Stmt) cu ep).bind λr26=>aq r26.1 r26.2 (anV (a6+1))) (λTP=>hQ.on TP (λac_=>(Mm n (⟨(anW l a6).Op,(anW l a6).Name,(anW l a6).Max,⟨((anW l a6).A).Op,((anW l a6).A).N,((anW l a6).A).S,((anW l a6).A).aw⟩,⟨((anW l a6).B).Op,((anW l a6).B).N,((anW l a6).B).S,((anW l a6).B).aw⟩,(anW l a6).Body,(anW l a6).bw⟩:Stmt) cu ep).bind λr27=>aq r27 ep (anV (a6+1))) (λada=>(Mc n (⟨(anW l a6).Op,(anW l a6).Name,(anW l a6).Max,⟨((anW l a6).A).Op,((anW l a6).A).N,((anW l a6).A).S,((anW l a6).A).aw⟩,⟨((anW l a6).B).Op,((anW l a6).B).N,((anW l a6).B).S,((anW l a6).B).aw⟩,(anW l a6).Body,(anW l a6).bw⟩:Stmt) cu ep).bind λoi=>aq oi ep (anV (a6+1)))))))))) ( Mp n hJ h5 h6 cu ep)
def Bp(n:Nat)(hJ:(List Stmt)→(List Int)→Int→Option ((List Int)×Int))(h5:Stmt→(List Int)→Int→Option ((List Int)×Int))(h6:Stmt→(List Int)→Int→Option ((List Int)×Int))(l:List Stmt):Nat→(List Int)→Int→Int→Option ((List Int)×Int)
 | 0=>λ_ _ _=>none
 |m+1=>Mq n hJ h5 h6 l (Bp n hJ h5 h6 l m)
def FE(hJ:(List Stmt)→(List Int)→Int→Option ((List Int)×Int))(h5:Stmt→(List Int)→Int→Option ((List Int)×Int))(h6:Stmt→(List Int)→Int→Option ((List Int)×Int))(l:List Stmt)(bQ:List Int)(bW:Int):Option ((List Int)×Int):=Bp n hJ h5 h6 l n bQ (anV (bW+1)) 0
def FF(hJ:(List Stmt)→(List Int)→Int→Option ((List Int)×Int))(h5:Stmt→(List Int)→Int→Option ((List Int)×Int))(h6:Stmt→(List Int)→Int→Option ((List Int)×Int))(v6:List Int)(bK:Int):Option ((List Int)×Int):=(lP n ([([125]:anT)]:List anT) v6 bK).bind λcM=>some (cM,bK)
def FG(hJ:(List Stmt)→(List Int)→Int→Option ((List Int)×Int))(h5:Stmt→(List Int)→Int→Option ((List Int)×Int))(h6:Stmt→(List Int)→Int→Option ((List Int)×Int))(s:Stmt)(bQ:List Int)(bW:Int):Option ((List Int)×Int):=(lm n (⟨s.A.Op,s.A.N,s.A.S,s.A.aw⟩:Expr)).bind λr1=>(lP n ([([105,102,32]:anT),r1,([32,123]:anT)]:List anT) bQ bW).bind λr2=>(hJ s.Body r2 bW).bind λr3=>cond (decide (0<((s.bw.length:Nat):Int))) ( (lP n ([([125,32,101,108,115,101,32,123]:anT)]:List anT) r3.1 r3.2).bind λaZ=>(hJ s.bw aZ r3.2).bind λcA=>FF n hJ h5 h6 cA.1 cA.2) ( FF n hJ h5 h6 r3.1 r3.2)
def FH(hJ:(List Stmt)→(List Int)→Int→Option ((List Int)×Int))(h5:Stmt→(List Int)→Int→Option ((List Int)×Int))(h6:Stmt→(List Int)→Int→Option ((List Int)×Int))(s:Stmt)(bQ:List Int)(bW:Int):Option ((List Int)×Int):=(lm n (⟨s.A.Op,s.A.N,s.A.S,s.A.aw⟩:Expr)).bind λr1=>(lm n (⟨s.B.Op,s.B.N,s.B.S,s.B.aw⟩:Expr)).bind λr2=>(uW n s.Max).bind λr3=>(lP n ([([102,111,114,32]:anT),s.Name,([32,61,32]:anT),r1,([32,116,111,32]:anT),r2,([32,109,97,120,32]:anT),r3,([32,123]:anT)]:List anT) bQ bW).bind λaZ=>(hJ s.Body aZ bW).bind λcA=>(lP n ([([125]:anT)]:List anT) cA.1 cA.2).bind λb8=>some (b8,cA.2)
def oj:Nat→((List Stmt)→(List Int)→Int→Option ((List Int)×Int))×(Stmt→(List Int)→Int→Option ((List Int)×Int))×(Stmt→(List Int)→Int→Option ((List Int)×Int))
 | 0=>(λ_ _ _=>none,λ_ _ _=>none,λ_ _ _=>none)
 |m+1=>(FE m ((oj m).1) ((oj m).2.1) ((oj m).2.2),FG m ((oj m).1) ((oj m).2.1) ((oj m).2.2),FH m ((oj m).1) ((oj m).2.1) ((oj m).2.2))
def qh:(List Stmt)→(List Int)→Int→Option ((List Int)×Int):=(oj n).1
def uY:Stmt→(List Int)→Int→Option ((List Int)×Int):=(oj n).2.1
def uZ:Stmt→(List Int)→Int→Option ((List Int)×Int):=(oj n).2.2
def FI(n:Nat)(bQ:List Int)(bW:Int):Option (anT×(List Int)):=aE (oc bQ&&decide (bQ.length≤9223372036854775807))<|some (kS bQ,bQ)
def Mr(p:bd)(c':List anT):Option anT:=(E1 n c' ([44,32]:anT)).bind λeQ=>(lP n ([([112,114,111,99,32]:anT),p.Name,([40]:anT),eQ,([41,32,123]:anT)]:List anT) ([]:List Int) 0).bind λfB=>(qh n p.Body fB 0).bind λet=>(lP n ([([125]:anT)]:List anT) et.1 et.2).bind λe7=>(FI n e7 et.2).bind λr24=>some r24.1
def Ms(p:bd)(aq:Int→(List anT)→Option anT)(v10:Int)(v11:List anT):Option anT:=cond (decide (v10<((p.Params.length:Nat):Int))) ( aE (a7 v10 p.Params.length)<|aE (eU (((anW p.Params v10).Name).length+([58,32]:anT).length))<|(Fv n ((anW p.Params v10).gp)).bind λeF=>aE (eU ((((anW p.Params v10).Name)++([58,32]:anT)).length+eF.length))<|aE (room (v11.length+([((((anW p.Params v10).Name)++([58,32]:anT))++eF)]:List anT).length) 16)<|aq (anV (v10+1)) (v11++([((((anW p.Params v10).Name)++([58,32]:anT))++eF)]:List anT))) ( Mr n p v11)
def Bq(n:Nat)(p:bd):Nat→Int→(List anT)→Option anT
 | 0=>λ_ _=>none
 |m+1=>Ms n p (Bq n p m)
def sJ(p:bd):Option anT:=(Bg n p).bind λr1=>cond (!decide (r1=0)) ( some ([]:anT)) ( Bq n p n 0 ([]:List anT))
def Br(n:Nat)(next:Int):anY:=some (cond (decide ((anV (next-1))<8)) (anV (next-1)) 8)
def Mt(n:Nat):anX:=some false
def Mu(n:Nat):anX:=some true
def FJ(o:Outcome)(eb:Int→anX)(v4:Int):anX:=cond (decide (v4<((o.Out.length:Nat):Int))) ( aE (a7 v4 o.Out.length)<|(rr n (anW o.Out v4)).bind λb8=>cond (cond (!b8) true (decide ((anW o.Out v4).Kind=0))) ( some false) ( eb (anV (v4+1)))) ( Mu n)
def u0(n:Nat)(o:Outcome):Nat→Int→anX
 | 0=>λ_=>none
 |m+1=>FJ n o (u0 n o m)
def Bs(o:Outcome):anX:=cond (decide (o.Status=1)) ( cond (cond (!decide (o.Code=0)) true (decide (16<((o.Out.length:Nat):Int)))) ( some false) ( u0 n o n 0)) ( cond (decide (o.Status=2)) ( some (cond (cond (decide (0≤o.Code)) (decide (o.Code≤1009)) false) (decide (((o.Out.length:Nat):Int)=0)) false)) ( Mt n))
def Mv(n:Nat):anX:=some true
def FK(s:bG)(aq:Int→anX)(v6:Int):anX:=cond (decide (v6<((s.bS.length:Nat):Int))) ( aE (a7 v6 s.bS.length)<|Option.bind (cond (!(!((decide ((anW s.bS v6).Client=s.Client))&&((decide ((anW s.bS v6).Seq=(anV ((anV (s.Next-((s.bS.length:Nat):Int)))+v6))))&&true)))) (Bs n (⟨((anW s.bS v6).Outcome).Status,((anW s.bS v6).Outcome).Code,((anW s.bS v6).Outcome).Out⟩:Outcome)) (some default)) λcM=>cond (cond (!((decide ((anW s.bS v6).Client=s.Client))&&((decide ((anW s.bS v6).Seq=(anV ((anV (s.Next-((s.bS.length:Nat):Int)))+v6))))&&true))) true (!cM)) ( some false) ( aq (anV (v6+1)))) ( Mv n)
def xH(n:Nat)(s:bG):Nat→Int→anX
 | 0=>λ_=>none
 |m+1=>FK n s (xH n s m)
def FL(s:bG):anX:=Option.bind (cond (!(cond (cond (cond (decide (s.Client<1)) true (decide (32<s.Client))) true (decide (s.Next<1))) true (decide (1099511627776<s.Next)))) (Br n s.Next) (some default)) λr1=>cond (cond (cond (cond (cond (decide (s.Client<1)) true (decide (32<s.Client))) true (decide (s.Next<1))) true (decide (1099511627776<s.Next))) true (!decide (((s.bS.length:Nat):Int)=r1))) ( some false) ( xH n s n 0)
def Mw(n:Nat):anX:=some true
def FM(l:List bG)(aq:Int→anX)(v5:Int):anX:=cond (decide (v5<((l.length:Nat):Int))) ( aE (a7 v5 l.length)<|(FL n (anW l v5)).bind λcJ=>aE ((!cJ)||(!(decide (0<v5))||a7 (anV (v5-1)) l.length))<|cond (cond (!cJ) true (cond (decide (0<v5)) (decide ((anW l v5).Client≤(anW l (anV (v5-1))).Client)) false)) ( some false) ( aq (anV (v5+1)))) ( Mw n)
def xI(n:Nat)(l:List bG):Nat→Int→anX
 | 0=>λ_=>none
 |m+1=>FM n l (xI n l m)
def rv(l:List bG):anX:=xI n l n 0
def jD(s:anT)(bQ:List Int):Option (Int×(List Int)):=(xE n bQ).bind λr1=>aE (room (bQ.length+s.length) 1)<|some (((s.length:Nat):Int),(bQ++s.map λb=>(b.toNat:Int)))
def Mx(FN:List Int):Option anT:=(ru n FN).bind λTQ=>some TQ.1
def My(n:Nat)(aq:(List Int)→Int→Option anT)(l:List bG)(eX:Int)(FO:List Int):Option anT:=aq FO (anV (eX+1))
def Mz(n:Nat)(dS:(List Int)→Int→Option anT)(aq:(List Int)→Int→Option anT)(l:List bG)(eX:Int)(h7:Int)(v109:List Int):Option anT:=dS v109 (anV (h7+1))
def FP(dS:(List Int)→Int→Option anT)(aq:(List Int)→Int→Option anT)(l:List bG)(eX:Int)(h7:Int)(qi:(List Int)→Int→Option anT)(Bt:List Int)(u1:Int):Option anT:=cond (decide (u1<(((((((anW l eX).bS).getD (h7).toNat default).Outcome).Out).length:Nat):Int))) ( aE (a7 u1 (((((anW l eX).bS).getD (h7).toNat default).Outcome).Out).length)<|(uQ n ((((((anW l eX).bS).getD (h7).toNat default).Outcome).Out).getD (u1).toNat default)).bind λsK=>(jD n sK Bt).bind λTR=>qi TR.2 (anV (u1+1))) ( Mz n dS aq l eX h7 Bt)
def u2(n:Nat)(dS:(List Int)→Int→Option anT)(aq:(List Int)→Int→Option anT)(l:List bG)(eX:Int)(h7:Int):Nat→(List Int)→Int→Option anT
 | 0=>λ_ _=>none
 |m+1=>FP n dS aq l eX h7 (u2 n dS aq l eX h7 m)
def FQ(aq:(List Int)→Int→Option anT)(l:List bG)(eX:Int)(dS:(List Int)→Int→Option anT)(Bu:List Int)(h7:Int):Option anT:=cond (decide (h7<((((anW l eX).bS).length:Nat):Int))) ( aE (a7 h7 ((anW l eX).bS).length)<|(hA n (IntKind.u64.wrap (((((anW l eX).bS).getD (h7).toNat default).Outcome).Status))).bind λxJ=>(hA n (IntKind.u64.wrap (((((anW l eX).bS).getD (h7).toNat default).Outcome).Code))).bind λu3=>aE (eU (xJ.length+u3.length))<|(hA n (IntKind.u64.wrap (((((((anW l eX).bS).getD (h7).toNat default).Outcome).Out).length:Nat):Int))).bind λMA=>aE (eU ((xJ++u3).length+MA.length))<|(jD n ((xJ++u3)++MA) Bu).bind λFR=>u2 n dS aq l eX h7 n FR.2 0) ( My n aq l eX Bu)
def u4(n:Nat)(aq:(List Int)→Int→Option anT)(l:List bG)(eX:Int):Nat→(List Int)→Int→Option anT
 | 0=>λ_ _=>none
 |m+1=>FQ n aq l eX (u4 n aq l eX m)
def FSb(l:List bG)(aq:(List Int)→Int→Option anT)(v59:List Int)(eX:Int):Option anT:=cond (decide (eX<((l.length:Nat):Int))) ( aE (a7 eX l.length)<|(hA n (IntKind.u64.wrap ((anW l eX).Client))).bind λMB=>(hA n (IntKind.u64.wrap ((anW l eX).Next))).bind λBv=>aE (eU (MB.length+Bv.length))<|(jD n (MB++Bv) v59).bind λsL=>u4 n aq l eX n sL.2 0) ( Mx n v59)
def xK(n:Nat)(l:List bG):Nat→(List Int)→Int→Option anT
 | 0=>λ_ _=>none
 |m+1=>FSb n l (xK n l m)
def Bw(l:List bG):Option anT:=(rv n l).bind λr1=>cond (!r1) ( some ([]:anT)) ( (hA n (IntKind.u64.wrap ((l.length:Nat):Int))).bind λr3=>(jD n r3 ([]:List Int)).bind λaZ=>xK n l n aZ.2 0)
def MC(c':List Int):Option anT:=(ru n c').bind λeQ=>some eQ.1
def FT(l:List bI)(aq:(List Int)→Int→Option anT)(v10:List Int)(v11:Int):Option anT:=cond (decide (v11<((l.length:Nat):Int))) ( aE (a7 v11 l.length)<|(pf n ((anW l v11).Key)).bind λdz=>(jD n dz v10).bind λeF=>(uQ n (⟨((anW l v11).b0).Kind,((anW l v11).b0).N,((anW l v11).b0).S⟩:bq)).bind λdH=>(jD n dH eF.2).bind λeR=>aq eR.2 (anV (v11+1))) ( MC n v10)
def xL(n:Nat)(l:List bI):Nat→(List Int)→Int→Option anT
 | 0=>λ_ _=>none
 |m+1=>FT n l (xL n l m)
def FU(l:List bI):Option anT:=(hA n (IntKind.u64.wrap ((l.length:Nat):Int))).bind λr1=>(jD n r1 ([]:List Int)).bind λr2=>xL n l n r2.2 0
def Bx(aj:bP)(FV:List Int):Option anT:=(xp n aj.Queue).bind λBy=>(jD n By FV).bind λnI=>(hA n aj.de).bind λTS=>(jD n TS nI.2).bind λFW=>(ru n FW.2).bind λBz=>some Bz.1
def FX(aj:bP)(eb:(List Int)→Int→Option anT)(BA:List Int)(v37:Int):Option anT:=cond (decide (v37<((aj.be.length:Nat):Int))) ( aE (a7 v37 aj.be.length)<|(pf n ((anW aj.be v37).Key)).bind λxM=>(jD n xM BA).bind λu5=>(qd n ((anW aj.be v37).Count)).bind λmN=>(jD n mN u5.2).bind λmM=>eb mM.2 (anV (v37+1))) ( Bx n aj BA)
def xN(n:Nat)(aj:bP):Nat→(List Int)→Int→Option anT
 | 0=>λ_ _=>none
 |m+1=>FX n aj (xN n aj m)
def xO(aj:bP)(db:List Int):Option anT:=(Bw n aj.cQ).bind λe7=>(jD n e7 db).bind λr24=>(Ba n aj.Place).bind λgE=>(jD n gE r24.2).bind λr26=>(hA n (IntKind.u64.wrap ((aj.be.length:Nat):Int))).bind λr27=>(jD n r27 r26.2).bind λoi=>xN n aj n oi.2 0
def FY(aj:bP)(dS:(List Int)→Int→Option anT)(cj:List Int)(cu:Int):Option anT:=cond (decide (cu<((aj.cc.length:Nat):Int))) ( aE (a7 cu aj.cc.length)<|(sJ n (anW aj.cc cu)).bind λe'=>(pf n e').bind λf_=>(jD n f_ cj).bind λgj=>dS gj.2 (anV (cu+1))) ( xO n aj cj)
def xP(n:Nat)(aj:bP):Nat→(List Int)→Int→Option anT
 | 0=>λ_ _=>none
 |m+1=>FY n aj (xP n aj m)
def rx(aj:bP):Option anT:=(uU n aj.aA aj.Pos).bind λr1=>(qd n aj.Pos).bind λr2=>(jD n r2 ([]:List Int)).bind λr3=>(FU n r1.1).bind λaZ=>(jD n aZ r3.2).bind λcA=>(hA n (IntKind.u64.wrap ((aj.cc.length:Nat):Int))).bind λb8=>(jD n b8 cA.2).bind λcJ=>xP n aj n cJ.2 0
def MD(n:Nat)(l:List be):anX:=some (decide (((l.length:Nat):Int)≤32))
def FZ(l:List be)(aq:Int→anX)(v5:Int):anX:=cond (decide (v5<((l.length:Nat):Int))) ( aE (a7 v5 l.length)<|(uP n ((anW l v5).Key)).bind λcJ=>aE ((cond (cond (!cJ) true (decide ((anW l v5).Count<1))) true (decide (1099511627776<(anW l v5).Count)))||(!(decide (0<v5))||a7 (anV (v5-1)) l.length))<|cond (cond (cond (cond (!cJ) true (decide ((anW l v5).Count<1))) true (decide (1099511627776<(anW l v5).Count))) true (cond (decide (0<v5)) (!(Op.bytesLess ((anW l (anV (v5-1))).Key) ((anW l v5).Key))) false)) ( some false) ( aq (anV (v5+1)))) ( MD n l)
def xQ(n:Nat)(l:List be):Nat→Int→anX
 | 0=>λ_=>none
 |m+1=>FZ n l (xQ n l m)
def F0(l:List be):anX:=xQ n l n 0
def ME(n:Nat):anX:=some true
def F1(l:List bd)(aq:Int→anX)(v6:Int):anX:=cond (decide (v6<((l.length:Nat):Int))) ( aE (a7 v6 l.length)<|(sJ n (anW l v6)).bind λcM=>aE ((cond (decide (cM=([]:anT))) true (decide (16384<((cM.length:Nat):Int))))||(!(decide (0<v6))||a7 (anV (v6-1)) l.length))<|cond (cond (cond (decide (cM=([]:anT))) true (decide (16384<((cM.length:Nat):Int)))) true (cond (decide (0<v6)) ((Op.bytesLess ((anW l v6).Name) ((anW l (anV (v6-1))).Name))||(decide (((anW l v6).Name)=((anW l (anV (v6-1))).Name)))) false)) ( some false) ( aq (anV (v6+1)))) ( ME n)
def xR(n:Nat)(l:List bd):Nat→Int→anX
 | 0=>λ_=>none
 |m+1=>F1 n l (xR n l m)
def F2(l:List bd):anX:=cond (decide (16<((l.length:Nat):Int))) ( some false) ( xR n l n 0)
def MF(n:Nat)(s:anT):anX:=some (decide (((s.length:Nat):Int)≤24))
def F3(s:anT)(aq:Int→anX)(v4:Int):anX:=cond (decide (v4<((s.length:Nat):Int))) ( aE (a7 v4 s.length)<|aE ((decide ((((s.getD (v4).toNat 0).toNat:Nat):Int)<33))||a7 v4 s.length)<|cond (cond (decide ((((s.getD (v4).toNat 0).toNat:Nat):Int)<33)) true (decide (126<(((s.getD (v4).toNat 0).toNat:Nat):Int)))) ( some false) ( aq (anV (v4+1)))) ( MF n s)
def xS(n:Nat)(s:anT):Nat→Int→anX
 | 0=>λ_=>none
 |m+1=>F3 n s (xS n s m)
def BB(s:anT):anX:=xS n s n 0
def MG(n:Nat)(x:Part)(ad:Int):anX:=some (decide (x.Id=ad))
def MH(n:Nat)(ad:Int):anY:=some (-1)
def F4(s:List Part)(ad:Int)(aq:Int→anY)(v4:Int):anY:=cond (decide (v4<((s.length:Nat):Int))) ( aE (a7 v4 s.length)<|(MG n (anW s v4) ad).bind λb8=>cond b8 ( some v4) ( aq (anV (v4+1)))) ( MH n ad)
def xT(n:Nat)(s:List Part)(ad:Int):Nat→Int→anY
 | 0=>λ_=>none
 |m+1=>F4 n s ad (xT n s ad m)
def MI(s:List Part)(ad:Int):anY:=xT n s ad n 0
def MJ(l:List Part)(id:Int):anY:=(MI n l id).bind λr1=>some r1
def BC(n:Nat)(hT:Int):anX:=some (cond (decide (1≤hT)) (decide (hT≤16)) false)
def MK(n:Nat)(hT:Int):anX:=some (cond (decide (1≤hT)) (decide (hT≤1099511627776)) false)
def F5(l:List Part)(i:Int):anX:=aE (a7 i l.length)<|cond (decide ((anW l i).h2=0)) ( some (decide (((anW l i).ir)=([]:anT)))) ( (BC n ((anW l i).h2)).bind λr3=>Option.bind (cond (cond r3 (!decide ((anW l i).h2=(anW l i).Node)) false) (BB n ((anW l i).ir)) (some default)) λaZ=>aE (!(cond (cond (cond r3 (!decide ((anW l i).h2=(anW l i).Node)) false) aZ false) (!(Op.bytesLess ((anW l i).ir) ((anW l i).fQ))) false)||((decide ((anV (i+1))=((l.length:Nat):Int)))||a7 (anV (i+1)) l.length))<|some (cond (cond (cond (cond r3 (!decide ((anW l i).h2=(anW l i).Node)) false) aZ false) (!(Op.bytesLess ((anW l i).ir) ((anW l i).fQ))) false) (cond (decide ((anV (i+1))=((l.length:Nat):Int))) true (Op.bytesLess ((anW l i).ir) ((anW l (anV (i+1))).fQ))) false))
def ML(n:Nat):anX:=some true
def F6(p:b7)(aq:Int→anX)(v12:Int):anX:=cond (decide (v12<((p.aW.length:Nat):Int))) ( aE (a7 v12 p.aW.length)<|Option.bind (cond (decide (0<v12)) (BB n ((anW p.aW v12).fQ)) (some default)) λeF=>aE (!(decide (0<v12))||((!eF)||a7 (anV (v12-1)) p.aW.length))<|cond (cond (decide (0<v12)) (cond (!eF) true ((Op.bytesLess ((anW p.aW v12).fQ) ((anW p.aW (anV (v12-1))).fQ))||(decide (((anW p.aW v12).fQ)=((anW p.aW (anV (v12-1))).fQ))))) false) ( some false) ( (MK n ((anW p.aW v12).Id)).bind λeR=>Option.bind (cond (!(!eR)) (BC n ((anW p.aW v12).Node)) (some default)) λe'=>Option.bind (cond (!(cond (!eR) true (!e'))) (F5 n p.aW v12) (some default)) λf_=>aE ((cond (cond (!eR) true (!e')) true (!f_))||gC v12 p.aW.length)<|Option.bind (cond (!(cond (cond (!eR) true (!e')) true (!f_))) (MJ n (p.aW.take (v12).toNat) ((anW p.aW v12).Id)) (some default)) λeQ=>cond (cond (cond (cond (!eR) true (!e')) true (!f_)) true (decide (0≤eQ))) ( some false) ( aq (anV (v12+1))))) ( ML n)
def u6(n:Nat)(p:b7):Nat→Int→anX
 | 0=>λ_=>none
 |m+1=>F6 n p (u6 n p m)
def BD(p:b7):anX:=aE ((cond (cond (cond (decide (p.Version<0)) true (decide (1099511627776<p.Version))) true (decide (((p.aW.length:Nat):Int)<1))) true (decide (16<((p.aW.length:Nat):Int))))||a7 0 p.aW.length)<|cond (cond (cond (cond (cond (decide (p.Version<0)) true (decide (1099511627776<p.Version))) true (decide (((p.aW.length:Nat):Int)<1))) true (decide (16<((p.aW.length:Nat):Int)))) true (!(decide (((p.aW.getD 0 default).fQ)=([]:anT))))) ( some false) ( u6 n p n 0)
def MM(aj:bP):anX:=(rv n aj.cQ).bind λbZ=>Option.bind (cond bZ (BD n aj.Place) (some default)) λez=>Option.bind (cond (cond bZ ez false) (F0 n aj.be) (some default)) λdz=>some (cond (cond bZ ez false) dz false)
def F7(aj:bP)(aq:Int→anX)(bK:Int):anX:=cond (decide (bK<((aj.Queue.length:Nat):Int))) ( aE (a7 bK aj.Queue.length)<|(nG n (⟨(anW aj.Queue bK).Client,(anW aj.Queue bK).Seq,(anW aj.Queue bK).bd,(anW aj.Queue bK).aw,(anW aj.Queue bK).eW,⟨((anW aj.Queue bK).bx).eI,((anW aj.Queue bK).bx).Reads,((anW aj.Queue bK).bx).cT⟩⟩:Request)).bind λcy=>cond (!decide (cy=0)) ( some false) ( aq (anV (bK+1)))) ( MM n aj)
def u7(n:Nat)(aj:bP):Nat→Int→anX
 | 0=>λ_=>none
 |m+1=>F7 n aj (u7 n aj m)
def qj(aj:bP):anX:=Option.bind (cond (!(cond (decide (aj.Pos<0)) true (decide (1099511627776<aj.Pos)))) (uR n aj.aA) (some default)) λr1=>Option.bind (cond (!(cond (cond (cond (decide (aj.Pos<0)) true (decide (1099511627776<aj.Pos))) true (!r1)) true (!decide (aj.aA.cp=aj.Pos)))) (F2 n aj.cc) (some default)) λr2=>cond (cond (cond (cond (cond (cond (decide (aj.Pos<0)) true (decide (1099511627776<aj.Pos))) true (!r1)) true (!decide (aj.aA.cp=aj.Pos))) true (!r2)) true (decide (64<((aj.Queue.length:Nat):Int)))) ( some false) ( u7 n aj n 0)
def sM(aj:bP):Option (anT×Int):=(qj n aj).bind λr1=>cond (!r1) ( some (([]:anT),1)) ( (rx n aj).bind λr3=>cond (decide (16384<((r3.length:Nat):Int))) ( some (([]:anT),2)) ( some (r3,0)))
def xU(n:Nat)(bu:Int):anY:=some bu
def MN(n:Nat)(p:bI):anX:=some (decide (p.b0.Kind=0))
def MO(n:Nat):anY:=some (-1)
def F8(s:List bI)(aq:Int→anY)(v4:Int):anY:=cond (decide (v4<((s.length:Nat):Int))) ( aE (a7 v4 s.length)<|(MN n (anW s v4)).bind λb8=>cond b8 ( some v4) ( aq (anV (v4+1)))) ( MO n)
def xV(n:Nat)(s:List bI):Nat→Int→anY
 | 0=>λ_=>none
 |m+1=>F8 n s (xV n s m)
def MP(s:List bI):anY:=xV n s n 0
def MQ(s:List bI):anX:=(MP n s).bind λr1=>some (decide (0≤r1))
def MR(n:Nat):anX:=some true
def F9(l:List bI)(aq:Int→anX)(v6:Int):anX:=cond (decide (v6<((l.length:Nat):Int))) ( aE (a7 v6 l.length)<|(uP n ((anW l v6).Key)).bind λcM=>Option.bind (cond (!(!cM)) (rr n (⟨((anW l v6).b0).Kind,((anW l v6).b0).N,((anW l v6).b0).S⟩:bq)) (some default)) λcy=>aE ((cond (!cM) true (!cy))||(!(decide (0<v6))||a7 (anV (v6-1)) l.length))<|cond (cond (cond (!cM) true (!cy)) true (cond (decide (0<v6)) (!(Op.bytesLess ((anW l (anV (v6-1))).Key) ((anW l v6).Key))) false)) ( some false) ( aq (anV (v6+1)))) ( MR n)
def xW(n:Nat)(l:List bI):Nat→Int→anX
 | 0=>λ_=>none
 |m+1=>F9 n l (xW n l m)
def F'(l:List bI):anX:=xW n l n 0
def BE(l:List bI):anX:=(F' n l).bind λr1=>Option.bind (cond r1 (MQ n l) (some default)) λr2=>some (cond r1 (!r2) false)
def MS(n:Nat)(hT:Int):Option bq:=some (⟨1,hT,[]⟩:bq)
def BF(n:Nat)(s:anT)(at_:Int):anX:=some (cond (decide (at_<0)) true (decide (((s.length:Nat):Int)<at_)))
def TT(n:Nat):Option (Int×Int×Int):=some (0,0,5)
def MT(s:anT)(at_:Int)(aq:Int→Int→Option (Int×Int×Int))(bK:Int)(bV:Int):Option (Int×Int×Int):=cond (decide (bK<10)) ( cond (decide (((s.length:Nat):Int)≤(anV (at_+bK)))) ( some (0,0,6)) ( aE (a7 (anV (at_+bK)) s.length)<|cond (cond (cond (decide (bK=9)) (decide (1<(((s.getD ((anV (at_+bK))).toNat 0).toNat:Nat):Int))) false) true (cond (decide ((((s.getD ((anV (at_+bK))).toNat 0).toNat:Nat):Int)=0)) (decide (0<bK)) false)) ( some (0,0,5)) ( aE (ni (anV (7*bK)))<|cond (decide ((((s.getD ((anV (at_+bK))).toNat 0).toNat:Nat):Int)<128)) ( some ((pQ .u64 bV (n0 .u64 (IntKind.u64.wrap (oQ .u8 (((s.getD ((anV (at_+bK))).toNat 0).toNat:Nat):Int) 127)) (anV (7*bK)))),(anV ((anV (at_+bK))+1)),0)) ( aq (anV (bK+1)) (pQ .u64 bV (n0 .u64 (IntKind.u64.wrap (oQ .u8 (((s.getD ((anV (at_+bK))).toNat 0).toNat:Nat):Int) 127)) (anV (7*bK)))))))) ( TT n)
def BG(n:Nat)(s:anT)(at_:Int):Nat→Int→Int→Option (Int×Int×Int)
 | 0=>λ_ _=>none
 |m+1=>MT n s at_ (BG n s at_ m)
def ry(s:anT)(at_:Int):Option (Int×Int×Int):=(BF n s at_).bind λr1=>cond r1 ( some (0,0,1)) ( BG n s at_ n 0 0)
def xX(s:anT)(at_:Int):Option (Int×Int×Int):=(ry n s at_).bind λr1=>cond (!decide (r1.2.2=0)) ( some (0,0,r1.2.2)) ( some ((l7 .i64 (anV (mw .u64 r1.1 1)) (anV (0-(anV (oQ .u64 r1.1 1))))),r1.2.1,0))
def ph(s:anT)(at_:Int)(bu:Int):Option (Int×Int×Int):=(ry n s at_).bind λr1=>cond (!decide (r1.2.2=0)) ( some (0,0,r1.2.2)) ( cond (cond (decide (bu<0)) true (decide ((IntKind.u64.wrap bu)<r1.1))) ( some (0,0,2)) ( cond (decide ((IntKind.u64.wrap (anV (((s.length:Nat):Int)-r1.2.1)))<r1.1)) ( some (0,0,6)) ( some ((anV r1.1),r1.2.1,0))))
def sN(s:anT)(at_:Int)(bu:Int):Option (anT×Int×Int):=(ph n s at_ bu).bind λr1=>cond (!decide (r1.2.2=0)) ( some (([]:anT),0,r1.2.2)) ( aE (lB r1.2.1 (anV (r1.2.1+r1.1)) s.length)<|some (((s.take ((anV (r1.2.1+r1.1))).toNat).drop (r1.2.1).toNat),(anV (r1.2.1+r1.1)),0))
def BH(n:Nat)(cy:anT×Int×Int)(v11:Int):Option (bq×Int×Int):=cond (!decide (v11=0)) ( some ((⟨0,0,[]⟩:bq),0,v11)) ( some ((⟨2,0,cy.1⟩:bq),cy.2.1,0))
def xY(s:anT)(at_:Int):Option (bq×Int×Int):=(ry n s at_).bind λr1=>cond (!decide (r1.2.2=0)) ( some ((⟨0,0,[]⟩:bq),0,r1.2.2)) ( cond (decide (r1.1=0)) ( some ((⟨0,0,[]⟩:bq),r1.2.1,0)) ( cond (decide (r1.1=1)) ( (xX n s r1.2.1).bind λcA=>cond (!decide (cA.2.2=0)) ( some ((⟨0,0,[]⟩:bq),0,cA.2.2)) ( (MS n cA.1).bind λcJ=>some (cJ,cA.2.1,0))) ( cond (decide (r1.1=2)) ( (sN n s r1.2.1 64).bind λcy=>Option.bind (cond (decide (cy.2.2=0)) (A6 n cy.1) (some default)) λc8=>cond (cond (decide (cy.2.2=0)) (!c8) false) ( BH n cy 5) ( BH n cy cy.2.2)) ( some ((⟨0,0,[]⟩:bq),0,5)))))
def F_(cF:Int)(c':List bI):Option ((List bI)×Int×Int):=(BE n c').bind λeQ=>cond (!eQ) ( some (([]:List bI),0,5)) ( some (c',cF,0))
def Ga(s:anT)(r1:Int×Int×Int)(aq:Int→Int→(List bI)→Option ((List bI)×Int×Int))(v9:Int)(v10:Int)(v11:List bI):Option ((List bI)×Int×Int):=cond (decide (v10<r1.1)) ( (sN n s v9 24).bind λez=>cond (!decide (ez.2.2=0)) ( some (([]:List bI),0,ez.2.2)) ( (xY n s ez.2.1).bind λdz=>cond (!decide (dz.2.2=0)) ( some (([]:List bI),0,dz.2.2)) ( aE (room (v11.length+([(⟨ez.1,dz.1⟩:bI)]:List bI).length) 48)<|aq dz.2.1 (anV (v10+1)) (v11++([(⟨ez.1,dz.1⟩:bI)]:List bI))))) ( F_ n v9 v11)
def u9(n:Nat)(s:anT)(r1:Int×Int×Int):Nat→Int→Int→(List bI)→Option ((List bI)×Int×Int)
 | 0=>λ_ _ _=>none
 |m+1=>Ga n s r1 (u9 n s r1 m)
def Gb(s:anT)(at_:Int):Option ((List bI)×Int×Int):=(ph n s at_ 2147483647).bind λr1=>cond (!decide (r1.2.2=0)) ( some (([]:List bI),0,r1.2.2)) ( u9 n s r1 n r1.2.1 0 ([]:List bI))
def xZ(ad:e5):Option ((List bI)×Int×Int):=cond (!decide (ad.e=0)) ( some (([]:List bI),ad.at_,ad.e)) ( (Gb n ad.s ad.at_).bind λr2=>cond (!decide (r2.2.2=0)) ( some (([]:List bI),ad.at_,r2.2.2)) ( some (r2.1,r2.2.1,r2.2.2)))
def rz(ad:og):Option (Int×Int×Int):=cond (!decide (ad.e=0)) ( some (0,ad.at_,ad.e)) ( (xX n ad.s ad.at_).bind λr2=>some (r2.1,r2.2.1,r2.2.2))
def u'(ad:og):Option (anT×Int×Int):=cond (!decide (ad.e=0)) ( some (([]:anT),ad.at_,ad.e)) ( (sN n ad.s ad.at_ 24).bind λr2=>some (r2.1,r2.2.1,r2.2.2))
def Gc(n:Nat)(s:anT)(v28:Int)(r1:Int×Int×Int)(v30:List Part)(mh:Int):Option (b7×Int×Int):=cond (!decide (mh=0)) ( some ((⟨0,[]⟩:b7),0,mh)) ( some ((⟨r1.1,v30⟩:b7),v28,0))
def BI(s:anT)(r1:Int×Int×Int)(v28:Int)(jm:Int)(v30:List Part):Option (b7×Int×Int):=Option.bind (cond (decide (jm=0)) (BD n (⟨r1.1,v30⟩:b7)) (some default)) λgF=>cond (cond (decide (jm=0)) (!gF) false) ( Gc n s v28 r1 v30 5) ( Gc n s v28 r1 v30 jm)
def x0(r3:Int×Int×Int)(s:anT)(r1:Int×Int×Int)(eb:Int→Int→(List Part)→Int→Option (b7×Int×Int))(cj:Int)(cu:Int)(ep:List Part)(a6:Int):Option (b7×Int×Int):=cond (decide (a6<r3.1)) ( (rz n (⟨s,cj,cu⟩:og)).bind λf_=>(u' n (⟨s,f_.2.1,f_.2.2⟩:og)).bind λgj=>(rz n (⟨s,gj.2.1,gj.2.2⟩:og)).bind λeQ=>(rz n (⟨s,eQ.2.1,eQ.2.2⟩:og)).bind λfB=>(u' n (⟨s,fB.2.1,fB.2.2⟩:og)).bind λet=>aE (room (ep.length+([(⟨f_.1,gj.1,eQ.1,fB.1,et.1⟩:Part)]:List Part).length) 56)<|eb et.2.1 et.2.2 (ep++([(⟨f_.1,gj.1,eQ.1,fB.1,et.1⟩:Part)]:List Part)) (anV (a6+1))) ( BI n s r1 cj cu ep)
def rA(n:Nat)(r3:Int×Int×Int)(s:anT)(r1:Int×Int×Int):Nat→Int→Int→(List Part)→Int→Option (b7×Int×Int)
 | 0=>λ_ _ _ _=>none
 |m+1=>x0 n r3 s r1 (rA n r3 s r1 m)
def Gd(s:anT)(at_:Int):Option (b7×Int×Int):=(rz n (⟨s,at_,0⟩:og)).bind λr1=>cond (!decide (r1.2.2=0)) ( some ((⟨0,[]⟩:b7),0,r1.2.2)) ( (ph n s r1.2.1 16).bind λr3=>rA n r3 s r1 n r3.2.1 r3.2.2 ([]:List Part) 0)
def x1(ad:e5):Option (b7×Int×Int):=cond (!decide (ad.e=0)) ( some ((⟨0,[]⟩:b7),ad.at_,ad.e)) ( (Gd n ad.s ad.at_).bind λr2=>cond (!decide (r2.2.2=0)) ( some ((⟨0,[]⟩:b7),ad.at_,r2.2.2)) ( some (r2.1,r2.2.1,r2.2.2)))
def pi(n:Nat)(next:Int)(e:Int)(ad:hz):Option (Int×Int):=some (next,e)
def u_(bu:Int)(ad:hz):Option (Int×Int×Int):=cond (!decide (ad.e=0)) ( some (0,ad.at_,ad.e)) ( (ph n ad.s ad.at_ bu).bind λr2=>(pi n r2.2.1 r2.2.2 ad).bind λr3=>some (r2.1,r3.1,r3.2))
def Ge(s:anT)(at_:Int):Option (Bool×Int×Int):=(BF n s at_).bind λr1=>cond r1 ( some (false,0,1)) ( cond (decide (at_=((s.length:Nat):Int))) ( some (false,0,6)) ( aE (a7 at_ s.length)<|cond (decide (1<(((s.getD (at_).toNat 0).toNat:Nat):Int))) ( some (false,0,5)) ( aE (a7 at_ s.length)<|some ((decide ((((s.getD (at_).toNat 0).toNat:Nat):Int)=1)),(anV (at_+1)),0))))
def x2(ad:hz):Option (Bool×Int×Int):=cond (!decide (ad.e=0)) ( some (false,ad.at_,ad.e)) ( (Ge n ad.s ad.at_).bind λr2=>(pi n r2.2.1 r2.2.2 ad).bind λr3=>some (r2.1,r3.1,r3.2))
def va(bu:Int)(ad:hz):Option (anT×Int×Int):=cond (!decide (ad.e=0)) ( some (([]:anT),ad.at_,ad.e)) ( (sN n ad.s ad.at_ bu).bind λr2=>(pi n r2.2.1 r2.2.2 ad).bind λr3=>some (r2.1,r3.1,r3.2))
def Gf(n:Nat)(ad:hz)(cF:Int)(c':Int)(v20:List anT):Option ((List anT)×Int×Int):=some (v20,cF,c')
def x3(r1:Int×Int×Int)(ad:hz)(aq:Int→Int→(List anT)→Int→Option ((List anT)×Int×Int))(bV:Int)(v9:Int)(v10:List anT)(v11:Int):Option ((List anT)×Int×Int):=cond (decide (v11<r1.1)) ( (va n 24 (⟨ad.s,bV,v9⟩:hz)).bind λez=>aE (room (v10.length+([ez.1]:List anT).length) 16)<|aq ez.2.1 ez.2.2 (v10++([ez.1]:List anT)) (anV (v11+1))) ( Gf n ad bV v9 v10)
def rB(n:Nat)(r1:Int×Int×Int)(ad:hz):Nat→Int→Int→(List anT)→Int→Option ((List anT)×Int×Int)
 | 0=>λ_ _ _ _=>none
 |m+1=>x3 n r1 ad (rB n r1 ad m)
def sO(ad:hz):Option ((List anT)×Int×Int):=(u_ n 64 ad).bind λr1=>rB n r1 ad n r1.2.1 r1.2.2 ([]:List anT) 0
def vb(ad:hz):Option (Int×Int×Int):=cond (!decide (ad.e=0)) ( some (0,ad.at_,ad.e)) ( (ry n ad.s ad.at_).bind λr2=>(pi n r2.2.1 r2.2.2 ad).bind λr3=>some (r2.1,r3.1,r3.2))
def x4(ad:hz):Option (bq×Int×Int):=cond (!decide (ad.e=0)) ( some ((⟨0,0,[]⟩:bq),ad.at_,ad.e)) ( (xY n ad.s ad.at_).bind λr2=>(pi n r2.2.1 r2.2.2 ad).bind λr3=>some (r2.1,r3.1,r3.2))
def rC(r1:Int×Int×Int)(r2:Int×Int×Int)(s:anT)(r3:anT×Int×Int)(iv:List bq)(r24:Bool×Int×Int)(mO:Int)(v28:Int)(jm:List anT)(v30:List anT):Option (Request×Int×Int):=cond (!decide (v28=0)) ( some ((⟨0,0,[],[],false,⟨false,[],[]⟩⟩:Request),0,v28)) ( cond (cond (decide (32<r1.1)) true (decide (1099511627776<r2.1))) ( some ((⟨0,0,[],[],false,⟨false,[],[]⟩⟩:Request),0,5)) ( (nG n (⟨(anV r1.1),(anV r2.1),r3.1,iv,r24.1,⟨false,jm,v30⟩⟩:Request)).bind λsI=>cond (!decide (sI=0)) ( some ((⟨0,0,[],[],false,⟨false,[],[]⟩⟩:Request),0,5)) ( some ((⟨(anV r1.1),(anV r2.1),r3.1,iv,r24.1,⟨false,jm,v30⟩⟩:Request),mO,0))))
def x5(r1:Int×Int×Int)(r2:Int×Int×Int)(s:anT)(r3:anT×Int×Int)(v21:Int)(db:Int)(iv:List bq):Option (Request×Int×Int):=(x2 n (⟨s,v21,db⟩:hz)).bind λr24=>cond r24.1 ( (sO n (⟨s,r24.2.1,r24.2.2⟩:hz)).bind λgE=>(sO n (⟨s,gE.2.1,gE.2.2⟩:hz)).bind λr26=>rC n r1 r2 s r3 iv r24 r26.2.1 r26.2.2 gE.1 r26.1) ( rC n r1 r2 s r3 iv r24 r24.2.1 r24.2.2 ([]:List anT) ([]:List anT))
def x6(r1:Int×Int×Int)(r2:Int×Int×Int)(aZ:Int×Int×Int)(s:anT)(r3:anT×Int×Int)(eb:Int→Int→(List bq)→Int→Option (Request×Int×Int))(v11:Int)(v12:Int)(dr:List bq)(cj:Int):Option (Request×Int×Int):=cond (decide (cj<aZ.1)) ( (x4 n (⟨s,v11,v12⟩:hz)).bind λdH=>aE (room (dr.length+([dH.1]:List bq).length) 32)<|eb dH.2.1 dH.2.2 (dr++([dH.1]:List bq)) (anV (cj+1))) ( x5 n r1 r2 s r3 v11 v12 dr)
def rD(n:Nat)(r1:Int×Int×Int)(r2:Int×Int×Int)(aZ:Int×Int×Int)(s:anT)(r3:anT×Int×Int):Nat→Int→Int→(List bq)→Int→Option (Request×Int×Int)
 | 0=>λ_ _ _ _=>none
 |m+1=>x6 n r1 r2 aZ s r3 (rD n r1 r2 aZ s r3 m)
def Gg(s:anT)(at_:Int):Option (Request×Int×Int):=(vb n (⟨s,at_,0⟩:hz)).bind λr1=>(vb n (⟨s,r1.2.1,r1.2.2⟩:hz)).bind λr2=>(va n 16 (⟨s,r2.2.1,r2.2.2⟩:hz)).bind λr3=>(u_ n 6 (⟨s,r3.2.1,r3.2.2⟩:hz)).bind λaZ=>rD n r1 r2 aZ s r3 n aZ.2.1 aZ.2.2 ([]:List bq) 0
def MU(n:Nat)(ep:List Request)(a6:Int):Option ((List Request)×Int×Int):=some (ep,a6,0)
def Gh(s:anT)(r1:Int×Int×Int)(aq:(List Request)→Int→Int→Option ((List Request)×Int×Int))(bV:List Request)(v9:Int)(v10:Int):Option ((List Request)×Int×Int):=cond (decide (v9<r1.1)) ( (Gg n s v10).bind λbZ=>cond (!decide (bZ.2.2=0)) ( some (([]:List Request),0,bZ.2.2)) ( aE (room (bV.length+([bZ.1]:List Request).length) 120)<|aq (bV++([bZ.1]:List Request)) (anV (v9+1)) bZ.2.1)) ( MU n bV v10)
def vc(n:Nat)(s:anT)(r1:Int×Int×Int):Nat→(List Request)→Int→Int→Option ((List Request)×Int×Int)
 | 0=>λ_ _ _=>none
 |m+1=>Gh n s r1 (vc n s r1 m)
def Gi(s:anT)(at_:Int):Option ((List Request)×Int×Int):=(ph n s at_ 64).bind λr1=>cond (!decide (r1.2.2=0)) ( some (([]:List Request),0,r1.2.2)) ( vc n s r1 n ([]:List Request) 0 r1.2.1)
def x7(ad:e5):Option ((List Request)×Int×Int):=cond (!decide (ad.e=0)) ( some (([]:List Request),ad.at_,ad.e)) ( (Gi n ad.s ad.at_).bind λr2=>cond (!decide (r2.2.2=0)) ( some (([]:List Request),ad.at_,r2.2.2)) ( some (r2.1,r2.2.1,r2.2.2)))
def x8(n:Nat)(r2:Int×Int×Int)(ad:ko)(v3:Int):Option (Int×Int×Int):=cond (!decide (v3=0)) ( some (0,ad.at_,v3)) ( some ((anV r2.1),r2.2.1,v3))
def rE(least:Int)(bu:Int)(ad:ko):Option (Int×Int×Int):=cond (!decide (ad.e=0)) ( some (0,ad.at_,ad.e)) ( (ry n ad.s ad.at_).bind λr2=>cond (cond (decide (r2.2.2=0)) (cond (decide (r2.1<least)) true (decide (bu<r2.1))) false) ( x8 n r2 ad 5) ( x8 n r2 ad r2.2.2))
def BJ(n:Nat)(ad:ko)(r1:Int×Int×Int)(r2:Int×Int×Int)(v21:Int)(db:Int)(iv:List bq):Option (Outcome×Int×Int):=some ((⟨r1.1,r2.1,iv⟩:Outcome),v21,db)
def x9(aZ:Int×Int×Int)(ad:ko)(r1:Int×Int×Int)(r2:Int×Int×Int)(aq:Int→Int→(List bq)→Int→Option (Outcome×Int×Int))(v11:Int)(v12:Int)(dr:List bq)(cj:Int):Option (Outcome×Int×Int):=cond (cond (decide (cj<aZ.1)) (decide (v12=0)) false) ( (xY n ad.s v11).bind λdH=>aE (room (dr.length+([dH.1]:List bq).length) 32)<|aq dH.2.1 dH.2.2 (dr++([dH.1]:List bq)) (anV (cj+1))) ( BJ n ad r1 r2 v11 v12 dr)
def sP(n:Nat)(aZ:Int×Int×Int)(ad:ko)(r1:Int×Int×Int)(r2:Int×Int×Int):Nat→Int→Int→(List bq)→Int→Option (Outcome×Int×Int)
 | 0=>λ_ _ _ _=>none
 |m+1=>x9 n aZ ad r1 r2 (sP n aZ ad r1 r2 m)
def BK(ad:ko):Option (Outcome×Int×Int):=(rE n 0 9999 ad).bind λr1=>(rE n 0 9999 (⟨ad.s,r1.2.1,r1.2.2⟩:ko)).bind λr2=>cond (!decide (r2.2.2=0)) ( some ((⟨r1.1,r2.1,[]⟩:Outcome),r2.2.1,r2.2.2)) ( (ph n ad.s r2.2.1 16).bind λaZ=>sP n aZ ad r1 r2 n aZ.2.1 aZ.2.2 ([]:List bq) 0)
def Gj(n:Nat)(ad:ko)(r1:Int×Int×Int)(r2:Int×Int×Int)(v21:Int)(db:Int)(iv:List ev):Option (bG×Int×Int):=some ((⟨r1.1,r2.1,iv⟩:bG),v21,db)
def BL(aZ:Int)(ad:ko)(r1:Int×Int×Int)(r2:Int×Int×Int)(aq:Int→Int→(List ev)→Int→Option (bG×Int×Int))(v11:Int)(v12:Int)(dr:List ev)(cj:Int):Option (bG×Int×Int):=cond (cond (decide (cj<aZ)) (decide (v12=0)) false) ( (BK n (⟨ad.s,v11,v12⟩:ko)).bind λdH=>aE (room (dr.length+([(⟨r1.1,(anV (r2.1-(anV (aZ-cj)))),dH.1⟩:ev)]:List ev).length) 56)<|aq dH.2.1 dH.2.2 (dr++([(⟨r1.1,(anV (r2.1-(anV (aZ-cj)))),dH.1⟩:ev)]:List ev)) (anV (cj+1))) ( Gj n ad r1 r2 v11 v12 dr)
def vd(n:Nat)(aZ:Int)(ad:ko)(r1:Int×Int×Int)(r2:Int×Int×Int):Nat→Int→Int→(List ev)→Int→Option (bG×Int×Int)
 | 0=>λ_ _ _ _=>none
 |m+1=>BL n aZ ad r1 r2 (vd n aZ ad r1 r2 m)
def BM(ad:ko):Option (bG×Int×Int):=(rE n 1 32 ad).bind λr1=>(rE n 1 1099511627776 (⟨ad.s,r1.2.1,r1.2.2⟩:ko)).bind λr2=>cond (!decide (r2.2.2=0)) ( some ((⟨r1.1,r2.1,[]⟩:bG),r2.2.1,r2.2.2)) ( (Br n r2.1).bind λaZ=>vd n aZ ad r1 r2 n r2.2.1 r2.2.2 ([]:List ev) 0)
def BN(s:anT)(c':Int)(v20:Int)(v21:List bG):Option ((List bG)×Int×Int):=cond (!decide (v20=0)) ( some (([]:List bG),0,v20)) ( (rv n v21).bind λe7=>cond (!e7) ( some (([]:List bG),0,5)) ( some (v21,c',0)))
def BO(r1:Int×Int×Int)(s:anT)(aq:Int→Int→(List bG)→Int→Option ((List bG)×Int×Int))(v9:Int)(v10:Int)(v11:List bG)(v12:Int):Option ((List bG)×Int×Int):=cond (cond (decide (v12<r1.1)) (decide (v10=0)) false) ( (BM n (⟨s,v9,v10⟩:ko)).bind λdz=>aE (room (v11.length+([dz.1]:List bG).length) 40)<|aq dz.2.1 dz.2.2 (v11++([dz.1]:List bG)) (anV (v12+1))) ( BN n s v9 v10 v11)
def ve(n:Nat)(r1:Int×Int×Int)(s:anT):Nat→Int→Int→(List bG)→Int→Option ((List bG)×Int×Int)
 | 0=>λ_ _ _ _=>none
 |m+1=>BO n r1 s (ve n r1 s m)
def Gk(s:anT)(at_:Int):Option ((List bG)×Int×Int):=(ph n s at_ 32).bind λr1=>cond (!decide (r1.2.2=0)) ( some (([]:List bG),0,r1.2.2)) ( ve n r1 s n r1.2.1 0 ([]:List bG) 0)
def x'(ad:e5):Option ((List bG)×Int×Int):=cond (!decide (ad.e=0)) ( some (([]:List bG),ad.at_,ad.e)) ( (Gk n ad.s ad.at_).bind λr2=>cond (!decide (r2.2.2=0)) ( some (([]:List bG),ad.at_,r2.2.2)) ( some (r2.1,r2.2.1,r2.2.2)))
def MV(s:anT)(at_:Int)(a2:Int):Option (Int×Int×Int):=(ph n s at_ a2).bind λr1=>some (r1.1,r1.2.1,r1.2.2)
def vf(p:Int)(ad:e5):Option (Int×Int×Int):=cond (!decide (ad.e=0)) ( some (0,ad.at_,ad.e)) ( (MV n ad.s ad.at_ p).bind λr2=>cond (!decide (r2.2.2=0)) ( some (0,ad.at_,r2.2.2)) ( some (r2.1,r2.2.1,r2.2.2)))
def vg(ad:e5):Option (Int×Int×Int):=cond (!decide (ad.e=0)) ( some (0,ad.at_,ad.e)) ( (xX n ad.s ad.at_).bind λr2=>cond (!decide (r2.2.2=0)) ( some (0,ad.at_,r2.2.2)) ( some (r2.1,r2.2.1,r2.2.2)))
def MW(s:anT)(at_:Int)(a2:Int):Option (anT×Int×Int):=(sN n s at_ a2).bind λr1=>some (r1.1,r1.2.1,r1.2.2)
def BP(p:Int)(ad:e5):Option (anT×Int×Int):=cond (!decide (ad.e=0)) ( some (([]:anT),ad.at_,ad.e)) ( (MW n ad.s ad.at_ p).bind λr2=>cond (!decide (r2.2.2=0)) ( some (([]:anT),ad.at_,r2.2.2)) ( some (r2.1,r2.2.1,r2.2.2)))
def x_(ad:e5):Option (Int×Int×Int):=cond (!decide (ad.e=0)) ( some (0,ad.at_,ad.e)) ( (ry n ad.s ad.at_).bind λr2=>cond (!decide (r2.2.2=0)) ( some (0,ad.at_,r2.2.2)) ( some (r2.1,r2.2.1,r2.2.2)))
def BQ(n:Nat)(bu:Int):anY:=some bu
def sQ(ad:e5)(r1:Int×Int×Int)(r26:(List bG)×Int×Int)(r27:b7×Int×Int)(r2:(List bI)×Int×Int)(v25:List anT)(Gl:Int)(v51:Int)(Gm:List be):Option (oe×Int×Int):=(x7 n (⟨ad.s,Gl,v51⟩:e5)).bind λya=>(x_ n (⟨ad.s,ya.2.1,ya.2.2⟩:e5)).bind λkr=>some ((⟨⟨r1.1,⟨0,0,[]⟩,[],r26.1,r27.1,Gm,ya.1,kr.1⟩,r2.1,v25⟩:oe),kr.2.1,kr.2.2)
def BR(ad:e5)(r1:Int×Int×Int)(r26:(List bG)×Int×Int)(r27:b7×Int×Int)(r2:(List bI)×Int×Int)(v25:List anT)(eb:Int→Int→(List be)→Int→Option (oe×Int×Int))(jE:Int)(iw:Int)(v40:List be)(lQ:Int):Option (oe×Int×Int):=cond (cond (decide (0<lQ)) (decide (iw=0)) false) ( (BQ n 24).bind λmM=>(BP n mM (⟨ad.s,jE,iw⟩:e5)).bind λnJ=>(vg n (⟨ad.s,nJ.2.1,nJ.2.2⟩:e5)).bind λgq=>aE (room (v40.length+([(⟨nJ.1,gq.1⟩:be)]:List be).length) 24)<|eb gq.2.1 gq.2.2 (v40++([(⟨nJ.1,gq.1⟩:be)]:List be)) (anV (lQ-1))) ( sQ n ad r1 r26 r27 r2 v25 jE iw v40)
def qk(n:Nat)(ad:e5)(r1:Int×Int×Int)(r26:(List bG)×Int×Int)(r27:b7×Int×Int)(r2:(List bI)×Int×Int)(v25:List anT):Nat→Int→Int→(List be)→Int→Option (oe×Int×Int)
 | 0=>λ_ _ _ _=>none
 |m+1=>BR n ad r1 r26 r27 r2 v25 (qk n ad r1 r26 r27 r2 v25 m)
def sR(ad:e5)(r1:Int×Int×Int)(r2:(List bI)×Int×Int)(iv:Int)(v24:Int)(v25:List anT):Option (oe×Int×Int):=(x' n (⟨ad.s,iv,v24⟩:e5)).bind λr26=>(x1 n (⟨ad.s,r26.2.1,r26.2.2⟩:e5)).bind λr27=>(xU n 32).bind λoi=>(vf n oi (⟨ad.s,r27.2.1,r27.2.2⟩:e5)).bind λgd=>qk n ad r1 r26 r27 r2 v25 n gd.2.1 gd.2.2 ([]:List be) gd.1
def BS(ad:e5)(r1:Int×Int×Int)(r2:(List bI)×Int×Int)(dS:Int→Int→(List anT)→Int→Option (oe×Int×Int))(v12:Int)(dr:Int)(cj:List anT)(cu:Int):Option (oe×Int×Int):=cond (cond (decide (0<cu)) (decide (dr=0)) false) ( (BQ n 16384).bind λeR=>(BP n eR (⟨ad.s,v12,dr⟩:e5)).bind λe'=>aE (room (cj.length+([e'.1]:List anT).length) 16)<|dS e'.2.1 e'.2.2 (cj++([e'.1]:List anT)) (anV (cu-1))) ( sR n ad r1 r2 v12 dr cj)
def sS(n:Nat)(ad:e5)(r1:Int×Int×Int)(r2:(List bI)×Int×Int):Nat→Int→Int→(List anT)→Int→Option (oe×Int×Int)
 | 0=>λ_ _ _ _=>none
 |m+1=>BS n ad r1 r2 (sS n ad r1 r2 m)
def BT(ad:e5):Option (oe×Int×Int):=(vg n ad).bind λr1=>(xZ n (⟨ad.s,r1.2.1,r1.2.2⟩:e5)).bind λr2=>(xU n 16).bind λr3=>(vf n r3 (⟨ad.s,r2.2.1,r2.2.2⟩:e5)).bind λaZ=>sS n ad r1 r2 n aZ.2.1 aZ.2.2 ([]:List anT) aZ.1
def Gn(n:Nat):Option (anT×Int×Int):=some (([]:anT),0,6)
def MX(n:Nat)(aq:(List Int)→Int→Option (anT×Int×Int))(s:anT)(c':List Int)(v20:Int):Option (anT×Int×Int):=aq c' (anV (v20+1))
def Gp(aq:(List Int)→Int→Option (anT×Int×Int))(s:anT)(v11:List Int)(ep:Int)(a6:Int):Option (anT×Int×Int):=cond (cond (decide (a6<32)) true (decide (126<a6))) ( some (([]:anT),0,5)) ( cond (decide (((v11.length:Nat):Int)=64)) ( some (([]:anT),0,2)) ( aE (room (v11.length+([a6]:List Int).length) 1)<|MX n aq s (v11++([a6]:List Int)) ep))
def MY(s:anT)(aq:(List Int)→Int→Option (anT×Int×Int))(v11:List Int)(v12:Int):Option (anT×Int×Int):=cond (decide (v12<((s.length:Nat):Int))) ( aE (a7 v12 s.length)<|cond (decide ((((s.getD (v12).toNat 0).toNat:Nat):Int)=34)) ( aE (oc v11)<|some ((kS v11),(anV (v12+1)),0)) ( cond (decide ((((s.getD (v12).toNat 0).toNat:Nat):Int)=92)) ( cond (decide ((anV (v12+1))=((s.length:Nat):Int))) ( Gn n) ( aE (a7 (anV (v12+1)) s.length)<|cond (cond (!decide ((((s.getD ((anV (v12+1))).toNat 0).toNat:Nat):Int)=34)) (!decide ((((s.getD ((anV (v12+1))).toNat 0).toNat:Nat):Int)=92)) false) ( some (([]:anT),0,5)) ( Gp n aq s v11 (anV (v12+1)) (((s.getD ((anV (v12+1))).toNat 0).toNat:Nat):Int)))) ( Gp n aq s v11 v12 (((s.getD (v12).toNat 0).toNat:Nat):Int)))) ( Gn n)
def yb(n:Nat)(s:anT):Nat→(List Int)→Int→Option (anT×Int×Int)
 | 0=>λ_ _=>none
 |m+1=>MY n s (yb n s m)
def MZ(s:anT):Option (anT×Int×Int):=yb n s n ([]:List Int) 1
def M0(s:anT)(c:Int):anY:=(EY n s c).bind λr1=>some r1
def BU(s:anT):Option anT:=aE (!(!(decide (s=([]:anT))))||a7 0 s.length)<|Option.bind (cond (!(decide (s=([]:anT)))) (M0 n ([40,41,123,125,44,59,58,61,60,62,43,45,42,47,37]:anT) (((s.getD 0 0).toNat:Nat):Int)) (some default)) λcA=>cond (cond (!(decide (s=([]:anT)))) (decide (0≤cA)) false) ( aE (gC 1 s.length)<|some (s.take 1)) ( some ([]:anT))
def vh(s:anT)(v2:Bool):Option anT:=cond v2 ( aE (gC 2 s.length)<|some (s.take 2)) ( BU n s)
def Gq(s:anT):Option anT:=cond (decide (2≤((s.length:Nat):Int))) ( aE (gC 2 s.length)<|cond (decide ((s.take 2)=([61,61]:anT))) ( vh n s (decide ((s.take 2)=([61,61]:anT)))) ( cond (decide ((s.take 2)=([33,61]:anT))) ( vh n s (decide ((s.take 2)=([33,61]:anT)))) ( cond (decide ((s.take 2)=([60,61]:anT))) ( vh n s (decide ((s.take 2)=([60,61]:anT)))) ( cond (decide ((s.take 2)=([62,61]:anT))) ( vh n s (decide ((s.take 2)=([62,61]:anT)))) ( vh n s (decide ((s.take 2)=([43,43]:anT)))))))) ( BU n s)
def BV(s:anT)(v3:anT)(v4:Bool)(v10:Int):Option (Int×Int):=aE ((cond (decide (v10=0)) true (decide (v10<((v3.length:Nat):Int))))||a7 0 v3.length)<|cond (cond (cond (decide (v10=0)) true (decide (v10<((v3.length:Nat):Int)))) true (cond (decide ((((v3.getD 0 0).toNat:Nat):Int)=48)) (cond (decide (1<v10)) true v4) false)) ( some (0,5)) ( (xh n s 10 64).bind λdz=>hQ.on dz (λTU=>cond (!true) ( some (0,3)) ( some (TU,0))) (λTV=>cond (!false) ( some (0,3)) ( some (TV,0))))
def M1(s:anT)(v3:anT)(v4:Bool)(eb:Int→Option (Int×Int))(bK:Int):Option (Int×Int):=cond (decide (bK<((v3.length:Nat):Int))) ( aE (a7 bK v3.length)<|cond (cond (decide (48≤(((v3.getD (bK).toNat 0).toNat:Nat):Int))) (decide ((((v3.getD (bK).toNat 0).toNat:Nat):Int)≤57)) false) ( eb (anV (bK+1))) ( BV n s v3 v4 bK)) ( BV n s v3 v4 bK)
def yc(n:Nat)(s:anT)(v3:anT)(v4:Bool):Nat→Int→Option (Int×Int)
 | 0=>λ_=>none
 |m+1=>M1 n s v3 v4 (yc n s v3 v4 m)
def Gr(s:anT)(v3:anT)(v4:Bool):Option (Int×Int):=yc n s v3 v4 n 0
def Gs(s:anT):Option (Int×Int):=aE (!(decide (0<((s.length:Nat):Int)))||a7 0 s.length)<|cond (cond (decide (0<((s.length:Nat):Int))) (decide ((((s.getD 0 0).toNat:Nat):Int)=45)) false) ( aE (gC 1 s.length)<|Gr n s (s.drop 1) true) ( Gr n s s false)
def Gt(w:anT):Option (Token×Int):=aE (a7 0 w.length)<|cond (decide ((((w.getD 0 0).toNat:Nat):Int)=95)) ( some ((⟨0,[],0,0⟩:Token),5)) ( aE (a7 0 w.length)<|(A4 n (IntKind.i32.wrap (((w.getD 0 0).toNat:Nat):Int))).bind λaZ=>cond aZ ( (A3 n w).bind λb8=>cond b8 ( some ((⟨2,w,0,0⟩:Token),0)) ( (rq n w).bind λcM=>cond (!cM) ( some ((⟨0,[],0,0⟩:Token),2)) ( some ((⟨1,w,0,0⟩:Token),0)))) ( (Gs n w).bind λc8=>cond (!decide (c8.2=0)) ( some ((⟨0,[],0,0⟩:Token),c8.2)) ( some ((⟨3,[],c8.1,0⟩:Token),0))))
def yd(s:anT):Option (Token×Int×Int):=(xg n s).bind λr1=>cond (decide (0<r1)) ( aE (gC r1 s.length)<|(Gt n (s.take (r1).toNat)).bind λaZ=>some (aZ.1,r1,aZ.2)) ( aE (a7 0 s.length)<|cond (decide ((((s.getD 0 0).toNat:Nat):Int)=34)) ( (MZ n s).bind λcJ=>some ((⟨4,cJ.1,0,0⟩:Token),cJ.2.1,cJ.2.2)) ( (Gq n s).bind λcM=>cond (decide (cM=([]:anT))) ( some ((⟨0,[],0,0⟩:Token),0,5)) ( some ((⟨5,cM,0,0⟩:Token),((cM.length:Nat):Int),0))))
def Gu(s:anT):Option anT:=(EX n s).bind λr1=>some r1
def ye(n:Nat)(Gv:List Token):Option ((List Token)×Int×Int):=some (Gv,0,0)
def BW(aq:(List Token)→Int→Int→Option ((List Token)×Int×Int))(src:anT)(a6:List Token)(cF:Int)(c':Int):Option ((List Token)×Int×Int):=aE (gC c' src.length)<|(yd n (src.drop (c').toNat)).bind λgd=>cond (!decide (gd.2.2=0)) ( some (([]:List Token),cF,gd.2.2)) ( (Gu n gd.1.Text).bind λln=>aE (room (a6.length+([(⟨gd.1.Kind,ln,gd.1.N,cF⟩:Token)]:List Token).length) 40)<|aq (a6++([(⟨gd.1.Kind,ln,gd.1.N,cF⟩:Token)]:List Token)) cF (anV (c'+gd.2.1)))
def M3(n:Nat)(aq:(List Token)→Int→Int→Option ((List Token)×Int×Int))(src:anT)(a6:List Token)(cF:Int)(mO:Int):Option ((List Token)×Int×Int):=aq a6 cF mO
def M4(aq:(List Token)→Int→Int→Option ((List Token)×Int×Int))(src:anT)(a6:List Token)(cF:Int)(qi:Int→Option ((List Token)×Int×Int))(v24:Int):Option ((List Token)×Int×Int):=aE (!(decide (v24<((src.length:Nat):Int)))||a7 v24 src.length)<|cond (cond (decide (v24<((src.length:Nat):Int))) (!decide ((((src.getD (v24).toNat 0).toNat:Nat):Int)=10)) false) ( qi (anV (v24+1))) ( M3 n aq src a6 cF v24)
def BX(n:Nat)(aq:(List Token)→Int→Int→Option ((List Token)×Int×Int))(src:anT)(a6:List Token)(cF:Int):Nat→Int→Option ((List Token)×Int×Int)
 | 0=>λ_=>none
 |m+1=>M4 n aq src a6 cF (BX n aq src a6 cF m)
def yf(aq:(List Token)→Int→Int→Option ((List Token)×Int×Int))(src:anT)(a6:List Token)(cF:Int)(c':Int)(v21:Bool):Option ((List Token)×Int×Int):=cond v21 ( aq a6 cF (anV (c'+1))) ( cond (decide ((((src.getD (c').toNat 0).toNat:Nat):Int)=35)) ( BX n aq src a6 cF n c') ( BW n aq src a6 cF c'))
def yg(src:anT)(aq:(List Token)→Int→Int→Option ((List Token)×Int×Int))(a6:List Token)(cF:Int)(c':Int):Option ((List Token)×Int×Int):=cond (decide (c'<((src.length:Nat):Int))) ( aE (a7 c' src.length)<|cond (decide ((((src.getD (c').toNat 0).toNat:Nat):Int)=10)) ( aq a6 (anV (cF+1)) (anV (c'+1))) ( cond (decide ((((src.getD (c').toNat 0).toNat:Nat):Int)=32)) ( yf n aq src a6 cF c' (decide ((((src.getD (c').toNat 0).toNat:Nat):Int)=32))) ( yf n aq src a6 cF c' (decide ((((src.getD (c').toNat 0).toNat:Nat):Int)=9))))) ( ye n a6)
def rF(n:Nat)(src:anT):Nat→(List Token)→Int→Int→Option ((List Token)×Int×Int)
 | 0=>λ_ _ _=>none
 |m+1=>yg n src (rF n src m)
def vi(src:anT):Option ((List Token)×Int×Int):=cond (decide (16384<((src.length:Nat):Int))) ( some (([]:List Token),0,2)) ( rF n src n ([]:List Token) 1 0)
def sT(n:Nat)(text:anT)(ad:aM):anX:=cond (decide (((ad.tokens.length:Nat):Int)≤ad.at_)) ( some false) ( aE (a7 ad.at_ ad.tokens.length)<|some (cond (cond (decide ((anW ad.tokens (ad.at_)).Kind=2)) true (decide ((anW ad.tokens (ad.at_)).Kind=5))) (decide (((anW ad.tokens (ad.at_)).Text)=text)) false))
def jU(text:anT)(ad:aM):Option (Bool×Int):=(sT n text ad).bind λr1=>cond (!r1) ( some (false,ad.at_)) ( some (true,(anV (ad.at_+1))))
def M5(n:Nat)(ad:aM):Option (ax Unit Unit):=aE (a7 (anV (((ad.tokens.length:Nat):Int)-1)) ad.tokens.length)<|some (.a8 (.iface 332 (.agg [.int .i64 ((anW ad.tokens (anV (((ad.tokens.length:Nat):Int)-1))).kU),.int .i64 6])) ())
def M6(ad:aM):Option (ax Unit Unit):=cond (decide (((ad.tokens.length:Nat):Int)=0)) ( some (.a8 (.iface 332 (.agg [.int .i64 1,.int .i64 6])) ())) ( M5 n ad)
def rG(code:Int)(ad:aM):Option (ax Unit Unit):=cond (decide (ad.at_<((ad.tokens.length:Nat):Int))) ( aE (a7 ad.at_ ad.tokens.length)<|some (.a8 (.iface 332 (.agg [.int .i64 ((anW ad.tokens (ad.at_)).kU),.int .i64 code])) ())) ( M6 n ad)
def jV(text:anT)(ad:aM):Option (ax Unit Int):=(jU n text ad).bind λr1=>cond (!r1.1) ( (rG n 5 (⟨ad.tokens,r1.2⟩:aM)).bind λr3=>ax.on r3 (λaZ cA=>some (.ret () r1.2)) (λpj cA=>some (.a8 pj r1.2))) ( some (.ret () r1.2))
def ql(s:Stmt)(ad:aM):Option (ax Stmt Int):=(jV n ([59]:anT) ad).bind λr1=>ax.on r1 (λr2 r3=>some (.ret (⟨s.Op,s.Name,s.Max,⟨s.A.Op,s.A.N,s.A.S,s.A.aw⟩,⟨s.B.Op,s.B.N,s.B.S,s.B.aw⟩,s.Body,s.bw⟩:Stmt) r3)) (λfF r3=>some (.a8 fF r3))
def Gw(n:Nat)(ad:aM):Option (Int×Int):=cond (decide (((ad.tokens.length:Nat):Int)≤ad.at_)) ( some (0,0)) ( aE (a7 ad.at_ ad.tokens.length)<|cond (cond (!decide ((anW ad.tokens (ad.at_)).Kind=2)) (!decide ((anW ad.tokens (ad.at_)).Kind=5)) false) ( some (0,0)) ( cond (decide (((anW ad.tokens (ad.at_)).Text)=([111,114]:anT))) ( some (1,17)) ( cond (decide (((anW ad.tokens (ad.at_)).Text)=([97,110,100]:anT))) ( some (2,16)) ( cond (decide (((anW ad.tokens (ad.at_)).Text)=([61,61]:anT))) ( some (4,10)) ( cond (decide (((anW ad.tokens (ad.at_)).Text)=([33,61]:anT))) ( some (4,11)) ( cond (decide (((anW ad.tokens (ad.at_)).Text)=([60]:anT))) ( some (4,12)) ( cond (decide (((anW ad.tokens (ad.at_)).Text)=([60,61]:anT))) ( some (4,13)) ( cond (decide (((anW ad.tokens (ad.at_)).Text)=([62]:anT))) ( some (4,14)) ( cond (decide (((anW ad.tokens (ad.at_)).Text)=([62,61]:anT))) ( some (4,15)) ( cond (decide (((anW ad.tokens (ad.at_)).Text)=([43,43]:anT))) ( some (5,19)) ( cond (decide (((anW ad.tokens (ad.at_)).Text)=([43]:anT))) ( some (6,4)) ( cond (decide (((anW ad.tokens (ad.at_)).Text)=([45]:anT))) ( some (6,5)) ( cond (decide (((anW ad.tokens (ad.at_)).Text)=([42]:anT))) ( some (7,6)) ( cond (decide (((anW ad.tokens (ad.at_)).Text)=([47]:anT))) ( some (7,7)) ( cond (decide (((anW ad.tokens (ad.at_)).Text)=([37]:anT))) ( some (7,8)) ( some (0,0)))))))))))))))))
def Gx(n:Nat)(depth:Int)(ad:aM):Option (ax Int Unit):=some (.ret (anV (depth+1)) ())
def yh(depth:Int)(ad:aM):Option (ax Int Unit):=cond (decide (24≤depth)) ( (rG n 2 ad).bind λr1=>ax.on r1 (λr2 r3=>Gx n depth ad) (λfF r3=>some (.a8 fF ()))) ( Gx n depth ad)
def Gy(n:Nat)(ad:aM):anY:=aE ((decide (((ad.tokens.length:Nat):Int)≤ad.at_))||a7 ad.at_ ad.tokens.length)<|cond (cond (decide (((ad.tokens.length:Nat):Int)≤ad.at_)) true (!decide ((anW ad.tokens (ad.at_)).Kind=2))) ( some 0) ( aE (a7 ad.at_ ad.tokens.length)<|cond (decide (((anW ad.tokens (ad.at_)).Text)=([116,101,120,116]:anT))) ( some 20) ( cond (decide (((anW ad.tokens (ad.at_)).Text)=([108,101,110]:anT))) ( some 21) ( cond (decide (((anW ad.tokens (ad.at_)).Text)=([103,101,116,105,110,116]:anT))) ( some 22) ( cond (decide (((anW ad.tokens (ad.at_)).Text)=([103,101,116,115,116,114]:anT))) ( some 23) ( cond (decide (((anW ad.tokens (ad.at_)).Text)=([104,97,115]:anT))) ( some 24) ( cond (decide (((anW ad.tokens (ad.at_)).Text)=([110,111,119]:anT))) ( some 25) ( cond (decide (((anW ad.tokens (ad.at_)).Text)=([114,97,110,100,111,109]:anT))) ( some 26) ( cond (decide (((anW ad.tokens (ad.at_)).Text)=([110,111,100,101]:anT))) ( some 27) ( some 0)))))))))
def BY(fi:Int→Int→aM→Option (ax Expr Int))(fG:Int→Int→Int→aM→Option (ax Expr Int))(fS:Int→aM→Option (ax Expr Int))(fH:Int→aM→Option (ax Expr Int))(level:Int)(depth:Int)(ad:aM)(cP:Int→Int→Int→anT→(List Expr)→Option (ax Expr Int))(v37:Int)(jE:Int)(iw:Int)(v40:anT)(lQ:List Expr):Option (ax Expr Int):=(Gw n (⟨ad.tokens,v37⟩:aM)).bind λmM=>cond (!decide (mM.1=level)) ( some (.ret (⟨jE,iw,v40,lQ⟩:Expr) v37)) ( (fi (anV (level+1)) depth (⟨ad.tokens,(anV (v37+1))⟩:aM)).bind λnJ=>ax.on nJ (λgq mP=>cond (decide (level=4)) ( some (.ret (⟨mM.2,0,[],[⟨jE,iw,v40,lQ⟩,gq]⟩:Expr) mP)) ( cP mP mM.2 0 ([]:anT) ([(⟨jE,iw,v40,lQ⟩:Expr),gq]:List Expr))) (λvj mP=>some (.a8 vj mP)))
def pk(n:Nat)(fi:Int→Int→aM→Option (ax Expr Int))(fG:Int→Int→Int→aM→Option (ax Expr Int))(fS:Int→aM→Option (ax Expr Int))(fH:Int→aM→Option (ax Expr Int))(level:Int)(depth:Int)(ad:aM):Nat→Int→Int→Int→anT→(List Expr)→Option (ax Expr Int)
 | 0=>λ_ _ _ _ _=>none
 |m+1=>BY n fi fG fS fH level depth ad (pk n fi fG fS fH level depth ad m)
def sU(fi:Int→Int→aM→Option (ax Expr Int))(fG:Int→Int→Int→aM→Option (ax Expr Int))(fS:Int→aM→Option (ax Expr Int))(fH:Int→aM→Option (ax Expr Int))(level:Int)(depth:Int)(ad:aM):Option (ax Expr Int):=cond (decide (level=3)) ( (sT n ([110,111,116]:anT) ad).bind λr2=>cond r2 ( (fG 18 level depth ad).bind λaZ=>ax.on aZ (λcA b8=>some (.ret cA b8)) (λBZ b8=>some (.a8 BZ b8))) ( (fi 4 depth ad).bind λcM=>ax.on cM (λcy c8=>some (.ret cy c8)) (λM7 c8=>some (.a8 M7 c8)))) ( cond (decide (level=8)) ( (sT n ([45]:anT) ad).bind λdz=>cond dz ( (fG 9 level depth ad).bind λdH=>ax.on dH (λeR e'=>some (.ret eR e')) (λvk e'=>some (.a8 vk e'))) ( (fS depth ad).bind λgj=>ax.on gj (λeQ fB=>some (.ret eQ fB)) (λM8 fB=>some (.a8 M8 fB)))) ( (fi (anV (level+1)) depth ad).bind λe7=>ax.on e7 (λr24 gE=>pk n fi fG fS fH level depth ad n gE r24.Op r24.N r24.S r24.aw) (λM9 gE=>some (.a8 M9 gE))))
def Gz(fi:Int→Int→aM→Option (ax Expr Int))(fG:Int→Int→Int→aM→Option (ax Expr Int))(fS:Int→aM→Option (ax Expr Int))(fH:Int→aM→Option (ax Expr Int))(op:Int)(level:Int)(depth:Int)(ad:aM):Option (ax Expr Int):=(yh n depth ad).bind λr1=>ax.on r1 (λr2 r3=>(fi level r2 (⟨ad.tokens,(anV (ad.at_+1))⟩:aM)).bind λcA=>ax.on cA (λb8 cJ=>some (.ret (⟨op,0,[],[b8]⟩:Expr) cJ)) (λiX cJ=>some (.a8 iX cJ))) (λfF r3=>some (.a8 fF ad.at_))
def M_(fi:Int→Int→aM→Option (ax Expr Int))(fG:Int→Int→Int→aM→Option (ax Expr Int))(fS:Int→aM→Option (ax Expr Int))(fH:Int→aM→Option (ax Expr Int))(depth:Int)(r3:Int)(ad:aM)(v2:Int):Option (ax Expr Int):=(yh n depth (⟨ad.tokens,v2⟩:aM)).bind λr26=>ax.on r26 (λr27 oi=>(fH r27 (⟨ad.tokens,(anV (v2+1))⟩:aM)).bind λln=>ax.on ln (λgF pm=>some (.ret (⟨r3,0,[],[gF]⟩:Expr) pm)) (λvl pm=>some (.a8 vl pm))) (λNa oi=>some (.a8 Na v2))
def GA(fi:Int→Int→aM→Option (ax Expr Int))(fG:Int→Int→Int→aM→Option (ax Expr Int))(fS:Int→aM→Option (ax Expr Int))(fH:Int→aM→Option (ax Expr Int))(depth:Int)(ad:aM)(v2:Int):Option (ax Expr Int):=(yh n depth (⟨ad.tokens,v2⟩:aM)).bind λcy=>ax.on cy (λc8 bZ=>(fH c8 (⟨ad.tokens,v2⟩:aM)).bind λdz=>ax.on dz (λeF dH=>some (.ret eF dH)) (λvm dH=>some (.a8 vm dH))) (λmi bZ=>some (.a8 mi v2))
def yi(fi:Int→Int→aM→Option (ax Expr Int))(fG:Int→Int→Int→aM→Option (ax Expr Int))(fS:Int→aM→Option (ax Expr Int))(fH:Int→aM→Option (ax Expr Int))(depth:Int)(r3:Int)(ad:aM)(v2:Int)(a6:Bool):Option (ax Expr Int):=cond a6 ( (jV n ([40]:anT) (⟨ad.tokens,(anV (v2+1))⟩:aM)).bind λf_=>ax.on f_ (λgj eQ=>(jV n ([41]:anT) (⟨ad.tokens,eQ⟩:aM)).bind λet=>ax.on et (λe7 r24=>some (.ret (⟨r3,0,[],[]⟩:Expr) r24)) (λNb r24=>some (.a8 Nb r24))) (λNc eQ=>some (.a8 Nc eQ))) ( M_ n fi fG fS fH depth r3 ad v2)
def vn(fi:Int→Int→aM→Option (ax Expr Int))(fG:Int→Int→Int→aM→Option (ax Expr Int))(fS:Int→aM→Option (ax Expr Int))(fH:Int→aM→Option (ax Expr Int))(depth:Int)(ad:aM)(v2:Int):Option (ax Expr Int):=(Gy n (⟨ad.tokens,v2⟩:aM)).bind λr3=>cond (decide (r3=0)) ( (sT n ([40]:anT) (⟨ad.tokens,v2⟩:aM)).bind λaZ=>cond (!aZ) ( (rG n 5 (⟨ad.tokens,v2⟩:aM)).bind λcA=>ax.on cA (λb8 cJ=>GA n fi fG fS fH depth ad v2) (λiX cJ=>some (.a8 iX v2))) ( GA n fi fG fS fH depth ad v2)) ( cond (decide (r3=25)) ( yi n fi fG fS fH depth r3 ad v2 (decide (r3=25))) ( cond (decide (r3=26)) ( yi n fi fG fS fH depth r3 ad v2 (decide (r3=26))) ( yi n fi fG fS fH depth r3 ad v2 (decide (r3=27)))))
def GB(fi:Int→Int→aM→Option (ax Expr Int))(fG:Int→Int→Int→aM→Option (ax Expr Int))(fS:Int→aM→Option (ax Expr Int))(fH:Int→aM→Option (ax Expr Int))(depth:Int)(ad:aM):Option (ax Expr Int):=cond (decide (ad.at_<((ad.tokens.length:Nat):Int))) ( aE (a7 ad.at_ ad.tokens.length)<|cond (decide ((anW ad.tokens (ad.at_)).Kind=3)) ( some (.ret (⟨1,(anW ad.tokens (ad.at_)).N,[],[]⟩:Expr) (anV (ad.at_+1)))) ( cond (decide ((anW ad.tokens (ad.at_)).Kind=4)) ( some (.ret (⟨2,0,(anW ad.tokens (ad.at_)).Text,[]⟩:Expr) (anV (ad.at_+1)))) ( cond (decide ((anW ad.tokens (ad.at_)).Kind=1)) ( some (.ret (⟨3,0,(anW ad.tokens (ad.at_)).Text,[]⟩:Expr) (anV (ad.at_+1)))) ( vn n fi fG fS fH depth ad (anV ((anV (ad.at_+1))-1)))))) ( vn n fi fG fS fH depth ad ad.at_)
def GC(fi:Int→Int→aM→Option (ax Expr Int))(fG:Int→Int→Int→aM→Option (ax Expr Int))(fS:Int→aM→Option (ax Expr Int))(fH:Int→aM→Option (ax Expr Int))(depth:Int)(ad:aM):Option (ax Expr Int):=(jV n ([40]:anT) ad).bind λr1=>ax.on r1 (λr2 r3=>(fi 1 depth (⟨ad.tokens,r3⟩:aM)).bind λcA=>ax.on cA (λb8 cJ=>(jV n ([41]:anT) (⟨ad.tokens,cJ⟩:aM)).bind λcy=>ax.on cy (λc8 bZ=>some (.ret b8 bZ)) (λmi bZ=>some (.a8 mi bZ))) (λiX cJ=>some (.a8 iX cJ))) (λfF r3=>some (.a8 fF r3))
def jW:Nat→(Int→Int→aM→Option (ax Expr Int))×(Int→Int→Int→aM→Option (ax Expr Int))×(Int→aM→Option (ax Expr Int))×(Int→aM→Option (ax Expr Int))
 | 0=>(λ_ _ _=>none,λ_ _ _ _=>none,λ_ _=>none,λ_ _=>none)
 |m+1=>(sU m ((jW m).1) ((jW m).2.1) ((jW m).2.2.1) ((jW m).2.2.2),Gz m ((jW m).1) ((jW m).2.1) ((jW m).2.2.1) ((jW m).2.2.2),GB m ((jW m).1) ((jW m).2.1) ((jW m).2.2.1) ((jW m).2.2.2),GC m ((jW m).1) ((jW m).2.1) ((jW m).2.2.1) ((jW m).2.2.2))
def hB:Int→Int→aM→Option (ax Expr Int):=(jW n).1
def nK:Int→Int→Int→aM→Option (ax Expr Int):=(jW n).2.1
def mj:Int→aM→Option (ax Expr Int):=(jW n).2.2.1
def nL:Int→aM→Option (ax Expr Int):=(jW n).2.2.2
def GD(n:Nat)(ad:aM):Option (ax Token Int):=aE (a7 (anV ((anV (ad.at_+1))-1)) ad.tokens.length)<|some (.ret (anW ad.tokens (anV ((anV (ad.at_+1))-1))) (anV (ad.at_+1)))
def pn(kind:Int)(ad:aM):Option (ax Token Int):=aE ((decide (((ad.tokens.length:Nat):Int)≤ad.at_))||a7 ad.at_ ad.tokens.length)<|cond (cond (decide (((ad.tokens.length:Nat):Int)≤ad.at_)) true (!decide ((anW ad.tokens (ad.at_)).Kind=kind))) ( (rG n 5 ad).bind λr2=>ax.on r2 (λr3 aZ=>GD n ad) (λmQ aZ=>some (.a8 mQ ad.at_))) ( GD n ad)
def Nd(n:Nat)(gG:Int→aM→Option (ax (List Stmt) Int))(hf:Int→aM→Option (ax Stmt Int))(hh:Int→aM→Option (ax Stmt Int))(ad:aM)(v28:Int)(jm:List Stmt):Option (ax (List Stmt) Int):=some (.ret jm v28)
def GE(gG:Int→aM→Option (ax (List Stmt) Int))(hf:Int→aM→Option (ax Stmt Int))(hh:Int→aM→Option (ax Stmt Int))(depth:Int)(ad:aM)(eb:Int→(List Stmt)→Option (ax (List Stmt) Int))(cF:Int)(c':List Stmt):Option (ax (List Stmt) Int):=(jU n ([125]:anT) (⟨ad.tokens,cF⟩:aM)).bind λeQ=>cond (!eQ.1) ( (hf (anV (depth+1)) (⟨ad.tokens,eQ.2⟩:aM)).bind λfB=>ax.on fB (λet e7=>aE (room (c'.length+([et]:List Stmt).length) 192)<|eb e7 (c'++([et]:List Stmt))) (λpo e7=>some (.a8 po e7))) ( Nd n gG hf hh ad eQ.2 c')
def yj(n:Nat)(gG:Int→aM→Option (ax (List Stmt) Int))(hf:Int→aM→Option (ax Stmt Int))(hh:Int→aM→Option (ax Stmt Int))(depth:Int)(ad:aM):Nat→Int→(List Stmt)→Option (ax (List Stmt) Int)
 | 0=>λ_ _=>none
 |m+1=>GE n gG hf hh depth ad (yj n gG hf hh depth ad m)
def GF(gG:Int→aM→Option (ax (List Stmt) Int))(hf:Int→aM→Option (ax Stmt Int))(hh:Int→aM→Option (ax Stmt Int))(depth:Int)(ad:aM):Option (ax (List Stmt) Int):=(jV n ([123]:anT) ad).bind λb8=>ax.on b8 (λcJ cM=>yj n gG hf hh depth ad n cM ([]:List Stmt)) (λNf cM=>some (.a8 Nf cM))
def GG(gG:Int→aM→Option (ax (List Stmt) Int))(hf:Int→aM→Option (ax Stmt Int))(hh:Int→aM→Option (ax Stmt Int))(depth:Int)(ad:aM):Option (ax (List Stmt) Int):=(sT n ([123]:anT) ad).bind λr1=>cond (cond r1 (decide (12<depth)) false) ( (rG n 2 ad).bind λr2=>ax.on r2 (λr3 aZ=>GF n gG hf hh depth ad) (λmQ aZ=>some (.a8 mQ ad.at_))) ( GF n gG hf hh depth ad)
def B0(n:Nat)(gG:Int→aM→Option (ax (List Stmt) Int))(hf:Int→aM→Option (ax Stmt Int))(hh:Int→aM→Option (ax Stmt Int))(ad:aM)(qm:Expr)(vo:(List Stmt))(GH:Int)(GI:List Stmt):Option (ax Stmt Int):=some (.ret (⟨5,[],0,qm,⟨0,0,[],[]⟩,vo,GI⟩:Stmt) GH)
def ol(gG:Int→aM→Option (ax (List Stmt) Int))(hf:Int→aM→Option (ax Stmt Int))(hh:Int→aM→Option (ax Stmt Int))(depth:Int)(ad:aM):Option (ax Stmt Int):=(jU n ([108,101,116]:anT) ad).bind λr1=>cond r1.1 ( (pn n 1 (⟨ad.tokens,r1.2⟩:aM)).bind λr3=>ax.on r3 (λaZ cA=>(jV n ([61]:anT) (⟨ad.tokens,cA⟩:aM)).bind λcJ=>ax.on cJ (λcM cy=>(hB n 1 0 (⟨ad.tokens,cy⟩:aM)).bind λbZ=>ax.on bZ (λez dz=>(ql n (⟨1,aZ.Text,0,ez,⟨0,0,[],[]⟩,[],[]⟩:Stmt) (⟨ad.tokens,dz⟩:aM)).bind λdH=>ax.on dH (λeR e'=>some (.ret (⟨eR.Op,eR.Name,eR.Max,⟨eR.A.Op,eR.A.N,eR.A.S,eR.A.aw⟩,⟨eR.B.Op,eR.B.N,eR.B.S,eR.B.aw⟩,eR.Body,eR.bw⟩:Stmt) e')) (λvk e'=>some (.a8 vk e'))) (λNg dz=>some (.a8 Ng dz))) (λNh cy=>some (.a8 Nh cy))) (λpj cA=>some (.a8 pj cA))) ( (jU n ([112,117,116]:anT) (⟨ad.tokens,r1.2⟩:aM)).bind λgj=>cond gj.1 ( (hB n 1 0 (⟨ad.tokens,gj.2⟩:aM)).bind λfB=>ax.on fB (λet e7=>(jV n ([61]:anT) (⟨ad.tokens,e7⟩:aM)).bind λgE=>ax.on gE (λr26 r27=>(hB n 1 0 (⟨ad.tokens,r27⟩:aM)).bind λgd=>ax.on gd (λln gF=>(ql n (⟨3,[],0,et,ln,[],[]⟩:Stmt) (⟨ad.tokens,gF⟩:aM)).bind λsI=>ax.on sI (λmR B1=>some (.ret (⟨mR.Op,mR.Name,mR.Max,⟨mR.A.Op,mR.A.N,mR.A.S,mR.A.aw⟩,⟨mR.B.Op,mR.B.N,mR.B.S,mR.B.aw⟩,mR.Body,mR.bw⟩:Stmt) B1)) (λNi B1=>some (.a8 Ni B1))) (λvp gF=>some (.a8 vp gF))) (λvq r27=>some (.a8 vq r27))) (λpo e7=>some (.a8 po e7))) ( (jU n ([100,101,108,101,116,101]:anT) (⟨ad.tokens,gj.2⟩:aM)).bind λGJ=>cond GJ.1 ( (hB n 1 0 (⟨ad.tokens,GJ.2⟩:aM)).bind λxM=>ax.on xM (λu5 mN=>(ql n (⟨4,[],0,u5,⟨0,0,[],[]⟩,[],[]⟩:Stmt) (⟨ad.tokens,mN⟩:aM)).bind λnJ=>ax.on nJ (λgq mP=>some (.ret (⟨gq.Op,gq.Name,gq.Max,⟨gq.A.Op,gq.A.N,gq.A.S,gq.A.aw⟩,⟨gq.B.Op,gq.B.N,gq.B.S,gq.B.aw⟩,gq.Body,gq.bw⟩:Stmt) mP)) (λvj mP=>some (.a8 vj mP))) (λvr mN=>some (.a8 vr mN))) ( (jU n ([101,109,105,116]:anT) (⟨ad.tokens,GJ.2⟩:aM)).bind λnI=>cond nI.1 ( (hB n 1 0 (⟨ad.tokens,nI.2⟩:aM)).bind λFW=>ax.on FW (λBz B2=>(ql n (⟨7,[],0,Bz,⟨0,0,[],[]⟩,[],[]⟩:Stmt) (⟨ad.tokens,B2⟩:aM)).bind λya=>ax.on ya (λkr B3=>some (.ret (⟨kr.Op,kr.Name,kr.Max,⟨kr.A.Op,kr.A.N,kr.A.S,kr.A.aw⟩,⟨kr.B.Op,kr.B.N,kr.B.S,kr.B.aw⟩,kr.Body,kr.bw⟩:Stmt) B3)) (λNj B3=>some (.a8 Nj B3))) (λNk B2=>some (.a8 Nk B2))) ( (jU n ([97,98,111,114,116]:anT) (⟨ad.tokens,nI.2⟩:aM)).bind λGK=>cond GK.1 ( (pn n 3 (⟨ad.tokens,GK.2⟩:aM)).bind λadb=>ax.on adb (λTW B4=>(ql n (⟨8,[],TW.N,⟨0,0,[],[]⟩,⟨0,0,[],[]⟩,[],[]⟩:Stmt) (⟨ad.tokens,B4⟩:aM)).bind λBv=>ax.on Bv (λmS sL=>some (.ret (⟨mS.Op,mS.Name,mS.Max,⟨mS.A.Op,mS.A.N,mS.A.S,mS.A.aw⟩,⟨mS.B.Op,mS.B.N,mS.B.S,mS.B.aw⟩,mS.Body,mS.bw⟩:Stmt) sL)) (λNl sL=>some (.a8 Nl sL))) (λNn B4=>some (.a8 Nn B4))) ( (jU n ([105,102]:anT) (⟨ad.tokens,GK.2⟩:aM)).bind λGL=>cond GL.1 ( (hB n 1 0 (⟨ad.tokens,GL.2⟩:aM)).bind λadc=>ax.on adc (λqm B5=>(gG depth (⟨ad.tokens,B5⟩:aM)).bind λade=>ax.on ade (λvo B6=>(jU n ([101,108,115,101]:anT) (⟨ad.tokens,B6⟩:aM)).bind λGM=>cond GM.1 ( (gG depth (⟨ad.tokens,GM.2⟩:aM)).bind λadf=>ax.on adf (λTX B7=>B0 n gG hf hh ad qm vo B7 TX) (λNo B7=>some (.a8 No B7))) ( B0 n gG hf hh ad qm vo GM.2 ([]:List Stmt))) (λNp B6=>some (.a8 Np B6))) (λNq B5=>some (.a8 Nq B5))) ( (jU n ([102,111,114]:anT) (⟨ad.tokens,GL.2⟩:aM)).bind λGN=>cond GN.1 ( (hh depth (⟨ad.tokens,GN.2⟩:aM)).bind λadg=>ax.on adg (λmT B8=>some (.ret (⟨mT.Op,mT.Name,mT.Max,⟨mT.A.Op,mT.A.N,mT.A.S,mT.A.aw⟩,⟨mT.B.Op,mT.B.N,mT.B.S,mT.B.aw⟩,mT.Body,mT.bw⟩:Stmt) B8)) (λNr B8=>some (.a8 Nr B8))) ( (pn n 1 (⟨ad.tokens,GN.2⟩:aM)).bind λxJ=>ax.on xJ (λu3 B9=>(jV n ([61]:anT) (⟨ad.tokens,B9⟩:aM)).bind λadh=>ax.on adh (λFR B'=>(hB n 1 0 (⟨ad.tokens,B'⟩:aM)).bind λadi=>ax.on adi (λTY B_=>(ql n (⟨2,u3.Text,0,TY,⟨0,0,[],[]⟩,[],[]⟩:Stmt) (⟨ad.tokens,B_⟩:aM)).bind λadj=>ax.on adj (λmU sK=>some (.ret (⟨mU.Op,mU.Name,mU.Max,⟨mU.A.Op,mU.A.N,mU.A.S,mU.A.aw⟩,⟨mU.B.Op,mU.B.N,mU.B.S,mU.B.aw⟩,mU.Body,mU.bw⟩:Stmt) sK)) (λNs sK=>some (.a8 Ns sK))) (λNt B_=>some (.a8 Nt B_))) (λNu B'=>some (.a8 Nu B'))) (λNv B9=>some (.a8 Nv B9)))))))))
def GO(gG:Int→aM→Option (ax (List Stmt) Int))(hf:Int→aM→Option (ax Stmt Int))(hh:Int→aM→Option (ax Stmt Int))(depth:Int)(ad:aM):Option (ax Stmt Int):=(pn n 1 ad).bind λr1=>ax.on r1 (λr2 r3=>(jV n ([61]:anT) (⟨ad.tokens,r3⟩:aM)).bind λcA=>ax.on cA (λb8 cJ=>(hB n 1 0 (⟨ad.tokens,cJ⟩:aM)).bind λcy=>ax.on cy (λc8 bZ=>(jV n ([116,111]:anT) (⟨ad.tokens,bZ⟩:aM)).bind λdz=>ax.on dz (λeF dH=>(hB n 1 0 (⟨ad.tokens,dH⟩:aM)).bind λe'=>ax.on e' (λf_ gj=>(jV n ([109,97,120]:anT) (⟨ad.tokens,gj⟩:aM)).bind λfB=>ax.on fB (λet e7=>(pn n 3 (⟨ad.tokens,e7⟩:aM)).bind λgE=>ax.on gE (λr26 r27=>(gG depth (⟨ad.tokens,r27⟩:aM)).bind λgd=>ax.on gd (λln gF=>some (.ret (⟨6,r2.Text,r26.N,c8,f_,ln,[]⟩:Stmt) gF)) (λvp gF=>some (.a8 vp gF))) (λvq r27=>some (.a8 vq r27))) (λpo e7=>some (.a8 po e7))) (λNw gj=>some (.a8 Nw gj))) (λvm dH=>some (.a8 vm dH))) (λmi bZ=>some (.a8 mi bZ))) (λiX cJ=>some (.a8 iX cJ))) (λfF r3=>some (.a8 fF r3))
def om:Nat→(Int→aM→Option (ax (List Stmt) Int))×(Int→aM→Option (ax Stmt Int))×(Int→aM→Option (ax Stmt Int))
 | 0=>(λ_ _=>none,λ_ _=>none,λ_ _=>none)
 |m+1=>(GG m ((om m).1) ((om m).2.1) ((om m).2.2),ol m ((om m).1) ((om m).2.1) ((om m).2.2),GO m ((om m).1) ((om m).2.1) ((om m).2.2))
def qn:Int→aM→Option (ax (List Stmt) Int):=(om n).1
def vt:Int→aM→Option (ax Stmt Int):=(om n).2.1
def yk:Int→aM→Option (ax Stmt Int):=(om n).2.2
def yl(n:Nat)(ad:aM)(r2:Token)(ep:Int)(a6:Int):Option (ax Param Int):=some (.ret (⟨r2.Text,a6⟩:Param) ep)
def Ca(ad:aM):Option (ax Param Int):=(pn n 1 ad).bind λr1=>ax.on r1 (λr2 r3=>(jV n ([58]:anT) (⟨ad.tokens,r3⟩:aM)).bind λcA=>ax.on cA (λb8 cJ=>(jU n ([105,110,116]:anT) (⟨ad.tokens,cJ⟩:aM)).bind λcy=>cond cy.1 ( yl n ad r2 cy.2 1) ( (jU n ([115,116,114]:anT) (⟨ad.tokens,cy.2⟩:aM)).bind λc8=>cond c8.1 ( yl n ad r2 c8.2 2) ( (jU n ([98,111,111,108]:anT) (⟨ad.tokens,c8.2⟩:aM)).bind λbZ=>cond bZ.1 ( yl n ad r2 bZ.2 3) ( (rG n 5 (⟨ad.tokens,bZ.2⟩:aM)).bind λez=>ax.on ez (λdz eF=>yl n ad r2 bZ.2 0) (λNx eF=>some (.a8 Nx bZ.2)))))) (λiX cJ=>some (.a8 iX cJ))) (λfF r3=>some (.a8 fF r3))
def Cb(ad:aM)(b8:Token)(GP:Int)(GQ:List Param):Option (ax bd Int):=(qn n 0 (⟨ad.tokens,GP⟩:aM)).bind λmP=>ax.on mP (λBy nI=>some (.ret (⟨b8.Text,GQ,By⟩:bd) nI)) (λNy nI=>some (.a8 Ny nI))
def GR(ad:aM)(b8:Token)(v37:Int)(jE:List Param):Option (ax bd Int):=(jV n ([41]:anT) (⟨ad.tokens,v37⟩:aM)).bind λxM=>ax.on xM (λu5 mN=>Cb n ad b8 mN jE) (λvr mN=>some (.a8 vr mN))
def GS(ad:aM)(b8:Token)(eb:Int→(List Param)→Option (ax bd Int))(mO:Int)(v28:List Param):Option (ax bd Int):=(jU n ([44]:anT) (⟨ad.tokens,mO⟩:aM)).bind λgd=>cond gd.1 ( (Ca n (⟨ad.tokens,gd.2⟩:aM)).bind λln=>ax.on ln (λgF pm=>aE (room (v28.length+([gF]:List Param).length) 24)<|eb pm (v28++([gF]:List Param))) (λvl pm=>some (.a8 vl pm))) ( GR n ad b8 gd.2 v28)
def ym(n:Nat)(ad:aM)(b8:Token):Nat→Int→(List Param)→Option (ax bd Int)
 | 0=>λ_ _=>none
 |m+1=>GS n ad b8 (ym n ad b8 m)
def Cc(ad:aM):Option (ax bd Int):=(jV n ([112,114,111,99]:anT) ad).bind λr1=>ax.on r1 (λr2 r3=>(pn n 1 (⟨ad.tokens,r3⟩:aM)).bind λcA=>ax.on cA (λb8 cJ=>(jV n ([40]:anT) (⟨ad.tokens,cJ⟩:aM)).bind λcy=>ax.on cy (λc8 bZ=>(jU n ([41]:anT) (⟨ad.tokens,bZ⟩:aM)).bind λdz=>cond (!dz.1) ( (Ca n (⟨ad.tokens,dz.2⟩:aM)).bind λeF=>ax.on eF (λdH eR=>aE (room (([]:List Param).length+([dH]:List Param).length) 24)<|ym n ad b8 n eR (([]:List Param)++([dH]:List Param))) (λNz eR=>some (.a8 Nz eR))) ( Cb n ad b8 dz.2 ([]:List Param))) (λmi bZ=>some (.a8 mi bZ))) (λiX cJ=>some (.a8 iX cJ))) (λfF r3=>some (.a8 fF r3))
def NA(ad:aM)(gc:bd):Option (ax Unit (Int×anT×(List Param)×(List Stmt))):=(Cc n ad).bind λr1=>ax.on r1 (λr2 r3=>some (.ret () (r3,r2.Name,r2.Params,r2.Body))) (λfF r3=>some (.a8 fF (r3,gc.Name,gc.Params,gc.Body)))
def TZ(n:Nat)(ad:aM):Option (ax Unit Unit):=aE (a7 (anV (((ad.tokens.length:Nat):Int)-1)) ad.tokens.length)<|some (.a8 (.iface 332 (.agg [.int .i64 ((anW ad.tokens (anV (((ad.tokens.length:Nat):Int)-1))).kU),.int .i64 6])) ())
def T0(ad:aM):Option (ax Unit Unit):=cond (decide (((ad.tokens.length:Nat):Int)=0)) ( some (.a8 (.iface 332 (.agg [.int .i64 1,.int .i64 6])) ())) ( TZ n ad)
def T1(code:Int)(ad:aM):Option (ax Unit Unit):=cond (decide (ad.at_<((ad.tokens.length:Nat):Int))) ( aE (a7 ad.at_ ad.tokens.length)<|some (.a8 (.iface 332 (.agg [.int .i64 ((anW ad.tokens (ad.at_)).kU),.int .i64 code])) ())) ( T0 n ad)
def GT(src:anT)(ad:bd):Option (Int×Int×anT×(List Param)×(List Stmt)):=(vi n src).bind λr1=>cond (!decide (r1.2.2=0)) (some (r1.2.1,r1.2.2,ad.Name,ad.Params,ad.Body)) ((NA n (⟨r1.1,0⟩:aM) ad).bind λr2=>ax.on r2 (λck mV=>cond (decide (mV.1<((r1.1.length:Nat):Int))) ((T1 n 5 (⟨r1.1,mV.1⟩:aM)).bind λr3=>ax.on r3 (λcn NB=>none) (λeA NB=>(EG 332 eA).bind λlc=>some (lc.1,lc.2,mV.2.1,mV.2.2.1,mV.2.2.2))) (some (0,0,mV.2.1,mV.2.2.1,mV.2.2.2))) (λeA mV=>(EG 332 eA).bind λlc=>some (lc.1,lc.2,mV.2.1,mV.2.2.1,mV.2.2.2)))
def GU(n:Nat)(r1:Int×Int×anT×(List Param)×(List Stmt))(v3:Int):Option (bd×Int×Int):=cond (!decide (v3=0)) ( some ((⟨[],[],[]⟩:bd),r1.1,v3)) ( some ((⟨r1.2.2.1,r1.2.2.2.1,r1.2.2.2.2⟩:bd),0,0))
def Cd(src:anT):Option (bd×Int×Int):=(GT n src (⟨[],[],[]⟩:bd)).bind λr1=>cond (decide (r1.2.1=0)) ( (Bg n (⟨r1.2.2.1,r1.2.2.2.1,r1.2.2.2.2⟩:bd)).bind λr2=>GU n r1 r2) ( GU n r1 r1.2.1)
def NC(n:Nat)(cu:List bd):Option ((List bd)×Bool):=some (cu,true)
def GV(l:List anT)(aq:Int→(List bd)→Option ((List bd)×Bool))(bK:Int)(bV:List bd):Option ((List bd)×Bool):=cond (decide (bK<((l.length:Nat):Int))) ( aE (a7 bK l.length)<|(Cd n (anW l bK)).bind λc8=>Option.bind (cond (!(!decide (c8.2.2=0))) (sJ n c8.1) (some default)) λbZ=>cond (cond (!decide (c8.2.2=0)) true (!(decide (bZ=(anW l bK))))) ( some (([]:List bd),false)) ( aE (room (bV.length+([c8.1]:List bd).length) 64)<|aq (anV (bK+1)) (bV++([c8.1]:List bd)))) ( NC n bV)
def yn(n:Nat)(l:List anT):Nat→Int→(List bd)→Option ((List bd)×Bool)
 | 0=>λ_ _=>none
 |m+1=>GV n l (yn n l m)
def yo(l:List anT):Option ((List bd)×Bool):=yn n l n 0 ([]:List bd)
def ND(n:Nat)(at_:Int)(dr:List Row):Option (aA×Int):=some ((⟨at_,at_,dr⟩:aA),0)
def GW(at_:Int)(l:List bI)(aq:(List Row)→Int→Option (aA×Int))(bK:List Row)(bV:Int):Option (aA×Int):=cond (decide (bV<((l.length:Nat):Int))) ( aE (a7 bV l.length)<|aE (room (bK.length+([(⟨(anW l bV).Key,[⟨at_,⟨((anW l bV).b0).Kind,((anW l bV).b0).N,((anW l bV).b0).S⟩⟩]⟩:Row)]:List Row).length) 40)<|aq (bK++([(⟨(anW l bV).Key,[⟨at_,⟨((anW l bV).b0).Kind,((anW l bV).b0).N,((anW l bV).b0).S⟩⟩]⟩:Row)]:List Row)) (anV (bV+1))) ( ND n at_ bK)
def yp(n:Nat)(at_:Int)(l:List bI):Nat→(List Row)→Int→Option (aA×Int)
 | 0=>λ_ _=>none
 |m+1=>GW n at_ l (yp n at_ l m)
def yq(l:List bI)(at_:Int):Option (aA×Int):=(BE n l).bind λr1=>cond (cond (cond (!r1) true (decide (at_<0))) true (decide (1099511627776<at_))) ( some ((⟨0,0,[]⟩:aA),1)) ( yp n at_ l n ([]:List Row) 0)
def Ce(s:anT):Option (bP×Int):=(BT n (⟨s,0,0⟩:e5)).bind λr1=>cond (!decide (r1.2.2=0)) ( some ((⟨0,⟨0,0,[]⟩,[],[],⟨0,[]⟩,[],[],0⟩:bP),r1.2.2)) ( cond (cond (cond (!decide (r1.2.1=((s.length:Nat):Int))) true (decide (r1.1.fR.Pos<0))) true (decide (1099511627776<r1.1.fR.Pos))) ( some ((⟨0,⟨0,0,[]⟩,[],[],⟨0,[]⟩,[],[],0⟩:bP),5)) ( (yo n r1.1.sources).bind λaZ=>cond (!aZ.2) ( some ((⟨0,⟨0,0,[]⟩,[],[],⟨0,[]⟩,[],[],0⟩:bP),5)) ( (yq n r1.1.Lv r1.1.fR.Pos).bind λb8=>cond (!decide (b8.2=0)) ( some ((⟨0,⟨0,0,[]⟩,[],[],⟨0,[]⟩,[],[],0⟩:bP),5)) ( (qj n (⟨r1.1.fR.Pos,b8.1,aZ.1,r1.1.fR.cQ,r1.1.fR.Place,r1.1.fR.be,r1.1.fR.Queue,r1.1.fR.de⟩:bP)).bind λcM=>cond (!cM) ( some ((⟨0,⟨0,0,[]⟩,[],[],⟨0,[]⟩,[],[],0⟩:bP),5)) ( some ((⟨r1.1.fR.Pos,b8.1,aZ.1,r1.1.fR.cQ,r1.1.fR.Place,r1.1.fR.be,r1.1.fR.Queue,r1.1.fR.de⟩:bP),0))))))
def Cf(s:anT):Option (bP×Int):=cond (decide (16384<((s.length:Nat):Int))) ( some ((⟨0,⟨0,0,[]⟩,[],[],⟨0,[]⟩,[],[],0⟩:bP),2)) ( (Ce n s).bind λr2=>some (r2.1,r2.2))
def yr(a:bP)(b:bP):anX:=(qj n a).bind λr1=>Option.bind (cond r1 (qj n b) (some default)) λr2=>Option.bind (cond (cond r1 r2 false) (rx n a) (some default)) λr3=>Option.bind (cond (cond r1 r2 false) (rx n b) (some default)) λaZ=>some (cond (cond r1 r2 false) (decide (r3=aZ)) false)
def NE(n:Nat)(mW:Expr→Expr→anX):anX:=some true
def NF(mW:Expr→Expr→anX)(a:Expr)(b:Expr)(aq:Int→anX)(v6:Int):anX:=cond (decide (v6<((a.aw.length:Nat):Int))) ( aE (a7 v6 a.aw.length)<|aE (a7 v6 b.aw.length)<|(mW (anW a.aw v6) (anW b.aw v6)).bind λcy=>cond (!cy) ( some false) ( aq (anV (v6+1)))) ( NE n mW)
def Cg(n:Nat)(mW:Expr→Expr→anX)(a:Expr)(b:Expr):Nat→Int→anX
 | 0=>λ_=>none
 |m+1=>NF n mW a b (Cg n mW a b m)
def NG(mW:Expr→Expr→anX)(a:Expr)(b:Expr):anX:=cond (cond (cond (cond (!decide (a.Op=b.Op)) true (!decide (a.N=b.N))) true (!(decide (a.S=b.S)))) true (!decide (((a.aw.length:Nat):Int)=((b.aw.length:Nat):Int)))) ( some false) ( Cg n mW a b n 0)
def vu:Nat→Expr→Expr→anX
 | 0=>λ_ _=>none
 |m+1=>NG m (vu m)
def NH(n:Nat)(ml:(List Stmt)→(List Stmt)→anX):anX:=some true
def NI(ml:(List Stmt)→(List Stmt)→anX)(a:List Stmt)(b:List Stmt)(aq:Int→anX)(v9:Int):anX:=cond (decide (v9<((a.length:Nat):Int))) ( aE (a7 v9 a.length)<|aE (a7 v9 b.length)<|Option.bind (cond (!(cond (cond (!decide ((anW a v9).Op=(anW b v9).Op)) true (!(decide (((anW a v9).Name)=((anW b v9).Name))))) true (!decide ((anW a v9).Max=(anW b v9).Max)))) (vu n (⟨((anW a v9).A).Op,((anW a v9).A).N,((anW a v9).A).S,((anW a v9).A).aw⟩:Expr) (⟨((anW b v9).A).Op,((anW b v9).A).N,((anW b v9).A).S,((anW b v9).A).aw⟩:Expr)) (some default)) λez=>Option.bind (cond (!(cond (cond (cond (!decide ((anW a v9).Op=(anW b v9).Op)) true (!(decide (((anW a v9).Name)=((anW b v9).Name))))) true (!decide ((anW a v9).Max=(anW b v9).Max))) true (!ez))) (vu n (⟨((anW a v9).B).Op,((anW a v9).B).N,((anW a v9).B).S,((anW a v9).B).aw⟩:Expr) (⟨((anW b v9).B).Op,((anW b v9).B).N,((anW b v9).B).S,((anW b v9).B).aw⟩:Expr)) (some default)) λdz=>Option.bind (cond (!(cond (cond (cond (cond (!decide ((anW a v9).Op=(anW b v9).Op)) true (!(decide (((anW a v9).Name)=((anW b v9).Name))))) true (!decide ((anW a v9).Max=(anW b v9).Max))) true (!ez)) true (!dz))) (ml ((anW a v9).Body) ((anW b v9).Body)) (some default)) λeF=>Option.bind (cond (!(cond (cond (cond (cond (cond (!decide ((anW a v9).Op=(anW b v9).Op)) true (!(decide (((anW a v9).Name)=((anW b v9).Name))))) true (!decide ((anW a v9).Max=(anW b v9).Max))) true (!ez)) true (!dz)) true (!eF))) (ml ((anW a v9).bw) ((anW b v9).bw)) (some default)) λdH=>cond (cond (cond (cond (cond (cond (cond (!decide ((anW a v9).Op=(anW b v9).Op)) true (!(decide (((anW a v9).Name)=((anW b v9).Name))))) true (!decide ((anW a v9).Max=(anW b v9).Max))) true (!ez)) true (!dz)) true (!eF)) true (!dH)) ( some false) ( aq (anV (v9+1)))) ( NH n ml)
def Ch(n:Nat)(ml:(List Stmt)→(List Stmt)→anX)(a:List Stmt)(b:List Stmt):Nat→Int→anX
 | 0=>λ_=>none
 |m+1=>NI n ml a b (Ch n ml a b m)
def NJ(ml:(List Stmt)→(List Stmt)→anX)(a:List Stmt)(b:List Stmt):anX:=cond (!decide (((a.length:Nat):Int)=((b.length:Nat):Int))) ( some false) ( Ch n ml a b n 0)
def yt:Nat→(List Stmt)→(List Stmt)→anX
 | 0=>λ_ _=>none
 |m+1=>NJ m (yt m)
def NK(a:bd)(b:bd):anX:=(yt n a.Body b.Body).bind λcy=>some cy
def NL(a:bd)(b:bd)(aq:Int→anX)(v5:Int):anX:=cond (decide (v5<((a.Params.length:Nat):Int))) ( aE (a7 v5 a.Params.length)<|aE (a7 v5 b.Params.length)<|cond (!((decide ((anW a.Params v5).Name=(anW b.Params v5).Name))&&((decide ((anW a.Params v5).gp=(anW b.Params v5).gp))&&true))) ( some false) ( aq (anV (v5+1)))) ( NK n a b)
def Ci(n:Nat)(a:bd)(b:bd):Nat→Int→anX
 | 0=>λ_=>none
 |m+1=>NL n a b (Ci n a b m)
def GX(a:bd)(b:bd):anX:=cond (cond (!(decide (a.Name=b.Name))) true (!decide (((a.Params.length:Nat):Int)=((b.Params.length:Nat):Int)))) ( some false) ( Ci n a b n 0)
def NM(n:Nat):anX:=some true
def GY(a:List bd)(b:List bd)(aq:Int→anX)(v6:Int):anX:=cond (decide (v6<((a.length:Nat):Int))) ( aE (a7 v6 a.length)<|aE (a7 v6 b.length)<|(GX n (anW a v6) (anW b v6)).bind λcy=>cond (!cy) ( some false) ( aq (anV (v6+1)))) ( NM n)
def yu(n:Nat)(a:List bd)(b:List bd):Nat→Int→anX
 | 0=>λ_=>none
 |m+1=>GY n a b (yu n a b m)
def GZ(a:List bd)(b:List bd):anX:=cond (!decide (((a.length:Nat):Int)=((b.length:Nat):Int))) ( some false) ( yu n a b n 0)
def NN(n:Nat):anX:=some true
def NO(n:Nat)(aq:Int→anX)(v12:Int)(a:aA)(b:aA):anX:=aq (anV (v12+1))
def G0(aq:Int→anX)(v12:Int)(a:aA)(b:aA)(dS:Int→anX)(cF:Int):anX:=cond (decide (cF<((((anW a.Rows v12).bJ).length:Nat):Int))) ( aE (a7 cF ((anW a.Rows v12).bJ).length)<|aE (a7 cF ((anW b.Rows v12).bJ).length)<|cond (!((decide ((((anW a.Rows v12).bJ).getD (cF).toNat default).cl=(((anW b.Rows v12).bJ).getD (cF).toNat default).cl))&&((decide (((((anW a.Rows v12).bJ).getD (cF).toNat default).b0).Kind=((((anW b.Rows v12).bJ).getD (cF).toNat default).b0).Kind))&&((decide (((((anW a.Rows v12).bJ).getD (cF).toNat default).b0).N=((((anW b.Rows v12).bJ).getD (cF).toNat default).b0).N))&&((decide (((((anW a.Rows v12).bJ).getD (cF).toNat default).b0).S=((((anW b.Rows v12).bJ).getD (cF).toNat default).b0).S))&&true))))) ( some false) ( dS (anV (cF+1)))) ( NO n aq v12 a b)
def yv(n:Nat)(aq:Int→anX)(v12:Int)(a:aA)(b:aA):Nat→Int→anX
 | 0=>λ_=>none
 |m+1=>G0 n aq v12 a b (yv n aq v12 a b m)
def G1(a:aA)(b:aA)(aq:Int→anX)(v12:Int):anX:=cond (decide (v12<((a.Rows.length:Nat):Int))) ( aE (a7 v12 a.Rows.length)<|aE (a7 v12 b.Rows.length)<|cond (cond (!(decide (((anW a.Rows v12).Key)=((anW b.Rows v12).Key)))) true (!decide (((((anW a.Rows v12).bJ).length:Nat):Int)=((((anW b.Rows v12).bJ).length:Nat):Int)))) ( some false) ( yv n aq v12 a b n 0)) ( NN n)
def sV(n:Nat)(a:aA)(b:aA):Nat→Int→anX
 | 0=>λ_=>none
 |m+1=>G1 n a b (sV n a b m)
def G2(a:aA)(b:aA):anX:=cond (cond (cond (!decide (a.cD=b.cD)) true (!decide (a.cp=b.cp))) true (!decide (((a.Rows.length:Nat):Int)=((b.Rows.length:Nat):Int)))) ( some false) ( sV n a b n 0)
def NP(n:Nat):anX:=some true
def G3(a:b7)(b:b7)(aq:Int→anX)(v5:Int):anX:=cond (decide (v5<((a.aW.length:Nat):Int))) ( aE (a7 v5 a.aW.length)<|aE (a7 v5 b.aW.length)<|cond (!((decide ((anW a.aW v5).Id=(anW b.aW v5).Id))&&((decide ((anW a.aW v5).fQ=(anW b.aW v5).fQ))&&((decide ((anW a.aW v5).Node=(anW b.aW v5).Node))&&((decide ((anW a.aW v5).h2=(anW b.aW v5).h2))&&((decide ((anW a.aW v5).ir=(anW b.aW v5).ir))&&true)))))) ( some false) ( aq (anV (v5+1)))) ( NP n)
def yw(n:Nat)(a:b7)(b:b7):Nat→Int→anX
 | 0=>λ_=>none
 |m+1=>G3 n a b (yw n a b m)
def G4(a:b7)(b:b7):anX:=cond (cond (!decide (a.Version=b.Version)) true (!decide (((a.aW.length:Nat):Int)=((b.aW.length:Nat):Int)))) ( some false) ( yw n a b n 0)
def NQ(n:Nat):anX:=some true
def G5(a:List be)(b:List be)(aq:Int→anX)(v5:Int):anX:=cond (decide (v5<((a.length:Nat):Int))) ( aE (a7 v5 a.length)<|aE (a7 v5 b.length)<|cond (!((decide ((anW a v5).Key=(anW b v5).Key))&&((decide ((anW a v5).Count=(anW b v5).Count))&&true))) ( some false) ( aq (anV (v5+1)))) ( NQ n)
def yx(n:Nat)(a:List be)(b:List be):Nat→Int→anX
 | 0=>λ_=>none
 |m+1=>G5 n a b (yx n a b m)
def G6(a:List be)(b:List be):anX:=cond (!decide (((a.length:Nat):Int)=((b.length:Nat):Int))) ( some false) ( yx n a b n 0)
def NR(n:Nat):anX:=some true
def G7(a:List anT)(b:List anT)(aq:Int→anX)(v5:Int):anX:=cond (decide (v5<((a.length:Nat):Int))) ( aE (a7 v5 a.length)<|aE (a7 v5 b.length)<|cond (!(decide ((anW a v5)=(anW b v5)))) ( some false) ( aq (anV (v5+1)))) ( NR n)
def yy(n:Nat)(a:List anT)(b:List anT):Nat→Int→anX
 | 0=>λ_=>none
 |m+1=>G7 n a b (yy n a b m)
def Cj(a:List anT)(b:List anT):anX:=cond (!decide (((a.length:Nat):Int)=((b.length:Nat):Int))) ( some false) ( yy n a b n 0)
def NS(a:fg)(b:fg):anX:=Option.bind (cond (a.eI == b.eI) (Cj n a.Reads b.Reads) (some default)) λr1=>Option.bind (cond (cond (a.eI == b.eI) r1 false) (Cj n a.cT b.cT) (some default)) λr2=>some (cond (cond (a.eI == b.eI) r1 false) r2 false)
def NT(n:Nat):anX:=some true
def G8(a:Request)(b:Request)(aq:Int→anX)(v6:Int):anX:=cond (decide (v6<((a.aw.length:Nat):Int))) ( aE (a7 v6 a.aw.length)<|aE (a7 v6 b.aw.length)<|cond (!((decide ((anW a.aw v6).Kind=(anW b.aw v6).Kind))&&((decide ((anW a.aw v6).N=(anW b.aw v6).N))&&((decide ((anW a.aw v6).S=(anW b.aw v6).S))&&true)))) ( some false) ( aq (anV (v6+1)))) ( NT n)
def yz(n:Nat)(a:Request)(b:Request):Nat→Int→anX
 | 0=>λ_=>none
 |m+1=>G8 n a b (yz n a b m)
def G9(a:Request)(b:Request):anX:=Option.bind (cond (!(cond (cond (cond (cond (!decide (a.Client=b.Client)) true (!decide (a.Seq=b.Seq))) true (!(decide (a.bd=b.bd)))) true (!(a.eW == b.eW))) true (!decide (((a.aw.length:Nat):Int)=((b.aw.length:Nat):Int))))) (NS n a.bx b.bx) (some default)) λr1=>cond (cond (cond (cond (cond (cond (!decide (a.Client=b.Client)) true (!decide (a.Seq=b.Seq))) true (!(decide (a.bd=b.bd)))) true (!(a.eW == b.eW))) true (!decide (((a.aw.length:Nat):Int)=((b.aw.length:Nat):Int)))) true (!r1)) ( some false) ( yz n a b n 0)
def NU(n:Nat):anX:=some true
def G'(a:Outcome)(b:Outcome)(aq:Int→anX)(v5:Int):anX:=cond (decide (v5<((a.Out.length:Nat):Int))) ( aE (a7 v5 a.Out.length)<|aE (a7 v5 b.Out.length)<|cond (!((decide ((anW a.Out v5).Kind=(anW b.Out v5).Kind))&&((decide ((anW a.Out v5).N=(anW b.Out v5).N))&&((decide ((anW a.Out v5).S=(anW b.Out v5).S))&&true)))) ( some false) ( aq (anV (v5+1)))) ( NU n)
def yA(n:Nat)(a:Outcome)(b:Outcome):Nat→Int→anX
 | 0=>λ_=>none
 |m+1=>G' n a b (yA n a b m)
def Ck(a:Outcome)(b:Outcome):anX:=cond (cond (cond (!decide (a.Status=b.Status)) true (!decide (a.Code=b.Code))) true (!decide (((a.Out.length:Nat):Int)=((b.Out.length:Nat):Int)))) ( some false) ( yA n a b n 0)
def NV(a:ev)(b:ev):anX:=Option.bind (cond (cond (decide (a.Client=b.Client)) (decide (a.Seq=b.Seq)) false) (Ck n a.Outcome b.Outcome) (some default)) λr1=>some (cond (cond (decide (a.Client=b.Client)) (decide (a.Seq=b.Seq)) false) r1 false)
def NW(n:Nat):anX:=some true
def G_(a:List ev)(b:List ev)(aq:Int→anX)(v6:Int):anX:=cond (decide (v6<((a.length:Nat):Int))) ( aE (a7 v6 a.length)<|aE (a7 v6 b.length)<|(NV n (anW a v6) (anW b v6)).bind λcy=>cond (!cy) ( some false) ( aq (anV (v6+1)))) ( NW n)
def yB(n:Nat)(a:List ev)(b:List ev):Nat→Int→anX
 | 0=>λ_=>none
 |m+1=>G_ n a b (yB n a b m)
def Ha(a:List ev)(b:List ev):anX:=cond (!decide (((a.length:Nat):Int)=((b.length:Nat):Int))) ( some false) ( yB n a b n 0)
def NX(n:Nat):anX:=some true
def Hb(a:List bG)(b:List bG)(aq:Int→anX)(v10:Int):anX:=cond (decide (v10<((a.length:Nat):Int))) ( aE (a7 v10 a.length)<|aE (a7 v10 b.length)<|aE ((!decide ((anW a v10).Client=(anW b v10).Client))||a7 v10 a.length)<|aE ((!decide ((anW a v10).Client=(anW b v10).Client))||a7 v10 b.length)<|aE ((cond (!decide ((anW a v10).Client=(anW b v10).Client)) true (!decide ((anW a v10).Next=(anW b v10).Next)))||a7 v10 a.length)<|aE ((cond (!decide ((anW a v10).Client=(anW b v10).Client)) true (!decide ((anW a v10).Next=(anW b v10).Next)))||a7 v10 b.length)<|Option.bind (cond (!(cond (!decide ((anW a v10).Client=(anW b v10).Client)) true (!decide ((anW a v10).Next=(anW b v10).Next)))) (Ha n ((anW a v10).bS) ((anW b v10).bS)) (some default)) λe'=>cond (cond (cond (!decide ((anW a v10).Client=(anW b v10).Client)) true (!decide ((anW a v10).Next=(anW b v10).Next))) true (!e')) ( some false) ( aq (anV (v10+1)))) ( NX n)
def yC(n:Nat)(a:List bG)(b:List bG):Nat→Int→anX
 | 0=>λ_=>none
 |m+1=>Hb n a b (yC n a b m)
def Hc(a:List bG)(b:List bG):anX:=cond (!decide (((a.length:Nat):Int)=((b.length:Nat):Int))) ( some false) ( yC n a b n 0)
def NY(n:Nat):anX:=some true
def Hd(a:bP)(b:bP)(aq:Int→anX)(v11:Int):anX:=cond (decide (v11<((a.Queue.length:Nat):Int))) ( aE (a7 v11 a.Queue.length)<|aE (a7 v11 b.Queue.length)<|(G9 n (anW a.Queue v11) (anW b.Queue v11)).bind λeF=>cond (!eF) ( some false) ( aq (anV (v11+1)))) ( NY n)
def yD(n:Nat)(a:bP)(b:bP):Nat→Int→anX
 | 0=>λ_=>none
 |m+1=>Hd n a b (yD n a b m)
def yE(a:bP)(b:bP):anX:=Option.bind (cond (!(cond (!decide (a.Pos=b.Pos)) true (!decide (a.de=b.de)))) (G2 n a.aA b.aA) (some default)) λr1=>Option.bind (cond (!(cond (cond (!decide (a.Pos=b.Pos)) true (!decide (a.de=b.de))) true (!r1))) (GZ n a.cc b.cc) (some default)) λr2=>Option.bind (cond (!(cond (cond (cond (!decide (a.Pos=b.Pos)) true (!decide (a.de=b.de))) true (!r1)) true (!r2))) (Hc n a.cQ b.cQ) (some default)) λr3=>Option.bind (cond (!(cond (cond (cond (cond (!decide (a.Pos=b.Pos)) true (!decide (a.de=b.de))) true (!r1)) true (!r2)) true (!r3))) (G4 n a.Place b.Place) (some default)) λaZ=>Option.bind (cond (!(cond (cond (cond (cond (cond (!decide (a.Pos=b.Pos)) true (!decide (a.de=b.de))) true (!r1)) true (!r2)) true (!r3)) true (!aZ))) (G6 n a.be b.be) (some default)) λcA=>cond (cond (cond (cond (cond (cond (cond (cond (!decide (a.Pos=b.Pos)) true (!decide (a.de=b.de))) true (!r1)) true (!r2)) true (!r3)) true (!aZ)) true (!cA)) true (!decide (((a.Queue.length:Nat):Int)=((b.Queue.length:Nat):Int)))) ( some false) ( yD n a b n 0)
def Cl:anX:=(sM n (⟨0,⟨0,0,[]⟩,[],[],⟨0,[⟨1,[],1,0,[]⟩]⟩,[],[],0⟩:bP)).bind λr1=>(Cf n r1.1).bind λr2=>Option.bind (cond (cond (decide (r1.1=([0,0,0,0,0,1,2,0,2,0,0,0,0,0]:anT))) (decide (r1.2=0)) false) (yE n r2.1 (⟨0,⟨0,0,[]⟩,[],[],⟨0,[⟨1,[],1,0,[]⟩]⟩,[],[],0⟩:bP)) (some default)) λr3=>Option.bind (cond (cond (cond (cond (decide (r1.1=([0,0,0,0,0,1,2,0,2,0,0,0,0,0]:anT))) (decide (r1.2=0)) false) r3 false) (decide (r2.2=0)) false) (yr n (⟨2,⟨2,2,[⟨[120],[⟨2,⟨1,1,[]⟩⟩]⟩]⟩,[],[],⟨0,[⟨1,[],1,0,[]⟩]⟩,[],[],0⟩:bP) (⟨2,⟨1,2,[⟨[119],[⟨1,⟨1,1,[]⟩⟩,⟨2,⟨0,0,[]⟩⟩]⟩,⟨[120],[⟨1,⟨1,1,[]⟩⟩]⟩]⟩,[],[],⟨0,[⟨1,[],1,0,[]⟩]⟩,[],[],0⟩:bP)) (some default)) λaZ=>Option.bind (cond (cond (cond (cond (cond (decide (r1.1=([0,0,0,0,0,1,2,0,2,0,0,0,0,0]:anT))) (decide (r1.2=0)) false) r3 false) (decide (r2.2=0)) false) aZ false) (yr n (⟨2,⟨2,2,[⟨[120],[⟨2,⟨1,1,[]⟩⟩]⟩]⟩,[],[],⟨0,[⟨1,[],1,0,[]⟩]⟩,[],[],0⟩:bP) (⟨0,⟨0,0,[]⟩,[],[],⟨0,[⟨1,[],1,0,[]⟩]⟩,[],[],0⟩:bP)) (some default)) λcA=>some (cond (cond (cond (cond (cond (decide (r1.1=([0,0,0,0,0,1,2,0,2,0,0,0,0,0]:anT))) (decide (r1.2=0)) false) r3 false) (decide (r2.2=0)) false) aZ false) (!cA) false)
def T2(n:Nat):Option (List anT):=some ([([112,114,111,99]:anT),([108,101,116]:anT),([112,117,116]:anT),([100,101,108,101,116,101]:anT),([105,102]:anT),([101,108,115,101]:anT),([102,111,114]:anT),([116,111]:anT),([109,97,120]:anT),([101,109,105,116]:anT),([97,98,111,114,116]:anT),([110,111,116]:anT),([97,110,100]:anT),([111,114]:anT),([105,110,116]:anT),([115,116,114]:anT),([98,111,111,108]:anT),([116,101,120,116]:anT),([108,101,110]:anT),([103,101,116,105,110,116]:anT),([103,101,116,115,116,114]:anT),([104,97,115]:anT),([110,111,119]:anT),([114,97,110,100,111,109]:anT),([110,111,100,101]:anT)]:List anT)
def T3(n:Nat):anX:=some false
def T4(l:List anT)(s:anT)(aq:Int→anX)(v3:Int):anX:=cond (decide (v3<((l.length:Nat):Int))) ( aE (a7 v3 l.length)<|cond (decide ((anW l v3)=s)) ( some true) ( aq (anV (v3+1)))) ( T3 n)
def He(n:Nat)(l:List anT)(s:anT):Nat→Int→anX
 | 0=>λ_=>none
 |m+1=>T4 n l s (He n l s m)
def T6(l:List anT)(s:anT):anX:=He n l s n 0
def Hf(s:anT):anX:=(T2 n).bind λr1=>(T6 n r1 s).bind λr2=>some r2
def Cm(n:Nat)(c:Int):anX:=some (cond (decide (97≤c)) (decide (c≤122)) false)
def T7(n:Nat)(c:Int):anX:=some (cond (decide (48≤c)) (decide (c≤57)) false)
def Hg(c:Int):anX:=(Cm n c).bind λr1=>Option.bind (cond (!r1) (T7 n c) (some default)) λr2=>some (cond (cond r1 true r2) true (decide (c=95)))
def T8(n:Nat)(bV:Int):anY:=some bV
def T9(s:anT)(aq:Int→anY)(v4:Int):anY:=aE (!(decide (v4<((s.length:Nat):Int)))||a7 v4 s.length)<|Option.bind (cond (decide (v4<((s.length:Nat):Int))) (Hg n (((s.getD (v4).toNat 0).toNat:Nat):Int)) (some default)) λb8=>cond (cond (decide (v4<((s.length:Nat):Int))) b8 false) ( aq (anV (v4+1))) ( T8 n v4)
def Hh(n:Nat)(s:anT):Nat→Int→anY
 | 0=>λ_=>none
 |m+1=>T9 n s (Hh n s m)
def NZ(s:anT)(at_:Int):anY:=Hh n s n at_
def Hi(s:anT):anX:=aE (!(cond (decide (1≤((s.length:Nat):Int))) (decide (((s.length:Nat):Int)≤16)) false)||a7 0 s.length)<|Option.bind (cond (cond (decide (1≤((s.length:Nat):Int))) (decide (((s.length:Nat):Int)≤16)) false) (Cm n (((s.getD 0 0).toNat:Nat):Int)) (some default)) λr2=>Option.bind (cond (cond (cond (decide (1≤((s.length:Nat):Int))) (decide (((s.length:Nat):Int)≤16)) false) r2 false) (NZ n s 0) (some default)) λr3=>Option.bind (cond (cond (cond (cond (decide (1≤((s.length:Nat):Int))) (decide (((s.length:Nat):Int)≤16)) false) r2 false) (decide (r3=((s.length:Nat):Int))) false) (Hf n s) (some default)) λaZ=>some (cond (cond (cond (cond (decide (1≤((s.length:Nat):Int))) (decide (((s.length:Nat):Int)≤16)) false) r2 false) (decide (r3=((s.length:Nat):Int))) false) (!aZ) false)
def T_(n:Nat)(op:Int):anY:=cond (cond (decide (4≤op)) (decide (op≤19)) false) ( some 2) ( some (-1))
def sW(op:Int)(v2:Bool):anY:=cond v2 ( some 1) ( T_ n op)
def vv(op:Int)(v1:Bool):anY:=cond v1 ( some 0) ( cond (decide (op=9)) ( sW n op (decide (op=9))) ( cond (decide (op=18)) ( sW n op (decide (op=18))) ( cond (decide (op=20)) ( sW n op (decide (op=20))) ( cond (decide (op=21)) ( sW n op (decide (op=21))) ( cond (decide (op=22)) ( sW n op (decide (op=22))) ( cond (decide (op=23)) ( sW n op (decide (op=23))) ( sW n op (decide (op=24)))))))))
def Hj(op:Int):anY:=cond (decide (op=1)) ( vv n op (decide (op=1))) ( cond (decide (op=2)) ( vv n op (decide (op=2))) ( cond (decide (op=3)) ( vv n op (decide (op=3))) ( cond (decide (op=25)) ( vv n op (decide (op=25))) ( cond (decide (op=26)) ( vv n op (decide (op=26))) ( vv n op (decide (op=27)))))))
def Ua(n:Nat):anX:=some true
def Ub(s:anT)(aq:Int→anX)(v5:Int):anX:=cond (decide (v5<((s.length:Nat):Int))) ( aE (a7 v5 s.length)<|aE ((decide ((((s.getD (v5).toNat 0).toNat:Nat):Int)<32))||a7 v5 s.length)<|cond (cond (decide ((((s.getD (v5).toNat 0).toNat:Nat):Int)<32)) true (decide (126<(((s.getD (v5).toNat 0).toNat:Nat):Int)))) ( some false) ( aq (anV (v5+1)))) ( Ua n)
def Hk(n:Nat)(s:anT):Nat→Int→anX
 | 0=>λ_=>none
 |m+1=>Ub n s (Hk n s m)
def N0(s:anT):anX:=cond (decide (64<((s.length:Nat):Int))) ( some false) ( Hk n s n 0)
def N1(e:Expr)(depth:Int):anY:=(Hj n e.Op).bind λr1=>cond (cond (cond (decide (r1<0)) true (cond (!decide (e.Op=1)) (!decide (e.N=0)) false)) true (cond (cond (!decide (e.Op=2)) (!decide (e.Op=3)) false) (!(decide (e.S=([]:anT)))) false)) ( some 1) ( Option.bind (cond (decide (e.Op=3)) (Hi n e.S) (some default)) λr3=>cond (cond (decide (e.Op=3)) (!r3) false) ( some 7) ( Option.bind (cond ((!(decide (e.N<0)))&&(decide (e.Op=2))) (N0 n e.S) (some default)) λcA=>Option.bind (cond (!(cond (decide (e.N<0)) true (cond (decide (e.Op=2)) (!cA) false))) (Hj n e.Op) (some default)) λb8=>cond (cond (cond (decide (e.N<0)) true (cond (decide (e.Op=2)) (!cA) false)) true (!decide (((e.aw.length:Nat):Int)=b8))) ( some 1) ( cond (decide (12<depth)) ( some 2) ( some 0))))
def Uc(n:Nat)(sX:Expr→Int→anY):anY:=some 0
def Ud(sX:Expr→Int→anY)(depth:Int)(e:Expr)(aq:Int→anY)(v6:Int):anY:=cond (decide (v6<((e.aw.length:Nat):Int))) ( aE (a7 v6 e.aw.length)<|(sX (anW e.aw v6) (anV (depth+1))).bind λcM=>cond (!decide (cM=0)) ( some cM) ( aq (anV (v6+1)))) ( Uc n sX)
def Hl(n:Nat)(sX:Expr→Int→anY)(depth:Int)(e:Expr):Nat→Int→anY
 | 0=>λ_=>none
 |m+1=>Ud n sX depth e (Hl n sX depth e m)
def Ue(sX:Expr→Int→anY)(e:Expr)(depth:Int):anY:=(N1 n e depth).bind λr1=>cond (!decide (r1=0)) ( some r1) ( Hl n sX depth e n 0)
def Hm:Nat→Expr→Int→anY
 | 0=>λ_ _=>none
 |m+1=>Ue m (Hm m)
def Hn(n:Nat)(mX:Expr→Int→anY)(v11:Int):anY:=some v11
def Ho(mX:Expr→Int→anY)(bu:Int)(e:Expr)(aq:Int→Int→anY)(v5:Int)(v6:Int):anY:=cond (cond (decide (v6<((e.aw.length:Nat):Int))) (decide (v5≤bu)) false) ( aE (a7 v6 e.aw.length)<|(mX (anW e.aw v6) (anV (bu-v5))).bind λcM=>aq (anV (v5+cM)) (anV (v6+1))) ( Hn n mX v5)
def yF(n:Nat)(mX:Expr→Int→anY)(bu:Int)(e:Expr):Nat→Int→Int→anY
 | 0=>λ_ _=>none
 |m+1=>Ho n mX bu e (yF n mX bu e m)
def Hp(mX:Expr→Int→anY)(e:Expr)(bu:Int):anY:=yF n mX bu e n (anV (1+(anV (Int.tdiv ((e.S.length:Nat):Int) 64)))) 0
def qo:Nat→Expr→Int→anY
 | 0=>λ_ _=>none
 |m+1=>Hp m (qo m)
def N2(n:Nat)(mm:(List Stmt)→Int→anY)(v25:Int):anY:=some v25
def N3(mm:(List Stmt)→Int→anY)(l:List Stmt)(bu:Int)(aq:Int→Int→anY)(v12:Int)(dr:Int):anY:=cond (cond (decide (dr<((l.length:Nat):Int))) (decide (v12≤bu)) false) ( aE (a7 dr l.length)<|aE (a7 dr l.length)<|(qo n ((anW l dr).A) (anV (bu-(anV ((anV (v12+1))+(anV (Int.tdiv ((((anW l dr).Name).length:Nat):Int) 64))))))).bind λeR=>aE (a7 dr l.length)<|(qo n ((anW l dr).B) (anV (bu-(anV ((anV ((anV (v12+1))+(anV (Int.tdiv ((((anW l dr).Name).length:Nat):Int) 64))))+eR))))).bind λf_=>aE (a7 dr l.length)<|(mm ((anW l dr).Body) (anV (bu-(anV ((anV ((anV ((anV (v12+1))+(anV (Int.tdiv ((((anW l dr).Name).length:Nat):Int) 64))))+eR))+f_))))).bind λeQ=>aE (a7 dr l.length)<|(mm ((anW l dr).bw) (anV (bu-(anV ((anV ((anV ((anV ((anV (v12+1))+(anV (Int.tdiv ((((anW l dr).Name).length:Nat):Int) 64))))+eR))+f_))+eQ))))).bind λet=>aq (anV ((anV ((anV ((anV ((anV ((anV (v12+1))+(anV (Int.tdiv ((((anW l dr).Name).length:Nat):Int) 64))))+eR))+f_))+eQ))+et)) (anV (dr+1))) ( N2 n mm v12)
def Cn(n:Nat)(mm:(List Stmt)→Int→anY)(l:List Stmt)(bu:Int):Nat→Int→Int→anY
 | 0=>λ_ _=>none
 |m+1=>N3 n mm l bu (Cn n mm l bu m)
def N4(mm:(List Stmt)→Int→anY)(l:List Stmt)(bu:Int):anY:=Cn n mm l bu n 0 0
def yG:Nat→(List Stmt)→Int→anY
 | 0=>λ_ _=>none
 |m+1=>N4 m (yG m)
def N5(bu:Int)(p:bd):anX:=(yG n p.Body bu).bind λcJ=>some (decide (cJ≤bu))
def N6(bu:Int)(p:bd)(aq:Int→anX)(v4:Int):anX:=cond (decide (v4<((p.Params.length:Nat):Int))) ( aE (a7 v4 p.Params.length)<|cond (decide (200<((((anW p.Params v4).Name).length:Nat):Int))) ( some false) ( aq (anV (v4+1)))) ( N5 n bu p)
def Co(n:Nat)(bu:Int)(p:bd):Nat→Int→anX
 | 0=>λ_=>none
 |m+1=>N6 n bu p (Co n bu p m)
def Cp(p:bd)(bu:Int):anX:=cond (cond (decide (40<((p.Params.length:Nat):Int))) true (decide (200<((p.Name.length:Nat):Int)))) ( some false) ( Co n bu p n 0)
def N7(n:Nat):anX:=some true
def N8(n:Nat)(aq:Int→anX)(cj:Int)(s:aA):anX:=aq (anV (cj+1))
def Hq(aq:Int→anX)(cj:Int)(s:aA)(dS:Int→anX)(v21:Int):anX:=aE (a7 cj s.Rows.length)<|cond (decide (v21<((((anW s.Rows cj).bJ).length:Nat):Int))) ( aE (a7 cj s.Rows.length)<|aE (a7 v21 ((anW s.Rows cj).bJ).length)<|cond (decide (200<(((((((anW s.Rows cj).bJ).getD (v21).toNat default).b0).S).length:Nat):Int))) ( some false) ( dS (anV (v21+1)))) ( N8 n aq cj s)
def yH(n:Nat)(aq:Int→anX)(cj:Int)(s:aA):Nat→Int→anX
 | 0=>λ_=>none
 |m+1=>Hq n aq cj s (yH n aq cj s m)
def Hr(s:aA)(aq:Int→anX)(cj:Int):anX:=cond (decide (cj<((s.Rows.length:Nat):Int))) ( aE (a7 cj s.Rows.length)<|aE ((decide (12<((((anW s.Rows cj).bJ).length:Nat):Int)))||a7 cj s.Rows.length)<|cond (cond (decide (12<((((anW s.Rows cj).bJ).length:Nat):Int))) true (decide (200<((((anW s.Rows cj).Key).length:Nat):Int)))) ( some false) ( yH n aq cj s n 0)) ( N7 n)
def sY(n:Nat)(s:aA):Nat→Int→anX
 | 0=>λ_=>none
 |m+1=>Hr n s (sY n s m)
def Hs(s:aA)(rows:Int):anX:=cond (decide (rows<((s.Rows.length:Nat):Int))) ( some false) ( sY n s n 0)
def N9(n:Nat):anX:=some true
def Ht(f:fg)(eb:Int→anX)(v9:Int):anX:=cond (decide (v9<((f.cT.length:Nat):Int))) ( aE (a7 v9 f.cT.length)<|cond (decide (100<(((anW f.cT v9).length:Nat):Int))) ( some false) ( eb (anV (v9+1)))) ( N9 n)
def vw(n:Nat)(f:fg):Nat→Int→anX
 | 0=>λ_=>none
 |m+1=>Ht n f (vw n f m)
def N'(f:fg):anX:=vw n f n 0
def Hu(f:fg)(dS:Int→anX)(v4:Int):anX:=cond (decide (v4<((f.Reads.length:Nat):Int))) ( aE (a7 v4 f.Reads.length)<|cond (decide (100<(((anW f.Reads v4).length:Nat):Int))) ( some false) ( dS (anV (v4+1)))) ( N' n f)
def yI(n:Nat)(f:fg):Nat→Int→anX
 | 0=>λ_=>none
 |m+1=>Hu n f (yI n f m)
def vx(f:fg)(bu:Int):anX:=cond (cond (decide (bu<((f.Reads.length:Nat):Int))) true (decide (bu<((f.cT.length:Nat):Int)))) ( some false) ( yI n f n 0)
def N_(n:Nat):anX:=some true
def Hv(aj:Request)(aq:Int→anX)(v5:Int):anX:=cond (decide (v5<((aj.aw.length:Nat):Int))) ( aE (a7 v5 aj.aw.length)<|cond (decide (300<((((anW aj.aw v5).S).length:Nat):Int))) ( some false) ( aq (anV (v5+1)))) ( N_ n)
def yJ(n:Nat)(aj:Request):Nat→Int→anX
 | 0=>λ_=>none
 |m+1=>Hv n aj (yJ n aj m)
def Cq(aj:Request):anX:=Option.bind (cond (!(cond (decide (300<((aj.bd.length:Nat):Int))) true (decide (40<((aj.aw.length:Nat):Int))))) (vx n aj.bx 100) (some default)) λr1=>cond (cond (cond (decide (300<((aj.bd.length:Nat):Int))) true (decide (40<((aj.aw.length:Nat):Int)))) true (!r1)) ( some false) ( yJ n aj n 0)
def Hw(n:Nat)(gT:List be)(p:b7):anX:=some (cond (decide (((p.aW.length:Nat):Int)≤20)) (decide (((gT.length:Nat):Int)≤40)) false)
def Hx(gT:List be)(p:b7)(eb:Int→anX)(v10:Int):anX:=cond (cond (decide (v10<((gT.length:Nat):Int))) (decide (v10<41)) false) ( aE (a7 v10 gT.length)<|cond (decide (200<((((anW gT v10).Key).length:Nat):Int))) ( some false) ( eb (anV (v10+1)))) ( Hw n gT p)
def vy(n:Nat)(gT:List be)(p:b7):Nat→Int→anX
 | 0=>λ_=>none
 |m+1=>Hx n gT p (vy n gT p m)
def Oa(gT:List be)(p:b7):anX:=vy n gT p n 0
def Hy(gT:List be)(p:b7)(dS:Int→anX)(v4:Int):anX:=cond (cond (decide (v4<((p.aW.length:Nat):Int))) (decide (v4<21)) false) ( aE (a7 v4 p.aW.length)<|aE ((decide (200<((((anW p.aW v4).fQ).length:Nat):Int)))||a7 v4 p.aW.length)<|cond (cond (decide (200<((((anW p.aW v4).fQ).length:Nat):Int))) true (decide (200<((((anW p.aW v4).ir).length:Nat):Int)))) ( some false) ( dS (anV (v4+1)))) ( Oa n gT p)
def yK(n:Nat)(gT:List be)(p:b7):Nat→Int→anX
 | 0=>λ_=>none
 |m+1=>Hy n gT p (yK n gT p m)
def Cr(p:b7)(gT:List be):anX:=yK n gT p n 0
def Hz(n:Nat)(l:List bG):anX:=some (decide (((l.length:Nat):Int)≤6))
def Ob(n:Nat)(aq:Int→anX)(l:List bG)(db:Int):anX:=aq (anV (db+1))
def Oc(n:Nat)(dS:Int→anX)(aq:Int→anX)(l:List bG)(db:Int)(hK:Int):anX:=dS (anV (hK+1))
def HA(dS:Int→anX)(aq:Int→anX)(l:List bG)(db:Int)(hK:Int)(qi:Int→anX)(iw:Int):anX:=cond (decide (iw<(((((((anW l db).bS).getD (hK).toNat default).Outcome).Out).length:Nat):Int))) ( aE (a7 iw (((((anW l db).bS).getD (hK).toNat default).Outcome).Out).length)<|cond (decide (200<(((((((((anW l db).bS).getD (hK).toNat default).Outcome).Out).getD (iw).toNat default).S).length:Nat):Int))) ( some false) ( qi (anV (iw+1)))) ( Oc n dS aq l db hK)
def yL(n:Nat)(dS:Int→anX)(aq:Int→anX)(l:List bG)(db:Int)(hK:Int):Nat→Int→anX
 | 0=>λ_=>none
 |m+1=>HA n dS aq l db hK (yL n dS aq l db hK m)
def HB(aq:Int→anX)(l:List bG)(db:Int)(dS:Int→anX)(hK:Int):anX:=aE (a7 db l.length)<|cond (decide (hK<((((anW l db).bS).length:Nat):Int))) ( aE (a7 db l.length)<|aE (a7 hK ((anW l db).bS).length)<|cond (decide (20<(((((((anW l db).bS).getD (hK).toNat default).Outcome).Out).length:Nat):Int))) ( some false) ( yL n dS aq l db hK n 0)) ( Ob n aq l db)
def sZ(n:Nat)(aq:Int→anX)(l:List bG)(db:Int):Nat→Int→anX
 | 0=>λ_=>none
 |m+1=>HB n aq l db (sZ n aq l db m)
def HC(l:List bG)(aq:Int→anX)(db:Int):anX:=cond (cond (decide (db<((l.length:Nat):Int))) (decide (db<7)) false) ( aE (a7 db l.length)<|cond (decide (12<((((anW l db).bS).length:Nat):Int))) ( some false) ( sZ n aq l db n 0)) ( Hz n l)
def pp(n:Nat)(l:List bG):Nat→Int→anX
 | 0=>λ_=>none
 |m+1=>HC n l (pp n l m)
def Cs(l:List bG):anX:=pp n l n 0
def Od(n:Nat):anX:=some true
def HD(aj:bP)(eb:Int→anX)(cu:Int):anX:=cond (decide (cu<((aj.Queue.length:Nat):Int))) ( aE (a7 cu aj.Queue.length)<|(Cq n (anW aj.Queue cu)).bind λe'=>cond (!e') ( some false) ( eb (anV (cu+1)))) ( Od n)
def vz(n:Nat)(aj:bP):Nat→Int→anX
 | 0=>λ_=>none
 |m+1=>HD n aj (vz n aj m)
def Oe(aj:bP):anX:=vz n aj n 0
def HE(aj:bP)(dS:Int→anX)(bV:Int):anX:=cond (decide (bV<((aj.cc.length:Nat):Int))) ( aE (a7 bV aj.cc.length)<|(Cp n (anW aj.cc bV) 60).bind λc8=>cond (!c8) ( some false) ( dS (anV (bV+1)))) ( Oe n aj)
def yM(n:Nat)(aj:bP):Nat→Int→anX
 | 0=>λ_=>none
 |m+1=>HE n aj (yM n aj m)
def Ct(aj:bP):anX:=(Hs n aj.aA 12).bind λr1=>Option.bind (cond (!(cond (cond (!r1) true (decide (4<((aj.cc.length:Nat):Int)))) true (decide (6<((aj.Queue.length:Nat):Int))))) (Cs n aj.cQ) (some default)) λr2=>Option.bind (cond (!(cond (cond (cond (!r1) true (decide (4<((aj.cc.length:Nat):Int)))) true (decide (6<((aj.Queue.length:Nat):Int)))) true (!r2))) (Cr n aj.Place aj.be) (some default)) λr3=>cond (cond (cond (cond (cond (!r1) true (decide (4<((aj.cc.length:Nat):Int)))) true (decide (6<((aj.Queue.length:Nat):Int)))) true (!r2)) true (!r3)) ( some false) ( yM n aj n 0)
def Uf(n:Nat)(v11:Int):anY:=some v11
def Of(n:Nat)(aq:Int→Int→anY)(s:anT)(at_:Int)(v6:Int)(bV:Int):anY:=aq bV (anV (v6+1))
def Ug(s:anT)(at_:Int)(aq:Int→Int→anY)(v5:Int)(v6:Int):anY:=cond (decide (v6<at_)) ( aE (a7 v6 s.length)<|cond (decide ((((s.getD (v6).toNat 0).toNat:Nat):Int)=10)) ( Of n aq s at_ v6 (anV (v5+1))) ( Of n aq s at_ v6 v5)) ( Uf n v5)
def HF(n:Nat)(s:anT)(at_:Int):Nat→Int→Int→anY
 | 0=>λ_ _=>none
 |m+1=>Ug n s at_ (HF n s at_ m)
def Og(s:anT)(at_:Int):anY:=HF n s at_ n 0 0
def Uh(n:Nat)(db:Int):anY:=some db
def Ui(n:Nat)(aq:Int→anY)(s:anT)(eb:Int→anY)(cu:Int):anY:=aE (!(decide (cu<((s.length:Nat):Int)))||a7 cu s.length)<|cond (cond (decide (cu<((s.length:Nat):Int))) (!decide ((((s.getD (cu).toNat 0).toNat:Nat):Int)=10)) false) ( eb (anV (cu+1))) ( aq cu)
def HG(n:Nat)(aq:Int→anY)(s:anT):Nat→Int→anY
 | 0=>λ_=>none
 |m+1=>Ui n aq s (HG n aq s m)
def Uj(s:anT)(aq:Int→anY)(v11:Int):anY:=cond (decide (v11<((s.length:Nat):Int))) ( aE (a7 v11 s.length)<|cond (decide ((((s.getD (v11).toNat 0).toNat:Nat):Int)=35)) ( HG n aq s n v11) ( aE (a7 v11 s.length)<|aE ((decide ((((s.getD (v11).toNat 0).toNat:Nat):Int)=32))||a7 v11 s.length)<|aE ((cond (decide ((((s.getD (v11).toNat 0).toNat:Nat):Int)=32)) true (decide ((((s.getD (v11).toNat 0).toNat:Nat):Int)=9)))||a7 v11 s.length)<|cond (cond (cond (decide ((((s.getD (v11).toNat 0).toNat:Nat):Int)=32)) true (decide ((((s.getD (v11).toNat 0).toNat:Nat):Int)=9))) true (decide ((((s.getD (v11).toNat 0).toNat:Nat):Int)=10))) ( aq (anV (v11+1))) ( some v11))) ( Uh n v11)
def HH(n:Nat)(s:anT):Nat→Int→anY
 | 0=>λ_=>none
 |m+1=>Uj n s (HH n s m)
def HI(s:anT)(at_:Int):anY:=HH n s n at_
def Uk(n:Nat):Option (List anT):=some ([([61,61]:anT),([33,61]:anT),([60,61]:anT),([62,61]:anT),([43,43]:anT),([40]:anT),([41]:anT),([123]:anT),([125]:anT),([44]:anT),([59]:anT),([58]:anT),([61]:anT),([60]:anT),([62]:anT),([43]:anT),([45]:anT),([42]:anT),([47]:anT),([37]:anT)]:List anT)
def Ul(n:Nat)(s:anT):anX:=aE (!(decide (0<((s.length:Nat):Int)))||a7 0 s.length)<|some (cond (decide (0<((s.length:Nat):Int))) (cond (!decide ((((s.getD 0 0).toNat:Nat):Int)=48)) true (decide (((s.length:Nat):Int)=1))) false)
def Um(s:anT)(aq:Int→anX)(v4:Int):anX:=cond (decide (v4<((s.length:Nat):Int))) ( aE (a7 v4 s.length)<|aE ((decide ((((s.getD (v4).toNat 0).toNat:Nat):Int)<48))||a7 v4 s.length)<|cond (cond (decide ((((s.getD (v4).toNat 0).toNat:Nat):Int)<48)) true (decide (57<(((s.getD (v4).toNat 0).toNat:Nat):Int)))) ( some false) ( aq (anV (v4+1)))) ( Ul n s)
def Cu(n:Nat)(s:anT):Nat→Int→anX
 | 0=>λ_=>none
 |m+1=>Um n s (Cu n s m)
def Un(s:anT):anX:=Cu n s n 0
def Uo(n:Nat)(s:anT)(cu:Int):Option (Int×Int):=cond (cond (decide (0<((s.length:Nat):Int))) (decide ((((s.getD 0 0).toNat:Nat):Int)=45)) false) ( some ((anV (IntKind.u64.wrap (0-cu))),0)) ( some ((anV cu),0))
def Up(s:anT)(v3:anT)(v4:Int)(eb:Int→Int→Option (Int×Int))(v10:Int)(v11:Int):Option (Int×Int):=cond (decide (v11<((v3.length:Nat):Int))) ( aE (a7 v11 v3.length)<|cond (decide ((IntKind.u64.wrap (Int.tdiv (IntKind.u64.wrap (v4-(IntKind.u64.wrap (IntKind.u8.wrap ((((v3.getD (v11).toNat 0).toNat:Nat):Int)-48))))) 10))<v10)) ( some (0,3)) ( eb (IntKind.u64.wrap ((IntKind.u64.wrap (v10*10))+(IntKind.u64.wrap (IntKind.u8.wrap ((((v3.getD (v11).toNat 0).toNat:Nat):Int)-48))))) (anV (v11+1)))) ( Uo n s v10)
def HJ(n:Nat)(s:anT)(v3:anT)(v4:Int):Nat→Int→Int→Option (Int×Int)
 | 0=>λ_ _=>none
 |m+1=>Up n s v3 v4 (HJ n s v3 v4 m)
def Oh(s:anT)(v3:anT)(v4:Int):Option (Int×Int):=(Un n v3).bind λcA=>cond (cond (!cA) true (cond (cond (decide (0<((s.length:Nat):Int))) (decide ((((s.getD 0 0).toNat:Nat):Int)=45)) false) (decide (v3=([48]:anT))) false)) ( some (0,5)) ( HJ n s v3 v4 n 0 0)
def Oi(s:anT):Option (Int×Int):=aE (!(decide (0<((s.length:Nat):Int)))||a7 0 s.length)<|cond (cond (decide (0<((s.length:Nat):Int))) (decide ((((s.getD 0 0).toNat:Nat):Int)=45)) false) ( aE (gC 1 s.length)<|Oh n s (s.drop 1) 9223372036854775808) ( Oh n s s 9223372036854775807)
def Oj(w:anT):Option (Token×Int):=aE (a7 0 w.length)<|(Cm n (((w.getD 0 0).toNat:Nat):Int)).bind λr2=>cond r2 ( (Hf n w).bind λaZ=>cond aZ ( some ((⟨2,w,0,0⟩:Token),0)) ( (Hi n w).bind λb8=>cond b8 ( some ((⟨1,w,0,0⟩:Token),0)) ( some ((⟨0,[],0,0⟩:Token),2)))) ( (Oi n w).bind λcM=>cond (!decide (cM.2=0)) ( some ((⟨0,[],0,0⟩:Token),cM.2)) ( some ((⟨3,[],cM.1,0⟩:Token),0)))
def Uq(n:Nat)(c':Int):Option (anT×Int×Int):=some (([]:anT),c',6)
def Ok(n:Nat)(aq:Int→anT→Option (anT×Int×Int))(s:anT)(v10:anT)(cj:Int):Option (anT×Int×Int):=cond (decide (((v10.length:Nat):Int)=64)) ( some (([]:anT),cj,2)) ( aE (lB cj (anV (cj+1)) s.length)<|aE (eU (v10.length+((s.take ((anV (cj+1))).toNat).drop (cj).toNat).length))<|aq (anV (cj+1)) (v10++((s.take ((anV (cj+1))).toNat).drop (cj).toNat)))
def Ur(s:anT)(aq:Int→anT→Option (anT×Int×Int))(v9:Int)(v10:anT):Option (anT×Int×Int):=cond (decide (v9<((s.length:Nat):Int))) ( aE (a7 v9 s.length)<|cond (decide ((((s.getD (v9).toNat 0).toNat:Nat):Int)=34)) ( some (v10,(anV (v9+1)),0)) ( cond (decide ((((s.getD (v9).toNat 0).toNat:Nat):Int)=92)) ( cond (decide ((anV (v9+1))=((s.length:Nat):Int))) ( some (([]:anT),(anV (v9+1)),6)) ( aE (a7 (anV (v9+1)) s.length)<|aE (!(!decide ((((s.getD ((anV (v9+1))).toNat 0).toNat:Nat):Int)=34))||a7 (anV (v9+1)) s.length)<|cond (cond (!decide ((((s.getD ((anV (v9+1))).toNat 0).toNat:Nat):Int)=34)) (!decide ((((s.getD ((anV (v9+1))).toNat 0).toNat:Nat):Int)=92)) false) ( some (([]:anT),(anV (v9+1)),5)) ( Ok n aq s v10 (anV (v9+1))))) ( cond (cond (decide ((((s.getD (v9).toNat 0).toNat:Nat):Int)<32)) true (decide (126<(((s.getD (v9).toNat 0).toNat:Nat):Int)))) ( some (([]:anT),v9,5)) ( Ok n aq s v10 v9)))) ( Uq n v9)
def HK(n:Nat)(s:anT):Nat→Int→anT→Option (anT×Int×Int)
 | 0=>λ_ _=>none
 |m+1=>Ur n s (HK n s m)
def Us(s:anT)(at_:Int):Option (anT×Int×Int):=HK n s n (anV (at_+1)) ([]:anT)
def Ut(n:Nat)(at_:Int):Option (Token×Int×Int):=some ((⟨0,[],0,0⟩:Token),at_,5)
def Uu(s:anT)(at_:Int)(c8:(List anT))(aq:Int→Option (Token×Int×Int))(cF:Int):Option (Token×Int×Int):=cond (decide (cF<((c8.length:Nat):Int))) ( aE (a7 cF c8.length)<|aE (!(decide ((anV (at_+(((anW c8 cF).length:Nat):Int)))≤((s.length:Nat):Int)))||a7 cF c8.length)<|aE (!(decide ((anV (at_+(((anW c8 cF).length:Nat):Int)))≤((s.length:Nat):Int)))||lB at_ (anV (at_+(((anW c8 cF).length:Nat):Int))) s.length)<|aE (!(decide ((anV (at_+(((anW c8 cF).length:Nat):Int)))≤((s.length:Nat):Int)))||a7 cF c8.length)<|cond (cond (decide ((anV (at_+(((anW c8 cF).length:Nat):Int)))≤((s.length:Nat):Int))) (decide (((s.take ((anV (at_+(((anW c8 cF).length:Nat):Int)))).toNat).drop (at_).toNat)=(anW c8 cF))) false) ( aE (a7 cF c8.length)<|aE (a7 cF c8.length)<|some ((⟨5,(anW c8 cF),0,0⟩:Token),(anV (at_+(((anW c8 cF).length:Nat):Int))),0)) ( aq (anV (cF+1)))) ( Ut n at_)
def Cv(n:Nat)(s:anT)(at_:Int)(c8:(List anT)):Nat→Int→Option (Token×Int×Int)
 | 0=>λ_=>none
 |m+1=>Uu n s at_ c8 (Cv n s at_ c8 m)
def Ol(s:anT)(at_:Int):Option (Token×Int×Int):=aE (a7 at_ s.length)<|cond (decide ((((s.getD (at_).toNat 0).toNat:Nat):Int)=34)) ( (Us n s at_).bind λr3=>some ((⟨4,r3.1,0,0⟩:Token),r3.2.1,r3.2.2)) ( aE (a7 at_ s.length)<|(Hg n (((s.getD (at_).toNat 0).toNat:Nat):Int)).bind λcA=>cond cA ( (NZ n s at_).bind λcJ=>aE (lB at_ cJ s.length)<|(Oj n ((s.take (cJ).toNat).drop (at_).toNat)).bind λcy=>some (cy.1,cJ,cy.2)) ( (Uk n).bind λc8=>Cv n s at_ c8 n 0))
def Uv(n:Nat)(a6:List Token):Option ((List Token)×Int×Int):=some (a6,0,0)
def Om(src:anT)(aq:(List Token)→Int→Option ((List Token)×Int×Int))(v9:List Token)(v10:Int):Option ((List Token)×Int×Int):=cond (decide (v10<((src.length:Nat):Int))) ( (Og n src v10).bind λbZ=>(Ol n src v10).bind λez=>cond (!decide (ez.2.2=0)) ( some (([]:List Token),(anV (bZ+1)),ez.2.2)) ( aE (room (v9.length+([(⟨ez.1.Kind,ez.1.Text,ez.1.N,(anV (bZ+1))⟩:Token)]:List Token).length) 40)<|(HI n src ez.2.1).bind λeF=>aq (v9++([(⟨ez.1.Kind,ez.1.Text,ez.1.N,(anV (bZ+1))⟩:Token)]:List Token)) eF)) ( Uv n v9)
def Cw(n:Nat)(src:anT):Nat→(List Token)→Int→Option ((List Token)×Int×Int)
 | 0=>λ_ _=>none
 |m+1=>Om n src (Cw n src m)
def Uw(src:anT):Option ((List Token)×Int×Int):=cond (decide (16384<((src.length:Nat):Int))) ( some (([]:List Token),0,2)) ( (HI n src 0).bind λr2=>Cw n src n ([]:List Token) r2)
def vA(aj:bP):Option (bP×Int):=(qj n aj).bind λr1=>cond (!r1) ( some ((⟨0,⟨0,0,[]⟩,[],[],⟨0,[]⟩,[],[],0⟩:bP),1)) ( (rx n aj).bind λr3=>(Ce n r3).bind λaZ=>some (aZ.1,aZ.2))
def On(aj:bP):anX:=(Ct n aj).bind λr1=>cond (!r1) ( (Cl n).bind λr3=>some r3) ( (vA n aj).bind λaZ=>(sM n aj).bind λcA=>cond (!decide (cA.2=0)) ( Option.bind (cond (cond (decide (cA.1=([]:anT))) (cond (decide (cA.2=2)) true (decide (cA.2=aZ.2))) false) (Cl n) (some default)) λcJ=>some (cond (cond (decide (cA.1=([]:anT))) (cond (decide (cA.2=2)) true (decide (cA.2=aZ.2))) false) cJ false)) ( (Cf n cA.1).bind λcM=>(vA n aZ.1).bind λcy=>(sM n aZ.1).bind λc8=>Option.bind (cond (cond (decide (aZ.2=0)) (decide (cM.2=0)) false) (yE n cM.1 aZ.1) (some default)) λbZ=>Option.bind (cond (cond (cond (cond (decide (aZ.2=0)) (decide (cM.2=0)) false) bZ false) (decide (cy.2=0)) false) (yE n cy.1 aZ.1) (some default)) λez=>Option.bind (cond (cond (cond (cond (cond (cond (cond (decide (aZ.2=0)) (decide (cM.2=0)) false) bZ false) (decide (cy.2=0)) false) ez false) (decide (c8.1=cA.1)) false) (decide (c8.2=0)) false) (yr n aj cM.1) (some default)) λdz=>Option.bind (cond (cond (cond (cond (cond (cond (cond (cond (decide (aZ.2=0)) (decide (cM.2=0)) false) bZ false) (decide (cy.2=0)) false) ez false) (decide (c8.1=cA.1)) false) (decide (c8.2=0)) false) dz false) (Cl n) (some default)) λeF=>some (cond (cond (cond (cond (cond (cond (cond (cond (decide (aZ.2=0)) (decide (cM.2=0)) false) bZ false) (decide (cy.2=0)) false) ez false) (decide (c8.1=cA.1)) false) (decide (c8.2=0)) false) dz false) eF false)))
end Go.Ab.Y

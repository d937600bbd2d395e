/- What each function computes, over plain data, with fuel. Printed by a program. -/
import Derived.Test.YtcjbfnojhpfchaaGreatDoorHand
set_option linter.all false
namespace Go.Ab.Y
open Go Go.Ab Go.Proofs
variable (n:Nat)
def Pn(n:Nat)(c:Int):auB:=some (cond (cond (cond (cond (cond (cond (decide (97≤c)) (decide (c≤122)) false) true (cond (decide (48≤c)) (decide (c≤57)) false)) true (decide (c=47))) true (decide (c=46))) true (decide (c=95))) true (decide (c=45)))
def Po(n:Nat):auB:=some true
def H3(s:aux)(al:Int→auB)(v5:Int):auB:=cond (decide (v5<((s.length:Nat):Int))) ( ax (aL v5 s.length)<|(Pn n (((s.getD (v5).toNat 0).toNat:Nat):Int)).bind λcU=>cond (!cU) ( some false) ( al (auz (v5+1)))) ( Po n)
def y4(n:Nat)(s:aux):Nat→Int→auB
 | 0=>λ_=>none
 |m+1=>H3 n s (y4 n s m)
def H4(s:aux):auB:=cond (decide (24<((s.length:Nat):Int))) ( some false) ( y4 n s n 0)
def wE(k:aux):auB:=Option.bind (cond (!(decide (k=([]:aux)))) (H4 n k) (some default)) λr1=>some (cond (!(decide (k=([]:aux)))) r1 false)
def Pp(n:Nat)(l:List aux):auB:=some (decide (((l.length:Nat):Int)≤64))
def H5(l:List aux)(al:Int→auB)(v5:Int):auB:=cond (decide (v5<((l.length:Nat):Int))) ( ax (aL v5 l.length)<|(wE n (auA l v5)).bind λcU=>ax ((!cU)||(!(decide (0<v5))||aL (auz (v5-1)) l.length))<|cond (cond (!cU) true (cond (decide (0<v5)) ((Op.bytesLess (auA l v5) (auA l (auz (v5-1))))||(decide ((auA l v5)=(auA l (auz (v5-1)))))) false)) ( some false) ( al (auz (v5+1)))) ( Pp n l)
def y5(n:Nat)(l:List aux):Nat→Int→auB
 | 0=>λ_=>none
 |m+1=>H5 n l (y5 n l m)
def Dm(l:List aux):auB:=y5 n l n 0
def Dn(f:fc):auB:=cond f.dH ( some (cond (decide (((f.Reads.length:Nat):Int)=0)) (decide (((f.cm.length:Nat):Int)=0)) false)) ( (Dm n f.Reads).bind λr2=>Option.bind (cond r2 (Dm n f.cm) (some default)) λr3=>some (cond r2 r3 false))
def Pq(n:Nat):auB:=some false
def ip(v1:Bool):auB:=cond v1 ( some true) ( Pq n)
def Do(s:aux):auB:=cond (decide (s=([112,114,111,99]:aux))) ( ip n (decide (s=([112,114,111,99]:aux)))) ( cond (decide (s=([108,101,116]:aux))) ( ip n (decide (s=([108,101,116]:aux)))) ( cond (decide (s=([112,117,116]:aux))) ( ip n (decide (s=([112,117,116]:aux)))) ( cond (decide (s=([100,101,108,101,116,101]:aux))) ( ip n (decide (s=([100,101,108,101,116,101]:aux)))) ( cond (decide (s=([105,102]:aux))) ( ip n (decide (s=([105,102]:aux)))) ( cond (decide (s=([101,108,115,101]:aux))) ( ip n (decide (s=([101,108,115,101]:aux)))) ( cond (decide (s=([102,111,114]:aux))) ( ip n (decide (s=([102,111,114]:aux)))) ( cond (decide (s=([116,111]:aux))) ( ip n (decide (s=([116,111]:aux)))) ( cond (decide (s=([109,97,120]:aux))) ( ip n (decide (s=([109,97,120]:aux)))) ( cond (decide (s=([101,109,105,116]:aux))) ( ip n (decide (s=([101,109,105,116]:aux)))) ( cond (decide (s=([97,98,111,114,116]:aux))) ( ip n (decide (s=([97,98,111,114,116]:aux)))) ( cond (decide (s=([110,111,116]:aux))) ( ip n (decide (s=([110,111,116]:aux)))) ( cond (decide (s=([97,110,100]:aux))) ( ip n (decide (s=([97,110,100]:aux)))) ( cond (decide (s=([111,114]:aux))) ( ip n (decide (s=([111,114]:aux)))) ( cond (decide (s=([105,110,116]:aux))) ( ip n (decide (s=([105,110,116]:aux)))) ( cond (decide (s=([115,116,114]:aux))) ( ip n (decide (s=([115,116,114]:aux)))) ( cond (decide (s=([98,111,111,108]:aux))) ( ip n (decide (s=([98,111,111,108]:aux)))) ( cond (decide (s=([116,101,120,116]:aux))) ( ip n (decide (s=([116,101,120,116]:aux)))) ( cond (decide (s=([108,101,110]:aux))) ( ip n (decide (s=([108,101,110]:aux)))) ( cond (decide (s=([103,101,116,105,110,116]:aux))) ( ip n (decide (s=([103,101,116,105,110,116]:aux)))) ( cond (decide (s=([103,101,116,115,116,114]:aux))) ( ip n (decide (s=([103,101,116,115,116,114]:aux)))) ( cond (decide (s=([104,97,115]:aux))) ( ip n (decide (s=([104,97,115]:aux)))) ( cond (decide (s=([110,111,119]:aux))) ( ip n (decide (s=([110,111,119]:aux)))) ( cond (decide (s=([114,97,110,100,111,109]:aux))) ( ip n (decide (s=([114,97,110,100,111,109]:aux)))) ( ip n (decide (s=([110,111,100,101]:aux)))))))))))))))))))))))))))
def Dp(n:Nat)(c:Int):auB:=some (cond (decide (97≤c)) (decide (c≤122)) false)
def sQ(s:aux):auB:=ax (!(cond (!(decide (s=([]:aux)))) (decide (((s.length:Nat):Int)≤16)) false)||aL 0 s.length)<|Option.bind (cond (cond (!(decide (s=([]:aux)))) (decide (((s.length:Nat):Int)≤16)) false) (Dp n (IntKind.i32.wrap (((s.getD 0 0).toNat:Nat):Int))) (some default)) λr2=>Option.bind (cond (cond (cond (!(decide (s=([]:aux)))) (decide (((s.length:Nat):Int)≤16)) false) r2 false) (y1 n s) (some default)) λr3=>Option.bind (cond (cond (cond (cond (!(decide (s=([]:aux)))) (decide (((s.length:Nat):Int)≤16)) false) r2 false) (decide (r3=((s.length:Nat):Int))) false) (Do n s) (some default)) λbx=>some (cond (cond (cond (cond (!(decide (s=([]:aux)))) (decide (((s.length:Nat):Int)≤16)) false) r2 false) (decide (r3=((s.length:Nat):Int))) false) (!bx) false)
def Yp(n:Nat)(s:aux):auB:=some (decide (((s.length:Nat):Int)≤64))
def Pr(s:aux)(al:Int→auB)(v4:Int):auB:=cond (decide (v4<((s.length:Nat):Int))) ( ax (aL v4 s.length)<|ax ((decide ((((s.getD (v4).toNat 0).toNat:Nat):Int)<32))||aL v4 s.length)<|cond (cond (decide ((((s.getD (v4).toNat 0).toNat:Nat):Int)<32)) true (decide (126<(((s.getD (v4).toNat 0).toNat:Nat):Int)))) ( some false) ( al (auz (v4+1)))) ( Yp n s)
def Dq(n:Nat)(s:aux):Nat→Int→auB
 | 0=>λ_=>none
 |m+1=>Pr n s (Dq n s m)
def Dr(s:aux):auB:=Dq n s n 0
def sR(v:bq):auB:=cond (decide (v.Kind=0)) ( some ((decide (v.Kind=0))&&((decide (v.N=0))&&((decide (v.S=([]:aux)))&&true)))) ( cond (decide (v.Kind=1)) ( some (decide (v.S=([]:aux)))) ( cond (decide (v.Kind=2)) ( Option.bind (cond (decide (v.N=0)) (Dr n v.S) (some default)) λbx=>some (cond (decide (v.N=0)) bx false)) ( some false)))
def Ps(v:bq):auB:=Option.bind (cond (!(decide (v.Kind=0))) (sR n v) (some default)) λr1=>some (cond (decide (v.Kind=0)) true (!r1))
def Pt(n:Nat):auC:=some (-1)
def H6(s:List bq)(al:Int→auC)(v4:Int):auC:=cond (decide (v4<((s.length:Nat):Int))) ( ax (aL v4 s.length)<|(Ps n (auA s v4)).bind λbO=>cond bO ( some v4) ( al (auz (v4+1)))) ( Pt n)
def y6(n:Nat)(s:List bq):Nat→Int→auC
 | 0=>λ_=>none
 |m+1=>H6 n s (y6 n s m)
def Pu(s:List bq):auC:=y6 n s n 0
def Pv(s:List bq):auB:=(Pu n s).bind λr1=>some (decide (0≤r1))
def oE(ah:Request):auC:=cond (cond (cond (cond (decide (ah.Client<1)) true (decide (32<ah.Client))) true (decide (ah.Seq<1))) true (decide (1099511627776<ah.Seq))) ( some 1) ( (sQ n ah.bb).bind λr2=>cond (!r2) ( some 7) ( cond (decide (6<((ah.ar.length:Nat):Int))) ( some 2) ( (Pv n ah.ar).bind λb'=>cond b' ( some 1) ( (Dn n ah.bk).bind λcU=>cond (cond (cond (!cU) true ah.bk.dH) true (cond (!ah.ez) (decide (0<(auz (((ah.bk.Reads.length:Nat):Int)+((ah.bk.cm.length:Nat):Int))))) false)) ( some 1) ( some 0)))))
def H7(n:Nat)(b:List Int)(c:Int):Option (List Int):=ax (room (b.length+([c]:List Int).length) 1)<|some (b++([c]:List Int))
def Pw(v9:Int)(v10:List Int):Option aux:=(H7 n v10 (IntKind.u8.wrap v9)).bind λb5=>ax (nB b5)<|some (jV b5)
def Px(al:Int→(List Int)→Option aux)(v4:Int)(v5:List Int):Option aux:=cond (decide (128≤v4)) ( (H7 n v5 (qY .u8 (IntKind.u8.wrap v4) 128)).bind λbO=>al (nq .u64 v4 7) bO) ( Pw n v4 v5)
def Ds(n:Nat):Nat→Int→(List Int)→Option aux
 | 0=>λ_ _=>none
 |m+1=>Px n (Ds n m)
def h1(u:Int):Option aux:=Ds n n u ([]:List Int)
def qh(s:aux):Option aux:=(h1 n (IntKind.u64.wrap ((s.length:Nat):Int))).bind λr1=>ax (b0 (r1.length+s.length))<|some (r1++s)
def Py(n:Nat)(bE:aux):Option aux:=some bE
def H8(l:List aux)(al:Int→aux→Option aux)(bB:Int)(bv:aux):Option aux:=cond (decide (bB<((l.length:Nat):Int))) ( ax (aL bB l.length)<|(qh n (auA l bB)).bind λdh=>ax (b0 (bv.length+dh.length))<|al (auz (bB+1)) (bv++dh)) ( Py n bv)
def y7(n:Nat)(l:List aux):Nat→Int→aux→Option aux
 | 0=>λ_ _=>none
 |m+1=>H8 n l (y7 n l m)
def Dt(l:List aux):Option aux:=(h1 n (IntKind.u64.wrap ((l.length:Nat):Int))).bind λr1=>y7 n l n 0 r1
def rp(fx:Int):Option aux:=(h1 n (mU .u64 (o1 .u64 (IntKind.u64.wrap fx) 1) (IntKind.u64.wrap (nq .i64 fx 63)))).bind λr1=>some r1
def wF(v:bq):Option aux:=cond (decide (v.Kind=1)) ( (h1 n 1).bind λr2=>(rp n v.N).bind λr3=>ax (b0 (r2.length+r3.length))<|some (r2++r3)) ( cond (decide (v.Kind=2)) ( (h1 n 2).bind λbO=>(qh n v.S).bind λcU=>ax (b0 (bO.length+cU.length))<|some (bO++cU)) ( (h1 n 0).bind λcR=>some cR))
def Pz(n:Nat)(b:Bool):Option aux:=cond b ( some ([1]:aux)) ( some ([0]:aux))
def Du(n:Nat)(hP:aux):Option aux:=some hP
def Dv(ah:Request)(c_:aux):Option aux:=(Pz n ah.ez).bind λfu=>ax (b0 (c_.length+fu.length))<|cond ah.ez ( (Dt n ah.bk.Reads).bind λf_=>(Dt n ah.bk.cm).bind λr26=>ax (b0 (f_.length+r26.length))<|ax (b0 ((c_++fu).length+(f_++r26).length))<|Du n ((c_++fu)++(f_++r26))) ( Du n (c_++fu))
def H9(ah:Request)(ef:aux→Int→Option aux)(bC:aux)(dK:Int):Option aux:=cond (decide (dK<((ah.ar.length:Nat):Int))) ( ax (aL dK ah.ar.length)<|(wF n (auA ah.ar dK)).bind λgt=>ax (b0 (bC.length+gt.length))<|ef (bC++gt) (auz (dK+1))) ( Dv n ah bC)
def y8(n:Nat)(ah:Request):Nat→aux→Int→Option aux
 | 0=>λ_ _=>none
 |m+1=>H9 n ah (y8 n ah m)
def H'(ah:Request):Option aux:=(oE n ah).bind λr1=>cond (!decide (r1=0)) ( some ([]:aux)) ( (h1 n (IntKind.u64.wrap ah.Client)).bind λr3=>(h1 n (IntKind.u64.wrap ah.Seq)).bind λbx=>ax (b0 (r3.length+bx.length))<|(qh n ah.bb).bind λbO=>ax (b0 ((r3++bx).length+bO.length))<|(h1 n (IntKind.u64.wrap ((ah.ar.length:Nat):Int))).bind λcW=>ax (b0 (((r3++bx)++bO).length+cW.length))<|y8 n ah n (((r3++bx)++bO)++cW) 0)
def PA(n:Nat)(a1:aux):Option aux:=some a1
def H_(l:List Request)(al:Int→aux→Option aux)(v9:Int)(v10:aux):Option aux:=cond (decide (v9<((l.length:Nat):Int))) ( ax (aL v9 l.length)<|(oE n (⟨(auA l v9).Client,(auA l v9).Seq,(auA l v9).bb,(auA l v9).ar,(auA l v9).ez,⟨((auA l v9).bk).dH,((auA l v9).bk).Reads,((auA l v9).bk).cm⟩⟩:Request)).bind λeV=>cond (!decide (eV=0)) ( some ([]:aux)) ( (H' n (⟨(auA l v9).Client,(auA l v9).Seq,(auA l v9).bb,(auA l v9).ar,(auA l v9).ez,⟨((auA l v9).bk).dH,((auA l v9).bk).Reads,((auA l v9).bk).cm⟩⟩:Request)).bind λdS=>ax (b0 (v10.length+dS.length))<|al (auz (v9+1)) (v10++dS))) ( PA n v10)
def y9(n:Nat)(l:List Request):Nat→Int→aux→Option aux
 | 0=>λ_ _=>none
 |m+1=>H_ n l (y9 n l m)
def y'(l:List Request):Option aux:=cond (decide (64<((l.length:Nat):Int))) ( some ([]:aux)) ( (h1 n (IntKind.u64.wrap ((l.length:Nat):Int))).bind λr2=>y9 n l n 0 r2)
def PB(n:Nat):auB:=some true
def Ia(floor:Int)(last:Int)(ah:Row)(al:Int→auB)(bv:Int):auB:=cond (decide (bv<((ah.bj.length:Nat):Int))) ( ax (aL bv ah.bj.length)<|Option.bind (cond (!(cond (decide ((auA ah.bj bv).cl<floor)) true (decide (last<(auA ah.bj bv).cl)))) (sR n (⟨((auA ah.bj bv).br).Kind,((auA ah.bj bv).br).N,((auA ah.bj bv).br).S⟩:bq)) (some default)) λdh=>cond (cond (cond (decide ((auA ah.bj bv).cl<floor)) true (decide (last<(auA ah.bj bv).cl))) true (!dh)) ( some false) ( ax (!(decide (0<bv))||aL (auz (bv-1)) ah.bj.length)<|ax (!(decide (0<bv))||((decide ((auA ah.bj bv).cl≤(auA ah.bj (auz (bv-1))).cl))||aL (auz (bv-1)) ah.bj.length))<|cond (cond (decide (0<bv)) (cond (decide ((auA ah.bj bv).cl≤(auA ah.bj (auz (bv-1))).cl)) true ((decide (((auA ah.bj bv).br).Kind=((auA ah.bj (auz (bv-1))).br).Kind))&&((decide (((auA ah.bj bv).br).N=((auA ah.bj (auz (bv-1))).br).N))&&((decide (((auA ah.bj bv).br).S=((auA ah.bj (auz (bv-1))).br).S))&&true)))) false) ( some false) ( al (auz (bv+1))))) ( PB n)
def y_(n:Nat)(floor:Int)(last:Int)(ah:Row):Nat→Int→auB
 | 0=>λ_=>none
 |m+1=>Ia n floor last ah (y_ n floor last ah m)
def Ib(ah:Row)(floor:Int)(last:Int):auB:=ax ((decide (((ah.bj.length:Nat):Int)=0))||aL 0 ah.bj.length)<|cond (cond (decide (((ah.bj.length:Nat):Int)=0)) true (decide (((ah.bj.getD 0 default).br).Kind=0))) ( some false) ( y_ n floor last ah n 0)
def PC(n:Nat):auB:=some true
def Ic(s:az)(al:Int→auB)(bB:Int):auB:=cond (decide (bB<((s.Rows.length:Nat):Int))) ( ax (aL bB s.Rows.length)<|(wE n ((auA s.Rows bB).Key)).bind λcR=>ax ((!cR)||(!(decide (0<bB))||aL (auz (bB-1)) s.Rows.length))<|Option.bind (cond (!(cond (!cR) true (cond (decide (0<bB)) ((Op.bytesLess ((auA s.Rows bB).Key) ((auA s.Rows (auz (bB-1))).Key))||(decide (((auA s.Rows bB).Key)=((auA s.Rows (auz (bB-1))).Key)))) false))) (Ib n (auA s.Rows bB) s.cd s.b2) (some default)) λb5=>cond (cond (cond (!cR) true (cond (decide (0<bB)) ((Op.bytesLess ((auA s.Rows bB).Key) ((auA s.Rows (auz (bB-1))).Key))||(decide (((auA s.Rows bB).Key)=((auA s.Rows (auz (bB-1))).Key)))) false)) true (!b5)) ( some false) ( al (auz (bB+1)))) ( PC n)
def za(n:Nat)(s:az):Nat→Int→auB
 | 0=>λ_=>none
 |m+1=>Ic n s (za n s m)
def wG(s:az):auB:=cond (cond (cond (decide (s.cd<0)) true (decide (s.b2<s.cd))) true (decide (1099511627776<s.b2))) ( some false) ( za n s n 0)
def zb(n:Nat)(s:az)(at_:Int):auC:=cond (cond (decide (at_<s.cd)) true (decide (s.b2<at_))) ( some 15) ( some 0)
def Ie(n:Nat)(v6:Int):auC:=some v6
def If(at_:Int)(ah:Row)(al:Int→auC)(v3:Int):auC:=ax (!(decide (v3<((ah.bj.length:Nat):Int)))||aL v3 ah.bj.length)<|cond (cond (decide (v3<((ah.bj.length:Nat):Int))) (decide ((auA ah.bj v3).cl≤at_)) false) ( al (auz (v3+1))) ( Ie n v3)
def wH(n:Nat)(at_:Int)(ah:Row):Nat→Int→auC
 | 0=>λ_=>none
 |m+1=>If n at_ ah (wH n at_ ah m)
def Dw(ah:Row)(at_:Int):auC:=wH n at_ ah n 0
def zc(ah:Row)(at_:Int):Option bq:=(Dw n ah at_).bind λr1=>cond (decide (r1=0)) ( some (⟨0,0,[]⟩:bq)) ( ax (aL (auz (r1-1)) ah.bj.length)<|some (⟨((auA ah.bj (auz (r1-1))).br).Kind,((auA ah.bj (auz (r1-1))).br).N,((auA ah.bj (auz (r1-1))).br).S⟩:bq))
def Ig(n:Nat)(cY:List bo):Option ((List bo)×Int):=some (cY,0)
def zd(n:Nat)(al:Int→(List bo)→Option ((List bo)×Int))(at_:Int)(s:az)(v11:Int)(dK:List bo):Option ((List bo)×Int):=al (auz (v11+1)) dK
def Ih(at_:Int)(s:az)(al:Int→(List bo)→Option ((List bo)×Int))(v11:Int)(v12:List bo):Option ((List bo)×Int):=cond (decide (v11<((s.Rows.length:Nat):Int))) ( ax (aL v11 s.Rows.length)<|(zc n (auA s.Rows v11) at_).bind λeZ=>cond (!decide (eZ.Kind=0)) ( ax (room (v12.length+([(⟨(auA s.Rows v11).Key,eZ⟩:bo)]:List bo).length) 48)<|zd n al at_ s v11 (v12++([(⟨(auA s.Rows v11).Key,eZ⟩:bo)]:List bo))) ( zd n al at_ s v11 v12)) ( Ig n v12)
def wI(n:Nat)(at_:Int)(s:az):Nat→Int→(List bo)→Option ((List bo)×Int)
 | 0=>λ_ _=>none
 |m+1=>Ih n at_ s (wI n at_ s m)
def wJ(s:az)(at_:Int):Option ((List bo)×Int):=(wG n s).bind λr1=>cond (!r1) ( some (([]:List bo),1)) ( (zb n s at_).bind λr3=>cond (!decide (r3=0)) ( some (([]:List bo),r3)) ( wI n at_ s n 0 ([]:List bo)))
def PD(n:Nat)(m':aux):Option aux:=some m'
def Ii(p:b7)(al:Int→aux→Option aux)(a1:Int)(co:aux):Option aux:=cond (decide (a1<((p.aD.length:Nat):Int))) ( ax (aL a1 p.aD.length)<|(rp n ((auA p.aD a1).Id)).bind λeQ=>(qh n ((auA p.aD a1).dY)).bind λfE=>ax (b0 (eQ.length+fE.length))<|(rp n ((auA p.aD a1).Node)).bind λfu=>ax (b0 ((eQ++fE).length+fu.length))<|(rp n ((auA p.aD a1).ft)).bind λf_=>ax (b0 (((eQ++fE)++fu).length+f_.length))<|(qh n ((auA p.aD a1).gI)).bind λr27=>ax (b0 ((((eQ++fE)++fu)++f_).length+r27.length))<|ax (b0 (co.length+((((eQ++fE)++fu)++f_)++r27).length))<|al (auz (a1+1)) (co++((((eQ++fE)++fu)++f_)++r27))) ( PD n co)
def ze(n:Nat)(p:b7):Nat→Int→aux→Option aux
 | 0=>λ_ _=>none
 |m+1=>Ii n p (ze n p m)
def Dx(p:b7):Option aux:=(rp n p.Version).bind λr1=>(h1 n (IntKind.u64.wrap ((p.aD.length:Nat):Int))).bind λr2=>ax (b0 (r1.length+r2.length))<|ze n p n 0 (r1++r2)
def PE(n:Nat)(y:Param)(ae:Param):auB:=some (decide (y.Name=ae.Name))
def PF(n:Nat)(ae:Param):auC:=some (-1)
def PG(s:List Param)(ae:Param)(al:Int→auC)(v4:Int):auC:=cond (decide (v4<((s.length:Nat):Int))) ( ax (aL v4 s.length)<|(PE n (auA s v4) ae).bind λbO=>cond bO ( some v4) ( al (auz (v4+1)))) ( PF n ae)
def zf(n:Nat)(s:List Param)(ae:Param):Nat→Int→auC
 | 0=>λ_=>none
 |m+1=>PG n s ae (zf n s ae m)
def PH(s:List Param)(ae:Param):auC:=zf n s ae n 0
def Ij(s:List Param)(ae:Param):auB:=(PH n s ae).bind λr1=>some (decide (0≤r1))
def PI(n:Nat):auC:=some 0
def PJ(l:List Param)(al:Int→auC)(bB:Int):auC:=cond (decide (bB<((l.length:Nat):Int))) ( ax (aL bB l.length)<|(sQ n ((auA l bB).Name)).bind λcR=>cond (!cR) ( some 7) ( cond (cond (decide ((auA l bB).fi<1)) true (decide (3<(auA l bB).fi))) ( some 10) ( ax (ho bB l.length)<|(Ij n (l.take (bB).toNat) (auA l bB)).bind λb5=>cond b5 ( some 8) ( al (auz (bB+1)))))) ( PI n)
def zg(n:Nat)(l:List Param):Nat→Int→auC
 | 0=>λ_=>none
 |m+1=>PJ n l (zg n l m)
def Ik(l:List Param):auC:=cond (decide (6<((l.length:Nat):Int))) ( some 2) ( zg n l n 0)
def Il(n:Nat)(op:Int):auC:=cond (cond (decide (op<1)) true (decide (27<op))) ( some (-1)) ( cond (cond (decide (op≤3)) true (decide (25≤op))) ( some 0) ( cond (cond (cond (decide (op=9)) true (decide (op=18))) true (decide (20≤op))) ( some 1) ( some 2)))
def PK(n:Nat)(s:aux):auB:=some (decide (((s.length:Nat):Int)≤64))
def PL(s:aux)(al:Int→auB)(v4:Int):auB:=cond (decide (v4<((s.length:Nat):Int))) ( ax (aL v4 s.length)<|ax ((decide ((((s.getD (v4).toNat 0).toNat:Nat):Int)<32))||aL v4 s.length)<|cond (cond (decide ((((s.getD (v4).toNat 0).toNat:Nat):Int)<32)) true (decide (126<(((s.getD (v4).toNat 0).toNat:Nat):Int)))) ( some false) ( al (auz (v4+1)))) ( PK n s)
def zh(n:Nat)(s:aux):Nat→Int→auB
 | 0=>λ_=>none
 |m+1=>PL n s (zh n s m)
def PM(s:aux):auB:=zh n s n 0
def Im(e:Expr)(depth:Int):auC:=(Il n e.Op).bind λr1=>cond (cond (cond (decide (r1<0)) true (cond (!decide (e.Op=1)) (!decide (e.N=0)) false)) true (cond (cond (!decide (e.Op=2)) (!decide (e.Op=3)) false) (!(decide (e.S=([]:aux)))) false)) ( some 1) ( Option.bind (cond (decide (e.Op=3)) (sQ n e.S) (some default)) λr3=>cond (cond (decide (e.Op=3)) (!r3) false) ( some 7) ( Option.bind (cond ((!(cond (decide (e.Op=1)) (decide (e.N<0)) false))&&(decide (e.Op=2))) (PM n e.S) (some default)) λb'=>cond (cond (cond (cond (decide (e.Op=1)) (decide (e.N<0)) false) true (cond (decide (e.Op=2)) (!b') false)) true (!decide (((e.ar.length:Nat):Int)=r1))) ( some 1) ( cond (decide (12<depth)) ( some 2) ( some 0))))
def PN(n:Nat)(nE:Expr→Int→auC):auC:=some 0
def PO(nE:Expr→Int→auC)(depth:Int)(e:Expr)(al:Int→auC)(v6:Int):auC:=cond (decide (v6<((e.ar.length:Nat):Int))) ( ax (aL v6 e.ar.length)<|(nE (auA e.ar v6) (auz (depth+1))).bind λcW=>cond (!decide (cW=0)) ( some cW) ( al (auz (v6+1)))) ( PN n nE)
def Dy(n:Nat)(nE:Expr→Int→auC)(depth:Int)(e:Expr):Nat→Int→auC
 | 0=>λ_=>none
 |m+1=>PO n nE depth e (Dy n nE depth e m)
def PP(nE:Expr→Int→auC)(e:Expr)(depth:Int):auC:=(Im n e depth).bind λr1=>cond (!decide (r1=0)) ( some r1) ( Dy n nE depth e n 0)
def zi:Nat→Expr→Int→auC
 | 0=>λ_ _=>none
 |m+1=>PP m (zi m)
def Dz(e:Expr):auC:=(zi n e 1).bind λr1=>some r1
def zj(n:Nat)(e:Expr):auB:=some (cond (cond (cond (decide (e.Op=0)) (decide (e.N=0)) false) (decide (e.S=([]:aux))) false) (decide (((e.ar.length:Nat):Int)=0)) false)
def In(s:Stmt)(u:k5):auB:=Option.bind (cond ((!(cond (!u.name) (!(decide (s.Name=([]:aux)))) false))&&(!u.a)) (zj n (⟨s.A.Op,s.A.N,s.A.S,s.A.ar⟩:Expr)) (some default)) λr1=>Option.bind (cond ((!(cond (cond (!u.name) (!(decide (s.Name=([]:aux)))) false) true (cond (!u.a) (!r1) false)))&&(!u.b)) (zj n (⟨s.B.Op,s.B.N,s.B.S,s.B.ar⟩:Expr)) (some default)) λr2=>cond (cond (cond (cond (cond (cond (cond (!u.name) (!(decide (s.Name=([]:aux)))) false) true (cond (!u.a) (!r1) false)) true (cond (!u.b) (!r2) false)) true (cond (!u.max) (!decide (s.Max=0)) false)) true (cond (!u.body) (decide (0<((s.Body.length:Nat):Int))) false)) true (cond (!u.other) (decide (0<((s.bz.length:Nat):Int))) false)) ( some false) ( cond (decide (s.Op=6)) ( some (cond (decide (1≤s.Max)) (decide (s.Max≤16)) false)) ( cond (decide (s.Op=8)) ( some (cond (decide (0≤s.Max)) (decide (s.Max≤999)) false)) ( some true)))
def PQ(n:Nat):Option (k5×Bool):=some ((⟨false,false,false,false,false,false⟩:k5),false)
def Io(op:Int)(v2:Bool):Option (k5×Bool):=cond v2 ( some ((⟨false,true,false,false,false,false⟩:k5),true)) ( cond (decide (op=5)) ( some ((⟨false,true,false,false,true,true⟩:k5),true)) ( cond (decide (op=6)) ( some ((⟨true,true,true,true,true,false⟩:k5),true)) ( cond (decide (op=8)) ( some ((⟨false,false,false,true,false,false⟩:k5),true)) ( PQ n))))
def Ip(op:Int)(v1:Bool):Option (k5×Bool):=cond v1 ( some ((⟨true,true,false,false,false,false⟩:k5),true)) ( cond (decide (op=3)) ( some ((⟨false,true,true,false,false,false⟩:k5),true)) ( cond (decide (op=4)) ( Io n op (decide (op=4))) ( Io n op (decide (op=7)))))
def Iq(op:Int):Option (k5×Bool):=cond (decide (op=1)) ( Ip n op (decide (op=1))) ( Ip n op (decide (op=2)))
def Ir(n:Nat)(depth:Int):auC:=cond (decide (12<depth)) ( some 2) ( some 0)
def Is(depth:Int)(s:Stmt)(r1:k5×Bool):auC:=cond r1.1.b ( (Dz n (⟨s.B.Op,s.B.N,s.B.S,s.B.ar⟩:Expr)).bind λcU=>cond (!decide (cU=0)) ( some cU) ( Ir n depth)) ( Ir n depth)
def It(s:Stmt)(depth:Int):auC:=(Iq n s.Op).bind λr1=>Option.bind (cond (!(!r1.2)) (In n (⟨s.Op,s.Name,s.Max,⟨s.A.Op,s.A.N,s.A.S,s.A.ar⟩,⟨s.B.Op,s.B.N,s.B.S,s.B.ar⟩,s.Body,s.bz⟩:Stmt) r1.1) (some default)) λr2=>cond (cond (!r1.2) true (!r2)) ( some 1) ( Option.bind (cond r1.1.name (sQ n s.Name) (some default)) λbx=>cond (cond r1.1.name (!bx) false) ( some 7) ( cond r1.1.a ( (Dz n (⟨s.A.Op,s.A.N,s.A.S,s.A.ar⟩:Expr)).bind λbO=>cond (!decide (bO=0)) ( some bO) ( Is n depth s r1)) ( Is n depth s r1)))
def Iu(s:Stmt)(depth:Int)(ae:Int):auC:=cond (decide (ae=0)) ( (It n (⟨s.Op,s.Name,s.Max,⟨s.A.Op,s.A.N,s.A.S,s.A.ar⟩,⟨s.B.Op,s.B.N,s.B.S,s.B.ar⟩,s.Body,s.bz⟩:Stmt) depth).bind λr2=>some r2) ( some ae)
def PR(n:Nat)(a0:Expr):Option Unit:=some ()
def PS(n:Nat)(qi:Expr→Int→Int→auC)(e:Expr)(gz:Int)(cC:Int→Int→auC)(v6:Int)(bB:Int):auC:=cond (decide (bB<((e.ar.length:Nat):Int))) ( ax (aL bB e.ar.length)<|(qi (auA e.ar bB) v6 gz).bind λcR=>cC cR (auz (bB+1))) ( some v6)
def DA(n:Nat)(qi:Expr→Int→Int→auC)(e:Expr)(gz:Int):Nat→Int→Int→auC
 | 0=>λ_ _=>none
 |m+1=>PS n qi e gz (DA n qi e gz m)
def PT(qi:Expr→Int→Int→auC)(e:Expr)(jE:Int)(gz:Int):auC:=cond (decide (jE=0)) ( some jE) ( DA n qi e gz n (auz (jE-1)) 0)
def zk:Nat→Expr→Int→Int→auC
 | 0=>λ_ _ _=>none
 |m+1=>PT m (zk m)
def DB(e:Expr)(jE:Int)(gz:Int):auC:=Option.bind (cond (!(decide (jE=0))) (zj n e) (some default)) λr1=>cond (cond (decide (jE=0)) true r1) ( some jE) ( (PR n e).bind λr3=>(zk n e jE gz).bind λbx=>some bx)
def PU(pi:(List Stmt)→Int→Int→Int→Option (Int×Int))(depth:Int)(l:List Stmt)(cC:Int→Int→Int→Option (Int×Int))(v10:Int)(v11:Int)(v12:Int):Option (Int×Int):=cond (decide (v12<((l.length:Nat):Int))) ( ax (aL v12 l.length)<|cond (decide (v10=0)) ( some (v10,v11)) ( (Iu n (⟨(auA l v12).Op,(auA l v12).Name,(auA l v12).Max,⟨((auA l v12).A).Op,((auA l v12).A).N,((auA l v12).A).S,((auA l v12).A).ar⟩,⟨((auA l v12).B).Op,((auA l v12).B).N,((auA l v12).B).S,((auA l v12).B).ar⟩,(auA l v12).Body,(auA l v12).bz⟩:Stmt) depth v11).bind λeZ=>(DB n (⟨((auA l v12).A).Op,((auA l v12).A).N,((auA l v12).A).S,((auA l v12).A).ar⟩:Expr) (auz (v10-1)) eZ).bind λdT=>(DB n (⟨((auA l v12).B).Op,((auA l v12).B).N,((auA l v12).B).S,((auA l v12).B).ar⟩:Expr) dT eZ).bind λeH=>(pi ((auA l v12).Body) (auz (depth+1)) eH eZ).bind λe0=>(pi ((auA l v12).bz) (auz (depth+1)) e0.1 e0.2).bind λgt=>cC gt.1 gt.2 (auz (v12+1)))) ( some (v10,v11))
def DC(n:Nat)(pi:(List Stmt)→Int→Int→Int→Option (Int×Int))(depth:Int)(l:List Stmt):Nat→Int→Int→Int→Option (Int×Int)
 | 0=>λ_ _ _=>none
 |m+1=>PU n pi depth l (DC n pi depth l m)
def PV(pi:(List Stmt)→Int→Int→Int→Option (Int×Int))(l:List Stmt)(depth:Int)(jE:Int)(gz:Int):Option (Int×Int):=DC n pi depth l n jE gz 0
def wK:Nat→(List Stmt)→Int→Int→Int→Option (Int×Int)
 | 0=>λ_ _ _ _=>none
 |m+1=>PV m (wK m)
def PW(p:bb)(ae:Int):Option (Int×Int):=(wK n p.Body 1 401 ae).bind λr1=>some ((auz (401-r1.1)),r1.2)
def DD(p:bb):auC:=(sQ n p.Name).bind λr1=>cond (!r1) ( some 7) ( (Ik n p.Params).bind λr3=>cond (!decide (r3=0)) ( some r3) ( (PW n p r3).bind λb'=>cond (cond (decide (b'.2=0)) (decide (400<b'.1)) false) ( some 2) ( some b'.2)))
def Iv(n:Nat)(ty:Int):Option aux:=cond (decide (ty=1)) ( some ([105,110,116]:aux)) ( cond (decide (ty=2)) ( some ([115,116,114]:aux)) ( some ([98,111,111,108]:aux)))
def rq(n:Nat)(op:Int):Option (Unit ⊕ Unit ⊕ Unit ⊕ Unit ⊕ Unit ⊕ Unit ⊕ Unit ⊕ Unit):=cond (decide (op=1)) ( some (.inl ())) ( cond (decide (op=2)) ( some (.inr (.inl ()))) ( cond (decide (op=3)) ( some (.inr (.inr (.inl ())))) ( cond (decide (op=4)) ( some (.inr (.inr (.inr (.inl ()))))) ( cond (decide (op=5)) ( some (.inr (.inr (.inr (.inr (.inl ())))))) ( cond (decide (op=6)) ( some (.inr (.inr (.inr (.inr (.inr (.inl ()))))))) ( cond (decide (op=7)) ( some (.inr (.inr (.inr (.inr (.inr (.inr (.inl ())))))))) ( some (.inr (.inr (.inr (.inr (.inr (.inr (.inr ()))))))))))))))
def wL(fx:Int):Option aux:=(HZ n fx 10).bind λr1=>some r1
def zl(n:Nat)(b_:List Int)(ce:Int):Option Unit:=some ()
def Iw(c:Int)(b_:List Int)(ce:Int):Option (List Int):=(zl n b_ ce).bind λr1=>ax (room (b_.length+([c]:List Int).length) 1)<|some (b_++([c]:List Int))
def DE(s:aux)(b_:List Int)(ce:Int):Option (Int×(List Int)):=(zl n b_ ce).bind λr1=>ax (room (b_.length+s.length) 1)<|some (((s.length:Nat):Int),(b_++s.map λb=>(b.toNat:Int)))
def PX(ce:Int)(v20:List Int):Option (List Int):=(Iw n 10 v20 ce).bind λfE=>some fE
def PY(parts:List aux)(ce:Int)(ef:(List Int)→Int→Option (List Int))(bE:List Int)(bC:Int):Option (List Int):=cond (decide (bC<((parts.length:Nat):Int))) ( ax (aL bC parts.length)<|(DE n (auA parts bC) bE ce).bind λe0=>ef e0.2 (auz (bC+1))) ( PX n ce bE)
def DF(n:Nat)(parts:List aux)(ce:Int):Nat→(List Int)→Int→Option (List Int)
 | 0=>λ_ _=>none
 |m+1=>PY n parts ce (DF n parts ce m)
def PZ(parts:List aux)(ce:Int)(v9:List Int):Option (List Int):=DF n parts ce n v9 0
def P0(parts:List aux)(ce:Int)(ec:(List Int)→Int→Option (List Int))(v4:List Int)(v5:Int):Option (List Int):=cond (decide (v5<ce)) ( (DE n ([32,32,32,32]:aux) v4 ce).bind λbO=>ec bO.2 (auz (v5+1))) ( PZ n parts ce v4)
def DG(n:Nat)(parts:List aux)(ce:Int):Nat→(List Int)→Int→Option (List Int)
 | 0=>λ_ _=>none
 |m+1=>P0 n parts ce (DG n parts ce m)
def mx(parts:List aux)(b_:List Int)(ce:Int):Option (List Int):=DG n parts ce n b_ 0
def P1(s:Stmt)(b_:List Int)(ce:Int):Option (List Int):=(wL n s.Max).bind λr1=>(mx n ([([97,98,111,114,116,32]:aux),r1,([59]:aux)]:List aux) b_ ce).bind λr2=>some r2
def P2(n:Nat):auB:=some true
def P3(s:aux)(al:Int→auB)(v4:Int):auB:=cond (decide (v4<((s.length:Nat):Int))) ( ax (aL v4 s.length)<|ax ((decide ((((s.getD (v4).toNat 0).toNat:Nat):Int)<32))||aL v4 s.length)<|cond (cond (decide ((((s.getD (v4).toNat 0).toNat:Nat):Int)<32)) true (decide (126<(((s.getD (v4).toNat 0).toNat:Nat):Int)))) ( some false) ( al (auz (v4+1)))) ( P2 n)
def DH(n:Nat)(s:aux):Nat→Int→auB
 | 0=>λ_=>none
 |m+1=>P3 n s (DH n s m)
def P4(s:aux):auB:=DH n s n 0
def sS(n:Nat)(b_:List Int):Option (aux×(List Int)):=ax (nB b_&&decide (b_.length≤9223372036854775807))<|some (jV b_,b_)
def zm(n:Nat)(b_:List Int):Option Unit:=some ()
def rr(c:Int)(b_:List Int):Option (List Int):=(zm n b_).bind λr1=>ax (room (b_.length+([c]:List Int).length) 1)<|some (b_++([c]:List Int))
def P5(v25:List Int):Option (aux×Int):=(rr n 34 v25).bind λr26=>(sS n r26).bind λr27=>some (r27.1,0)
def P6(n:Nat)(al:(List Int)→Int→Option (aux×Int))(s:aux)(bC:Int)(c_:List Int):Option (aux×Int):=al c_ (auz (bC+1))
def Ix(al:(List Int)→Int→Option (aux×Int))(s:aux)(bC:Int)(cY:List Int):Option (aux×Int):=ax (aL bC s.length)<|(rr n (((s.getD (bC).toNat 0).toNat:Nat):Int) cY).bind λfE=>P6 n al s bC fE
def P7(s:aux)(al:(List Int)→Int→Option (aux×Int))(bE:List Int)(bC:Int):Option (aux×Int):=cond (decide (bC<((s.length:Nat):Int))) ( ax (aL bC s.length)<|ax ((decide ((((s.getD (bC).toNat 0).toNat:Nat):Int)=34))||aL bC s.length)<|cond (cond (decide ((((s.getD (bC).toNat 0).toNat:Nat):Int)=34)) true (decide ((((s.getD (bC).toNat 0).toNat:Nat):Int)=92))) ( (rr n 92 bE).bind λgt=>Ix n al s bC gt) ( Ix n al s bC bE)) ( P5 n bE)
def DI(n:Nat)(s:aux):Nat→(List Int)→Int→Option (aux×Int)
 | 0=>λ_ _=>none
 |m+1=>P7 n s (DI n s m)
def Iy(s:aux):Option (aux×Int):=cond (decide (64<((s.length:Nat):Int))) ( some (([]:aux),2)) ( (P4 n s).bind λr2=>cond (!r2) ( some (([]:aux),1)) ( (rr n 34 ([]:List Int)).bind λbx=>DI n s n bx 0))
def P8(n:Nat):auC:=some 9
def DJ(op:Int)(v3:Bool):auC:=cond v3 ( some 7) ( cond (decide (op=9)) ( some 8) ( P8 n))
def Iz(op:Int)(v2:Bool):auC:=cond v2 ( some 6) ( cond (decide (op=6)) ( DJ n op (decide (op=6))) ( cond (decide (op=7)) ( DJ n op (decide (op=7))) ( DJ n op (decide (op=8)))))
def uv(op:Int)(v1:Bool):auC:=cond v1 ( some 4) ( cond (decide (op=19)) ( some 5) ( cond (decide (op=4)) ( Iz n op (decide (op=4))) ( Iz n op (decide (op=5)))))
def DK(op:Int):auC:=cond (decide (op=17)) ( some 1) ( cond (decide (op=16)) ( some 2) ( cond (decide (op=18)) ( some 3) ( cond (decide (op=10)) ( uv n op (decide (op=10))) ( cond (decide (op=11)) ( uv n op (decide (op=11))) ( cond (decide (op=12)) ( uv n op (decide (op=12))) ( cond (decide (op=13)) ( uv n op (decide (op=13))) ( cond (decide (op=14)) ( uv n op (decide (op=14))) ( uv n op (decide (op=15))))))))))
def IA(n:Nat)(op:Int):Option aux:=cond (decide (op=17)) ( some ([111,114]:aux)) ( cond (decide (op=16)) ( some ([97,110,100]:aux)) ( cond (decide (op=10)) ( some ([61,61]:aux)) ( cond (decide (op=11)) ( some ([33,61]:aux)) ( cond (decide (op=12)) ( some ([60]:aux)) ( cond (decide (op=13)) ( some ([60,61]:aux)) ( cond (decide (op=14)) ( some ([62]:aux)) ( cond (decide (op=15)) ( some ([62,61]:aux)) ( cond (decide (op=19)) ( some ([43,43]:aux)) ( cond (decide (op=4)) ( some ([43]:aux)) ( cond (decide (op=5)) ( some ([45]:aux)) ( cond (decide (op=6)) ( some ([42]:aux)) ( cond (decide (op=7)) ( some ([47]:aux)) ( some ([37]:aux))))))))))))))
def IB(n:Nat)(op:Int):Option aux:=cond (decide (op=20)) ( some ([116,101,120,116]:aux)) ( cond (decide (op=21)) ( some ([108,101,110]:aux)) ( cond (decide (op=22)) ( some ([103,101,116,105,110,116]:aux)) ( cond (decide (op=23)) ( some ([103,101,116,115,116,114]:aux)) ( cond (decide (op=24)) ( some ([104,97,115]:aux)) ( cond (decide (op=25)) ( some ([110,111,119]:aux)) ( cond (decide (op=26)) ( some ([114,97,110,100,111,109]:aux)) ( cond (decide (op=27)) ( some ([110,111,100,101]:aux)) ( some ([]:aux)))))))))
def IC(ru:Expr→Option aux)(oF:Expr→Int→Option aux)(e:Expr):Option aux:=(DK n e.Op).bind λr1=>cond (decide (e.Op=1)) ( (wL n e.N).bind λr3=>some r3) ( cond (decide (e.Op=2)) ( (Iy n e.S).bind λb'=>some b'.1) ( cond (decide (e.Op=3)) ( some e.S) ( cond (decide (e.Op=18)) ( ax (aL 0 e.ar.length)<|(oF (e.ar.getD 0 default) r1).bind λcR=>ax (b0 (([110,111,116,32]:aux).length+cR.length))<|some (([110,111,116,32]:aux)++cR)) ( cond (decide (e.Op=9)) ( ax (aL 0 e.ar.length)<|(oF (e.ar.getD 0 default) r1).bind λdS=>ax (b0 (([45]:aux).length+dS.length))<|some (([45]:aux)++dS)) ( cond (cond (decide (r1=9)) (decide (((e.ar.length:Nat):Int)=0)) false) ( (IB n e.Op).bind λeH=>ax (b0 (eH.length+([40,41]:aux).length))<|some (eH++([40,41]:aux))) ( cond (decide (r1=9)) ( (IB n e.Op).bind λfq=>ax (b0 (fq.length+([40]:aux).length))<|ax (aL 0 e.ar.length)<|(ru (e.ar.getD 0 default)).bind λet=>ax (b0 ((fq++([40]:aux)).length+et.length))<|ax (b0 (((fq++([40]:aux))++et).length+([41]:aux).length))<|some (((fq++([40]:aux))++et)++([41]:aux))) ( cond (decide (r1=4)) ( ax (aL 0 e.ar.length)<|(oF (e.ar.getD 0 default) 5).bind λr27=>ax (b0 (r27.length+([32]:aux).length))<|(IA n e.Op).bind λfK=>ax (b0 ((r27++([32]:aux)).length+fK.length))<|ax (b0 (((r27++([32]:aux))++fK).length+([32]:aux).length))<|ax (aL 1 e.ar.length)<|(oF (e.ar.getD 1 default) 5).bind λpj=>ax (b0 ((((r27++([32]:aux))++fK)++([32]:aux)).length+pj.length))<|some ((((r27++([32]:aux))++fK)++([32]:aux))++pj)) ( ax (aL 0 e.ar.length)<|(oF (e.ar.getD 0 default) r1).bind λoG=>ax (b0 (oG.length+([32]:aux).length))<|(IA n e.Op).bind λqj=>ax (b0 ((oG++([32]:aux)).length+qj.length))<|ax (b0 (((oG++([32]:aux))++qj).length+([32]:aux).length))<|ax (aL 1 e.ar.length)<|(oF (e.ar.getD 1 default) (auz (r1+1))).bind λhQ=>ax (b0 ((((oG++([32]:aux))++qj)++([32]:aux)).length+hQ.length))<|some ((((oG++([32]:aux))++qj)++([32]:aux))++hQ)))))))))
def ID(ru:Expr→Option aux)(oF:Expr→Int→Option aux)(e:Expr)(least:Int):Option aux:=(DK n e.Op).bind λr1=>cond (decide (r1<least)) ( (ru e).bind λr3=>ax (b0 (([40]:aux).length+r3.length))<|ax (b0 ((([40]:aux)++r3).length+([41]:aux).length))<|some ((([40]:aux)++r3)++([41]:aux))) ( (ru e).bind λbO=>some bO)
def zn:Nat→(Expr→Option aux)×(Expr→Int→Option aux)
 | 0=>(λ_=>none,λ_ _=>none)
 |m+1=>(IC m ((zn m).1) ((zn m).2),ID m ((zn m).1) ((zn m).2))
def l':Expr→Option aux:=(zn n).1
def wM:Expr→Int→Option aux:=(zn n).2
def P9(s:Stmt)(b_:List Int)(ce:Int):Option (List Int):=(l' n (⟨s.A.Op,s.A.N,s.A.S,s.A.ar⟩:Expr)).bind λr1=>(mx n ([s.Name,([32,61,32]:aux),r1,([59]:aux)]:List aux) b_ ce).bind λr2=>some r2
def P'(s:Stmt)(b_:List Int)(ce:Int):Option (List Int):=(l' n (⟨s.A.Op,s.A.N,s.A.S,s.A.ar⟩:Expr)).bind λr1=>(mx n ([([108,101,116,32]:aux),s.Name,([32,61,32]:aux),r1,([59]:aux)]:List aux) b_ ce).bind λr2=>some r2
def P_(s:Stmt)(b_:List Int)(ce:Int):Option (List Int):=(l' n (⟨s.A.Op,s.A.N,s.A.S,s.A.ar⟩:Expr)).bind λr1=>(mx n ([([101,109,105,116,32]:aux),r1,([59]:aux)]:List aux) b_ ce).bind λr2=>some r2
def Qa(s:Stmt)(b_:List Int)(ce:Int):Option (List Int):=(l' n (⟨s.A.Op,s.A.N,s.A.S,s.A.ar⟩:Expr)).bind λr1=>(l' n (⟨s.B.Op,s.B.N,s.B.S,s.B.ar⟩:Expr)).bind λr2=>(mx n ([([112,117,116,32]:aux),r1,([32,61,32]:aux),r2,([59]:aux)]:List aux) b_ ce).bind λr3=>some r3
def Qb(s:Stmt)(b_:List Int)(ce:Int):Option (List Int):=(l' n (⟨s.A.Op,s.A.N,s.A.S,s.A.ar⟩:Expr)).bind λr1=>(mx n ([([100,101,108,101,116,101,32]:aux),r1,([59]:aux)]:List aux) b_ ce).bind λr2=>some r2
def Qc(n:Nat)(ic:(List Stmt)→(List Int)→Int→Option ((List Int)×Int))(iE:Stmt→(List Int)→Int→Option ((List Int)×Int))(iF:Stmt→(List Int)→Int→Option ((List Int)×Int))(m':List Int)(gZ:Int):Option ((List Int)×Int):=some (m',(auz (gZ-1)))
def Qd(ic:(List Stmt)→(List Int)→Int→Option ((List Int)×Int))(iE:Stmt→(List Int)→Int→Option ((List Int)×Int))(iF:Stmt→(List Int)→Int→Option ((List Int)×Int))(l:List Stmt)(al:(List Int)→Int→Int→Option ((List Int)×Int))(bC:List Int)(dK:Int)(a1:Int):Option ((List Int)×Int):=cond (decide (a1<((l.length:Nat):Int))) ( ax (aL a1 l.length)<|(rq n ((auA l a1).Op)).bind λfq=>ik.on fq (λaic=>(P' n (⟨(auA l a1).Op,(auA l a1).Name,(auA l a1).Max,⟨((auA l a1).A).Op,((auA l a1).A).N,((auA l a1).A).S,((auA l a1).A).ar⟩,⟨((auA l a1).B).Op,((auA l a1).B).N,((auA l a1).B).S,((auA l a1).B).ar⟩,(auA l a1).Body,(auA l a1).bz⟩:Stmt) bC dK).bind λfE=>al fE dK (auz (a1+1))) (λYq=>ik.on Yq (λaid=>(P9 n (⟨(auA l a1).Op,(auA l a1).Name,(auA l a1).Max,⟨((auA l a1).A).Op,((auA l a1).A).N,((auA l a1).A).S,((auA l a1).A).ar⟩,⟨((auA l a1).B).Op,((auA l a1).B).N,((auA l a1).B).S,((auA l a1).B).ar⟩,(auA l a1).Body,(auA l a1).bz⟩:Stmt) bC dK).bind λet=>al et dK (auz (a1+1))) (λYr=>ik.on Yr (λaie=>(Qa n (⟨(auA l a1).Op,(auA l a1).Name,(auA l a1).Max,⟨((auA l a1).A).Op,((auA l a1).A).N,((auA l a1).A).S,((auA l a1).A).ar⟩,⟨((auA l a1).B).Op,((auA l a1).B).N,((auA l a1).B).S,((auA l a1).B).ar⟩,(auA l a1).Body,(auA l a1).bz⟩:Stmt) bC dK).bind λfu=>al fu dK (auz (a1+1))) (λYs=>ik.on Ys (λaif=>(Qb n (⟨(auA l a1).Op,(auA l a1).Name,(auA l a1).Max,⟨((auA l a1).A).Op,((auA l a1).A).N,((auA l a1).A).S,((auA l a1).A).ar⟩,⟨((auA l a1).B).Op,((auA l a1).B).N,((auA l a1).B).S,((auA l a1).B).ar⟩,(auA l a1).Body,(auA l a1).bz⟩:Stmt) bC dK).bind λr24=>al r24 dK (auz (a1+1))) (λYt=>ik.on Yt (λaig=>(iE (⟨(auA l a1).Op,(auA l a1).Name,(auA l a1).Max,⟨((auA l a1).A).Op,((auA l a1).A).N,((auA l a1).A).S,((auA l a1).A).ar⟩,⟨((auA l a1).B).Op,((auA l a1).B).N,((auA l a1).B).S,((auA l a1).B).ar⟩,(auA l a1).Body,(auA l a1).bz⟩:Stmt) bC dK).bind λf_=>al f_.1 f_.2 (auz (a1+1))) (λYu=>ik.on Yu (λaih=>(iF (⟨(auA l a1).Op,(auA l a1).Name,(auA l a1).Max,⟨((auA l a1).A).Op,((auA l a1).A).N,((auA l a1).A).S,((auA l a1).A).ar⟩,⟨((auA l a1).B).Op,((auA l a1).B).N,((auA l a1).B).S,((auA l a1).B).ar⟩,(auA l a1).Body,(auA l a1).bz⟩:Stmt) bC dK).bind λr26=>al r26.1 r26.2 (auz (a1+1))) (λYv=>ik.on Yv (λaii=>(P_ n (⟨(auA l a1).Op,(auA l a1).Name,(auA l a1).Max,⟨((auA l a1).A).Op,((auA l a1).A).N,((auA l a1).A).S,((auA l a1).A).ar⟩,⟨((auA l a1).B).Op,((auA l a1).B).N,((auA l a1).B).S,((auA l a1).B).ar⟩,(auA l a1).Body,(auA l a1).bz⟩:Stmt) bC dK).bind λr27=>al r27 dK (auz (a1+1))) (λaij=>(P1 n (⟨(auA l a1).Op,(auA l a1).Name,(auA l a1).Max,⟨((auA l a1).A).Op,((auA l a1).A).N,((auA l a1).A).S,((auA l a1).A).ar⟩,⟨((auA l a1).B).Op,((auA l a1).B).N,((auA l a1).B).S,((auA l a1).B).ar⟩,(auA l a1).Body,(auA l a1).bz⟩:Stmt) bC dK).bind λpk=>al pk dK (auz (a1+1)))))))))) ( Qc n ic iE iF bC dK)
def DL(n:Nat)(ic:(List Stmt)→(List Int)→Int→Option ((List Int)×Int))(iE:Stmt→(List Int)→Int→Option ((List Int)×Int))(iF:Stmt→(List Int)→Int→Option ((List Int)×Int))(l:List Stmt):Nat→(List Int)→Int→Int→Option ((List Int)×Int)
 | 0=>λ_ _ _=>none
 |m+1=>Qd n ic iE iF l (DL n ic iE iF l m)
def IE(ic:(List Stmt)→(List Int)→Int→Option ((List Int)×Int))(iE:Stmt→(List Int)→Int→Option ((List Int)×Int))(iF:Stmt→(List Int)→Int→Option ((List Int)×Int))(l:List Stmt)(b_:List Int)(ce:Int):Option ((List Int)×Int):=DL n ic iE iF l n b_ (auz (ce+1)) 0
def IF(ic:(List Stmt)→(List Int)→Int→Option ((List Int)×Int))(iE:Stmt→(List Int)→Int→Option ((List Int)×Int))(iF:Stmt→(List Int)→Int→Option ((List Int)×Int))(v6:List Int)(bB:Int):Option ((List Int)×Int):=(mx n ([([125]:aux)]:List aux) v6 bB).bind λcW=>some (cW,bB)
def IG(ic:(List Stmt)→(List Int)→Int→Option ((List Int)×Int))(iE:Stmt→(List Int)→Int→Option ((List Int)×Int))(iF:Stmt→(List Int)→Int→Option ((List Int)×Int))(s:Stmt)(b_:List Int)(ce:Int):Option ((List Int)×Int):=(l' n (⟨s.A.Op,s.A.N,s.A.S,s.A.ar⟩:Expr)).bind λr1=>(mx n ([([105,102,32]:aux),r1,([32,123]:aux)]:List aux) b_ ce).bind λr2=>(ic s.Body r2 ce).bind λr3=>cond (decide (0<((s.bz.length:Nat):Int))) ( (mx n ([([125,32,101,108,115,101,32,123]:aux)]:List aux) r3.1 r3.2).bind λbx=>(ic s.bz bx r3.2).bind λb'=>IF n ic iE iF b'.1 b'.2) ( IF n ic iE iF r3.1 r3.2)
def IH(ic:(List Stmt)→(List Int)→Int→Option ((List Int)×Int))(iE:Stmt→(List Int)→Int→Option ((List Int)×Int))(iF:Stmt→(List Int)→Int→Option ((List Int)×Int))(s:Stmt)(b_:List Int)(ce:Int):Option ((List Int)×Int):=(l' n (⟨s.A.Op,s.A.N,s.A.S,s.A.ar⟩:Expr)).bind λr1=>(l' n (⟨s.B.Op,s.B.N,s.B.S,s.B.ar⟩:Expr)).bind λr2=>(wL n s.Max).bind λr3=>(mx n ([([102,111,114,32]:aux),s.Name,([32,61,32]:aux),r1,([32,116,111,32]:aux),r2,([32,109,97,120,32]:aux),r3,([32,123]:aux)]:List aux) b_ ce).bind λbx=>(ic s.Body bx ce).bind λb'=>(mx n ([([125]:aux)]:List aux) b'.1 b'.2).bind λbO=>some (bO,b'.2)
def pm:Nat→((List Stmt)→(List Int)→Int→Option ((List Int)×Int))×(Stmt→(List Int)→Int→Option ((List Int)×Int))×(Stmt→(List Int)→Int→Option ((List Int)×Int))
 | 0=>(λ_ _ _=>none,λ_ _ _=>none,λ_ _ _=>none)
 |m+1=>(IE m ((pm m).1) ((pm m).2.1) ((pm m).2.2),IG m ((pm m).1) ((pm m).2.1) ((pm m).2.2),IH m ((pm m).1) ((pm m).2.1) ((pm m).2.2))
def rv:(List Stmt)→(List Int)→Int→Option ((List Int)×Int):=(pm n).1
def wN:Stmt→(List Int)→Int→Option ((List Int)×Int):=(pm n).2.1
def wO:Stmt→(List Int)→Int→Option ((List Int)×Int):=(pm n).2.2
def II(n:Nat)(b_:List Int)(ce:Int):Option (aux×(List Int)):=ax (nB b_&&decide (b_.length≤9223372036854775807))<|some (jV b_,b_)
def Qe(p:bb)(cY:List aux):Option aux:=(H0 n cY ([44,32]:aux)).bind λeQ=>(mx n ([([112,114,111,99,32]:aux),p.Name,([40]:aux),eQ,([41,32,123]:aux)]:List aux) ([]:List Int) 0).bind λfE=>(rv n p.Body fE 0).bind λet=>(mx n ([([125]:aux)]:List aux) et.1 et.2).bind λfu=>(II n fu et.2).bind λr24=>some r24.1
def Qf(p:bb)(al:Int→(List aux)→Option aux)(v10:Int)(v11:List aux):Option aux:=cond (decide (v10<((p.Params.length:Nat):Int))) ( ax (aL v10 p.Params.length)<|ax (b0 (((auA p.Params v10).Name).length+([58,32]:aux).length))<|(Iv n ((auA p.Params v10).fi)).bind λeZ=>ax (b0 ((((auA p.Params v10).Name)++([58,32]:aux)).length+eZ.length))<|ax (room (v11.length+([((((auA p.Params v10).Name)++([58,32]:aux))++eZ)]:List aux).length) 16)<|al (auz (v10+1)) (v11++([((((auA p.Params v10).Name)++([58,32]:aux))++eZ)]:List aux))) ( Qe n p v11)
def DM(n:Nat)(p:bb):Nat→Int→(List aux)→Option aux
 | 0=>λ_ _=>none
 |m+1=>Qf n p (DM n p m)
def uw(p:bb):Option aux:=(DD n p).bind λr1=>cond (!decide (r1=0)) ( some ([]:aux)) ( DM n p n 0 ([]:List aux))
def DN(n:Nat)(next:Int):auC:=some (cond (decide ((auz (next-1))<8)) (auz (next-1)) 8)
def Qg(n:Nat):auB:=some false
def Qh(n:Nat):auB:=some true
def IJ(o:Outcome)(ef:Int→auB)(v4:Int):auB:=cond (decide (v4<((o.Out.length:Nat):Int))) ( ax (aL v4 o.Out.length)<|(sR n (auA o.Out v4)).bind λbO=>cond (cond (!bO) true (decide ((auA o.Out v4).Kind=0))) ( some false) ( ef (auz (v4+1)))) ( Qh n)
def wP(n:Nat)(o:Outcome):Nat→Int→auB
 | 0=>λ_=>none
 |m+1=>IJ n o (wP n o m)
def DO(o:Outcome):auB:=cond (decide (o.Status=1)) ( cond (cond (!decide (o.Code=0)) true (decide (16<((o.Out.length:Nat):Int)))) ( some false) ( wP n o n 0)) ( cond (decide (o.Status=2)) ( some (cond (cond (decide (0≤o.Code)) (decide (o.Code≤1009)) false) (decide (((o.Out.length:Nat):Int)=0)) false)) ( Qg n))
def Qi(n:Nat):auB:=some true
def IK(s:bL)(al:Int→auB)(v6:Int):auB:=cond (decide (v6<((s.bJ.length:Nat):Int))) ( ax (aL v6 s.bJ.length)<|Option.bind (cond (!(!((decide ((auA s.bJ v6).Client=s.Client))&&((decide ((auA s.bJ v6).Seq=(auz ((auz (s.Next-((s.bJ.length:Nat):Int)))+v6))))&&true)))) (DO n (⟨((auA s.bJ v6).Outcome).Status,((auA s.bJ v6).Outcome).Code,((auA s.bJ v6).Outcome).Out⟩:Outcome)) (some default)) λcW=>cond (cond (!((decide ((auA s.bJ v6).Client=s.Client))&&((decide ((auA s.bJ v6).Seq=(auz ((auz (s.Next-((s.bJ.length:Nat):Int)))+v6))))&&true))) true (!cW)) ( some false) ( al (auz (v6+1)))) ( Qi n)
def zo(n:Nat)(s:bL):Nat→Int→auB
 | 0=>λ_=>none
 |m+1=>IK n s (zo n s m)
def IL(s:bL):auB:=Option.bind (cond (!(cond (cond (cond (decide (s.Client<1)) true (decide (32<s.Client))) true (decide (s.Next<1))) true (decide (1099511627776<s.Next)))) (DN n s.Next) (some default)) λr1=>cond (cond (cond (cond (cond (decide (s.Client<1)) true (decide (32<s.Client))) true (decide (s.Next<1))) true (decide (1099511627776<s.Next))) true (!decide (((s.bJ.length:Nat):Int)=r1))) ( some false) ( zo n s n 0)
def Qj(n:Nat):auB:=some true
def IM(l:List bL)(al:Int→auB)(v5:Int):auB:=cond (decide (v5<((l.length:Nat):Int))) ( ax (aL v5 l.length)<|(IL n (auA l v5)).bind λcU=>ax ((!cU)||(!(decide (0<v5))||aL (auz (v5-1)) l.length))<|cond (cond (!cU) true (cond (decide (0<v5)) (decide ((auA l v5).Client≤(auA l (auz (v5-1))).Client)) false)) ( some false) ( al (auz (v5+1)))) ( Qj n)
def zp(n:Nat)(l:List bL):Nat→Int→auB
 | 0=>λ_=>none
 |m+1=>IM n l (zp n l m)
def sT(l:List bL):auB:=zp n l n 0
def km(s:aux)(b_:List Int):Option (Int×(List Int)):=(zm n b_).bind λr1=>ax (room (b_.length+s.length) 1)<|some (((s.length:Nat):Int),(b_++s.map λb=>(b.toNat:Int)))
def Qk(IN:List Int):Option aux:=(sS n IN).bind λYw=>some Yw.1
def Ql(n:Nat)(al:(List Int)→Int→Option aux)(l:List bL)(fj:Int)(IP:List Int):Option aux:=al IP (auz (fj+1))
def Qm(n:Nat)(ec:(List Int)→Int→Option aux)(al:(List Int)→Int→Option aux)(l:List bL)(fj:Int)(iG:Int)(v109:List Int):Option aux:=ec v109 (auz (iG+1))
def IQ(ec:(List Int)→Int→Option aux)(al:(List Int)→Int→Option aux)(l:List bL)(fj:Int)(iG:Int)(rx:(List Int)→Int→Option aux)(DP:List Int)(wQ:Int):Option aux:=cond (decide (wQ<(((((((auA l fj).bJ).getD (iG).toNat default).Outcome).Out).length:Nat):Int))) ( ax (aL wQ (((((auA l fj).bJ).getD (iG).toNat default).Outcome).Out).length)<|(wF n ((((((auA l fj).bJ).getD (iG).toNat default).Outcome).Out).getD (wQ).toNat default)).bind λux=>(km n ux DP).bind λYx=>rx Yx.2 (auz (wQ+1))) ( Qm n ec al l fj iG DP)
def wR(n:Nat)(ec:(List Int)→Int→Option aux)(al:(List Int)→Int→Option aux)(l:List bL)(fj:Int)(iG:Int):Nat→(List Int)→Int→Option aux
 | 0=>λ_ _=>none
 |m+1=>IQ n ec al l fj iG (wR n ec al l fj iG m)
def IR(al:(List Int)→Int→Option aux)(l:List bL)(fj:Int)(ec:(List Int)→Int→Option aux)(DQ:List Int)(iG:Int):Option aux:=cond (decide (iG<((((auA l fj).bJ).length:Nat):Int))) ( ax (aL iG ((auA l fj).bJ).length)<|(h1 n (IntKind.u64.wrap (((((auA l fj).bJ).getD (iG).toNat default).Outcome).Status))).bind λzq=>(h1 n (IntKind.u64.wrap (((((auA l fj).bJ).getD (iG).toNat default).Outcome).Code))).bind λwS=>ax (b0 (zq.length+wS.length))<|(h1 n (IntKind.u64.wrap (((((((auA l fj).bJ).getD (iG).toNat default).Outcome).Out).length:Nat):Int))).bind λQn=>ax (b0 ((zq++wS).length+Qn.length))<|(km n ((zq++wS)++Qn) DQ).bind λIS=>wR n ec al l fj iG n IS.2 0) ( Ql n al l fj DQ)
def wT(n:Nat)(al:(List Int)→Int→Option aux)(l:List bL)(fj:Int):Nat→(List Int)→Int→Option aux
 | 0=>λ_ _=>none
 |m+1=>IR n al l fj (wT n al l fj m)
def IT(l:List bL)(al:(List Int)→Int→Option aux)(v59:List Int)(fj:Int):Option aux:=cond (decide (fj<((l.length:Nat):Int))) ( ax (aL fj l.length)<|(h1 n (IntKind.u64.wrap ((auA l fj).Client))).bind λQo=>(h1 n (IntKind.u64.wrap ((auA l fj).Next))).bind λDR=>ax (b0 (Qo.length+DR.length))<|(km n (Qo++DR) v59).bind λuy=>wT n al l fj n uy.2 0) ( Qk n v59)
def zr(n:Nat)(l:List bL):Nat→(List Int)→Int→Option aux
 | 0=>λ_ _=>none
 |m+1=>IT n l (zr n l m)
def DS(l:List bL):Option aux:=(sT n l).bind λr1=>cond (!r1) ( some ([]:aux)) ( (h1 n (IntKind.u64.wrap ((l.length:Nat):Int))).bind λr3=>(km n r3 ([]:List Int)).bind λbx=>zr n l n bx.2 0)
def Qp(cY:List Int):Option aux:=(sS n cY).bind λeQ=>some eQ.1
def IU(l:List bo)(al:(List Int)→Int→Option aux)(v10:List Int)(v11:Int):Option aux:=cond (decide (v11<((l.length:Nat):Int))) ( ax (aL v11 l.length)<|(qh n ((auA l v11).Key)).bind λdS=>(km n dS v10).bind λeZ=>(wF n (⟨((auA l v11).br).Kind,((auA l v11).br).N,((auA l v11).br).S⟩:bq)).bind λdT=>(km n dT eZ.2).bind λeH=>al eH.2 (auz (v11+1))) ( Qp n v10)
def zt(n:Nat)(l:List bo):Nat→(List Int)→Int→Option aux
 | 0=>λ_ _=>none
 |m+1=>IU n l (zt n l m)
def IV(l:List bo):Option aux:=(h1 n (IntKind.u64.wrap ((l.length:Nat):Int))).bind λr1=>(km n r1 ([]:List Int)).bind λr2=>zt n l n r2.2 0
def DT(ah:bU)(IW:List Int):Option aux:=(y' n ah.Queue).bind λDU=>(km n DU IW).bind λoH=>(h1 n ah.de).bind λry=>(km n ry oH.2).bind λIX=>(sS n IX.2).bind λDV=>some DV.1
def IY(ah:bU)(ef:(List Int)→Int→Option aux)(DW:List Int)(v37:Int):Option aux:=cond (decide (v37<((ah.bh.length:Nat):Int))) ( ax (aL v37 ah.bh.length)<|(qh n ((auA ah.bh v37).Key)).bind λzu=>(km n zu DW).bind λwU=>(rp n ((auA ah.bh v37).Count)).bind λnF=>(km n nF wU.2).bind λhQ=>ef hQ.2 (auz (v37+1))) ( DT n ah DW)
def zv(n:Nat)(ah:bU):Nat→(List Int)→Int→Option aux
 | 0=>λ_ _=>none
 |m+1=>IY n ah (zv n ah m)
def zw(ah:bU)(c_:List Int):Option aux:=(DS n ah.cJ).bind λfu=>(km n fu c_).bind λr24=>(Dx n ah.Place).bind λf_=>(km n f_ r24.2).bind λr26=>(h1 n (IntKind.u64.wrap ((ah.bh.length:Nat):Int))).bind λr27=>(km n r27 r26.2).bind λpk=>zv n ah n pk.2 0
def IZ(ah:bU)(ec:(List Int)→Int→Option aux)(bE:List Int)(bC:Int):Option aux:=cond (decide (bC<((ah.cc.length:Nat):Int))) ( ax (aL bC ah.cc.length)<|(uw n (auA ah.cc bC)).bind λe0=>(qh n e0).bind λgt=>(km n gt bE).bind λfq=>ec fq.2 (auz (bC+1))) ( zw n ah bE)
def zx(n:Nat)(ah:bU):Nat→(List Int)→Int→Option aux
 | 0=>λ_ _=>none
 |m+1=>IZ n ah (zx n ah m)
def sU(ah:bU):Option aux:=(wJ n ah.az ah.Pos).bind λr1=>(rp n ah.Pos).bind λr2=>(km n r2 ([]:List Int)).bind λr3=>(IV n r1.1).bind λbx=>(km n bx r3.2).bind λb'=>(h1 n (IntKind.u64.wrap ((ah.cc.length:Nat):Int))).bind λbO=>(km n bO b'.2).bind λcU=>zx n ah n cU.2 0
def Qq(n:Nat)(l:List bh):auB:=some (decide (((l.length:Nat):Int)≤32))
def I0(l:List bh)(al:Int→auB)(v5:Int):auB:=cond (decide (v5<((l.length:Nat):Int))) ( ax (aL v5 l.length)<|(wE n ((auA l v5).Key)).bind λcU=>ax ((cond (cond (!cU) true (decide ((auA l v5).Count<1))) true (decide (1099511627776<(auA l v5).Count)))||(!(decide (0<v5))||aL (auz (v5-1)) l.length))<|cond (cond (cond (cond (!cU) true (decide ((auA l v5).Count<1))) true (decide (1099511627776<(auA l v5).Count))) true (cond (decide (0<v5)) (!(Op.bytesLess ((auA l (auz (v5-1))).Key) ((auA l v5).Key))) false)) ( some false) ( al (auz (v5+1)))) ( Qq n l)
def zy(n:Nat)(l:List bh):Nat→Int→auB
 | 0=>λ_=>none
 |m+1=>I0 n l (zy n l m)
def I1(l:List bh):auB:=zy n l n 0
def Qr(n:Nat):auB:=some true
def I2(l:List bb)(al:Int→auB)(v6:Int):auB:=cond (decide (v6<((l.length:Nat):Int))) ( ax (aL v6 l.length)<|(uw n (auA l v6)).bind λcW=>ax ((cond (decide (cW=([]:aux))) true (decide (16384<((cW.length:Nat):Int))))||(!(decide (0<v6))||aL (auz (v6-1)) l.length))<|cond (cond (cond (decide (cW=([]:aux))) true (decide (16384<((cW.length:Nat):Int)))) true (cond (decide (0<v6)) ((Op.bytesLess ((auA l v6).Name) ((auA l (auz (v6-1))).Name))||(decide (((auA l v6).Name)=((auA l (auz (v6-1))).Name)))) false)) ( some false) ( al (auz (v6+1)))) ( Qr n)
def zz(n:Nat)(l:List bb):Nat→Int→auB
 | 0=>λ_=>none
 |m+1=>I2 n l (zz n l m)
def I3(l:List bb):auB:=cond (decide (16<((l.length:Nat):Int))) ( some false) ( zz n l n 0)
def Qs(n:Nat)(s:aux):auB:=some (decide (((s.length:Nat):Int)≤24))
def I4(s:aux)(al:Int→auB)(v4:Int):auB:=cond (decide (v4<((s.length:Nat):Int))) ( ax (aL v4 s.length)<|ax ((decide ((((s.getD (v4).toNat 0).toNat:Nat):Int)<33))||aL v4 s.length)<|cond (cond (decide ((((s.getD (v4).toNat 0).toNat:Nat):Int)<33)) true (decide (126<(((s.getD (v4).toNat 0).toNat:Nat):Int)))) ( some false) ( al (auz (v4+1)))) ( Qs n s)
def zA(n:Nat)(s:aux):Nat→Int→auB
 | 0=>λ_=>none
 |m+1=>I4 n s (zA n s m)
def DX(s:aux):auB:=zA n s n 0
def Qt(n:Nat)(x:Part)(ae:Int):auB:=some (decide (x.Id=ae))
def Qu(n:Nat)(ae:Int):auC:=some (-1)
def I5(s:List Part)(ae:Int)(al:Int→auC)(v4:Int):auC:=cond (decide (v4<((s.length:Nat):Int))) ( ax (aL v4 s.length)<|(Qt n (auA s v4) ae).bind λbO=>cond bO ( some v4) ( al (auz (v4+1)))) ( Qu n ae)
def zB(n:Nat)(s:List Part)(ae:Int):Nat→Int→auC
 | 0=>λ_=>none
 |m+1=>I5 n s ae (zB n s ae m)
def Qv(s:List Part)(ae:Int):auC:=zB n s ae n 0
def Qw(l:List Part)(id:Int):auC:=(Qv n l id).bind λr1=>some r1
def DY(n:Nat)(fx:Int):auB:=some (cond (decide (1≤fx)) (decide (fx≤16)) false)
def Qx(n:Nat)(fx:Int):auB:=some (cond (decide (1≤fx)) (decide (fx≤1099511627776)) false)
def I6(l:List Part)(i:Int):auB:=ax (aL i l.length)<|cond (decide ((auA l i).ft=0)) ( some (decide (((auA l i).gI)=([]:aux)))) ( (DY n ((auA l i).ft)).bind λr3=>Option.bind (cond (cond r3 (!decide ((auA l i).ft=(auA l i).Node)) false) (DX n ((auA l i).gI)) (some default)) λbx=>ax (!(cond (cond (cond r3 (!decide ((auA l i).ft=(auA l i).Node)) false) bx false) (!(Op.bytesLess ((auA l i).gI) ((auA l i).dY))) false)||((decide ((auz (i+1))=((l.length:Nat):Int)))||aL (auz (i+1)) l.length))<|some (cond (cond (cond (cond r3 (!decide ((auA l i).ft=(auA l i).Node)) false) bx false) (!(Op.bytesLess ((auA l i).gI) ((auA l i).dY))) false) (cond (decide ((auz (i+1))=((l.length:Nat):Int))) true (Op.bytesLess ((auA l i).gI) ((auA l (auz (i+1))).dY))) false))
def Qy(n:Nat):auB:=some true
def I7(p:b7)(al:Int→auB)(v12:Int):auB:=cond (decide (v12<((p.aD.length:Nat):Int))) ( ax (aL v12 p.aD.length)<|Option.bind (cond (decide (0<v12)) (DX n ((auA p.aD v12).dY)) (some default)) λeZ=>ax (!(decide (0<v12))||((!eZ)||aL (auz (v12-1)) p.aD.length))<|cond (cond (decide (0<v12)) (cond (!eZ) true ((Op.bytesLess ((auA p.aD v12).dY) ((auA p.aD (auz (v12-1))).dY))||(decide (((auA p.aD v12).dY)=((auA p.aD (auz (v12-1))).dY))))) false) ( some false) ( (Qx n ((auA p.aD v12).Id)).bind λeH=>Option.bind (cond (!(!eH)) (DY n ((auA p.aD v12).Node)) (some default)) λe0=>Option.bind (cond (!(cond (!eH) true (!e0))) (I6 n p.aD v12) (some default)) λgt=>ax ((cond (cond (!eH) true (!e0)) true (!gt))||ho v12 p.aD.length)<|Option.bind (cond (!(cond (cond (!eH) true (!e0)) true (!gt))) (Qw n (p.aD.take (v12).toNat) ((auA p.aD v12).Id)) (some default)) λeQ=>cond (cond (cond (cond (!eH) true (!e0)) true (!gt)) true (decide (0≤eQ))) ( some false) ( al (auz (v12+1))))) ( Qy n)
def wV(n:Nat)(p:b7):Nat→Int→auB
 | 0=>λ_=>none
 |m+1=>I7 n p (wV n p m)
def DZ(p:b7):auB:=ax ((cond (cond (cond (decide (p.Version<0)) true (decide (1099511627776<p.Version))) true (decide (((p.aD.length:Nat):Int)<1))) true (decide (16<((p.aD.length:Nat):Int))))||aL 0 p.aD.length)<|cond (cond (cond (cond (cond (decide (p.Version<0)) true (decide (1099511627776<p.Version))) true (decide (((p.aD.length:Nat):Int)<1))) true (decide (16<((p.aD.length:Nat):Int)))) true (!(decide (((p.aD.getD 0 default).dY)=([]:aux))))) ( some false) ( wV n p n 0)
def Qz(ah:bU):auB:=(sT n ah.cJ).bind λb5=>Option.bind (cond b5 (DZ n ah.Place) (some default)) λeV=>Option.bind (cond (cond b5 eV false) (I1 n ah.bh) (some default)) λdS=>some (cond (cond b5 eV false) dS false)
def I8(ah:bU)(al:Int→auB)(bB:Int):auB:=cond (decide (bB<((ah.Queue.length:Nat):Int))) ( ax (aL bB ah.Queue.length)<|(oE n (⟨(auA ah.Queue bB).Client,(auA ah.Queue bB).Seq,(auA ah.Queue bB).bb,(auA ah.Queue bB).ar,(auA ah.Queue bB).ez,⟨((auA ah.Queue bB).bk).dH,((auA ah.Queue bB).bk).Reads,((auA ah.Queue bB).bk).cm⟩⟩:Request)).bind λcR=>cond (!decide (cR=0)) ( some false) ( al (auz (bB+1)))) ( Qz n ah)
def wW(n:Nat)(ah:bU):Nat→Int→auB
 | 0=>λ_=>none
 |m+1=>I8 n ah (wW n ah m)
def rz(ah:bU):auB:=Option.bind (cond (!(cond (decide (ah.Pos<0)) true (decide (1099511627776<ah.Pos)))) (wG n ah.az) (some default)) λr1=>Option.bind (cond (!(cond (cond (cond (decide (ah.Pos<0)) true (decide (1099511627776<ah.Pos))) true (!r1)) true (!decide (ah.az.b2=ah.Pos)))) (I3 n ah.cc) (some default)) λr2=>cond (cond (cond (cond (cond (cond (decide (ah.Pos<0)) true (decide (1099511627776<ah.Pos))) true (!r1)) true (!decide (ah.az.b2=ah.Pos))) true (!r2)) true (decide (64<((ah.Queue.length:Nat):Int)))) ( some false) ( wW n ah n 0)
def Yy(ah:bU):Option (aux×Int):=(rz n ah).bind λr1=>cond (!r1) ( some (([]:aux),1)) ( (sU n ah).bind λr3=>cond (decide (16384<((r3.length:Nat):Int))) ( some (([]:aux),2)) ( some (r3,0)))
def zC(n:Nat)(bK:Int):auC:=some bK
def QA(n:Nat)(p:bo):auB:=some (decide (p.br.Kind=0))
def QB(n:Nat):auC:=some (-1)
def I9(s:List bo)(al:Int→auC)(v4:Int):auC:=cond (decide (v4<((s.length:Nat):Int))) ( ax (aL v4 s.length)<|(QA n (auA s v4)).bind λbO=>cond bO ( some v4) ( al (auz (v4+1)))) ( QB n)
def zD(n:Nat)(s:List bo):Nat→Int→auC
 | 0=>λ_=>none
 |m+1=>I9 n s (zD n s m)
def QC(s:List bo):auC:=zD n s n 0
def QD(s:List bo):auB:=(QC n s).bind λr1=>some (decide (0≤r1))
def QE(n:Nat):auB:=some true
def I'(l:List bo)(al:Int→auB)(v6:Int):auB:=cond (decide (v6<((l.length:Nat):Int))) ( ax (aL v6 l.length)<|(wE n ((auA l v6).Key)).bind λcW=>Option.bind (cond (!(!cW)) (sR n (⟨((auA l v6).br).Kind,((auA l v6).br).N,((auA l v6).br).S⟩:bq)) (some default)) λcR=>ax ((cond (!cW) true (!cR))||(!(decide (0<v6))||aL (auz (v6-1)) l.length))<|cond (cond (cond (!cW) true (!cR)) true (cond (decide (0<v6)) (!(Op.bytesLess ((auA l (auz (v6-1))).Key) ((auA l v6).Key))) false)) ( some false) ( al (auz (v6+1)))) ( QE n)
def zE(n:Nat)(l:List bo):Nat→Int→auB
 | 0=>λ_=>none
 |m+1=>I' n l (zE n l m)
def I_(l:List bo):auB:=zE n l n 0
def D0(l:List bo):auB:=(I_ n l).bind λr1=>Option.bind (cond r1 (QD n l) (some default)) λr2=>some (cond r1 (!r2) false)
def QF(n:Nat)(fx:Int):Option bq:=some (⟨1,fx,[]⟩:bq)
def D1(n:Nat)(s:aux)(at_:Int):auB:=some (cond (decide (at_<0)) true (decide (((s.length:Nat):Int)<at_)))
def Yz(n:Nat):Option (Int×Int×Int):=some (0,0,5)
def QG(s:aux)(at_:Int)(al:Int→Int→Option (Int×Int×Int))(bB:Int)(bv:Int):Option (Int×Int×Int):=cond (decide (bB<10)) ( cond (decide (((s.length:Nat):Int)≤(auz (at_+bB)))) ( some (0,0,6)) ( ax (aL (auz (at_+bB)) s.length)<|cond (cond (cond (decide (bB=9)) (decide (1<(((s.getD ((auz (at_+bB))).toNat 0).toNat:Nat):Int))) false) true (cond (decide ((((s.getD ((auz (at_+bB))).toNat 0).toNat:Nat):Int)=0)) (decide (0<bB)) false)) ( some (0,0,5)) ( ax (od (auz (7*bB)))<|cond (decide ((((s.getD ((auz (at_+bB))).toNat 0).toNat:Nat):Int)<128)) ( some ((qY .u64 bv (o1 .u64 (IntKind.u64.wrap (pT .u8 (((s.getD ((auz (at_+bB))).toNat 0).toNat:Nat):Int) 127)) (auz (7*bB)))),(auz ((auz (at_+bB))+1)),0)) ( al (auz (bB+1)) (qY .u64 bv (o1 .u64 (IntKind.u64.wrap (pT .u8 (((s.getD ((auz (at_+bB))).toNat 0).toNat:Nat):Int) 127)) (auz (7*bB)))))))) ( Yz n)
def D2(n:Nat)(s:aux)(at_:Int):Nat→Int→Int→Option (Int×Int×Int)
 | 0=>λ_ _=>none
 |m+1=>QG n s at_ (D2 n s at_ m)
def sV(s:aux)(at_:Int):Option (Int×Int×Int):=(D1 n s at_).bind λr1=>cond r1 ( some (0,0,1)) ( D2 n s at_ n 0 0)
def zF(s:aux)(at_:Int):Option (Int×Int×Int):=(sV n s at_).bind λr1=>cond (!decide (r1.2.2=0)) ( some (0,0,r1.2.2)) ( some ((mU .i64 (auz (nq .u64 r1.1 1)) (auz (0-(auz (pT .u64 r1.1 1))))),r1.2.1,0))
def qk(s:aux)(at_:Int)(bK:Int):Option (Int×Int×Int):=(sV n s at_).bind λr1=>cond (!decide (r1.2.2=0)) ( some (0,0,r1.2.2)) ( cond (cond (decide (bK<0)) true (decide ((IntKind.u64.wrap bK)<r1.1))) ( some (0,0,2)) ( cond (decide ((IntKind.u64.wrap (auz (((s.length:Nat):Int)-r1.2.1)))<r1.1)) ( some (0,0,6)) ( some ((auz r1.1),r1.2.1,0))))
def uz(s:aux)(at_:Int)(bK:Int):Option (aux×Int×Int):=(qk n s at_ bK).bind λr1=>cond (!decide (r1.2.2=0)) ( some (([]:aux),0,r1.2.2)) ( ax (lW r1.2.1 (auz (r1.2.1+r1.1)) s.length)<|some (((s.take ((auz (r1.2.1+r1.1))).toNat).drop (r1.2.1).toNat),(auz (r1.2.1+r1.1)),0))
def D3(n:Nat)(cR:aux×Int×Int)(v11:Int):Option (bq×Int×Int):=cond (!decide (v11=0)) ( some ((⟨0,0,[]⟩:bq),0,v11)) ( some ((⟨2,0,cR.1⟩:bq),cR.2.1,0))
def zG(s:aux)(at_:Int):Option (bq×Int×Int):=(sV n s at_).bind λr1=>cond (!decide (r1.2.2=0)) ( some ((⟨0,0,[]⟩:bq),0,r1.2.2)) ( cond (decide (r1.1=0)) ( some ((⟨0,0,[]⟩:bq),r1.2.1,0)) ( cond (decide (r1.1=1)) ( (zF n s r1.2.1).bind λb'=>cond (!decide (b'.2.2=0)) ( some ((⟨0,0,[]⟩:bq),0,b'.2.2)) ( (QF n b'.1).bind λcU=>some (cU,b'.2.1,0))) ( cond (decide (r1.1=2)) ( (uz n s r1.2.1 64).bind λcR=>Option.bind (cond (decide (cR.2.2=0)) (Dr n cR.1) (some default)) λdh=>cond (cond (decide (cR.2.2=0)) (!dh) false) ( D3 n cR 5) ( D3 n cR cR.2.2)) ( some ((⟨0,0,[]⟩:bq),0,5)))))
def Ja(co:Int)(cY:List bo):Option ((List bo)×Int×Int):=(D0 n cY).bind λeQ=>cond (!eQ) ( some (([]:List bo),0,5)) ( some (cY,co,0))
def Jb(s:aux)(r1:Int×Int×Int)(al:Int→Int→(List bo)→Option ((List bo)×Int×Int))(v9:Int)(v10:Int)(v11:List bo):Option ((List bo)×Int×Int):=cond (decide (v10<r1.1)) ( (uz n s v9 24).bind λeV=>cond (!decide (eV.2.2=0)) ( some (([]:List bo),0,eV.2.2)) ( (zG n s eV.2.1).bind λdS=>cond (!decide (dS.2.2=0)) ( some (([]:List bo),0,dS.2.2)) ( ax (room (v11.length+([(⟨eV.1,dS.1⟩:bo)]:List bo).length) 48)<|al dS.2.1 (auz (v10+1)) (v11++([(⟨eV.1,dS.1⟩:bo)]:List bo))))) ( Ja n v9 v11)
def wX(n:Nat)(s:aux)(r1:Int×Int×Int):Nat→Int→Int→(List bo)→Option ((List bo)×Int×Int)
 | 0=>λ_ _ _=>none
 |m+1=>Jb n s r1 (wX n s r1 m)
def Jc(s:aux)(at_:Int):Option ((List bo)×Int×Int):=(qk n s at_ 2147483647).bind λr1=>cond (!decide (r1.2.2=0)) ( some (([]:List bo),0,r1.2.2)) ( wX n s r1 n r1.2.1 0 ([]:List bo))
def zH(ae:fp):Option ((List bo)×Int×Int):=cond (!decide (ae.e=0)) ( some (([]:List bo),ae.at_,ae.e)) ( (Jc n ae.s ae.at_).bind λr2=>cond (!decide (r2.2.2=0)) ( some (([]:List bo),ae.at_,r2.2.2)) ( some (r2.1,r2.2.1,r2.2.2)))
def sW(ae:ph):Option (Int×Int×Int):=cond (!decide (ae.e=0)) ( some (0,ae.at_,ae.e)) ( (zF n ae.s ae.at_).bind λr2=>some (r2.1,r2.2.1,r2.2.2))
def wY(ae:ph):Option (aux×Int×Int):=cond (!decide (ae.e=0)) ( some (([]:aux),ae.at_,ae.e)) ( (uz n ae.s ae.at_ 24).bind λr2=>some (r2.1,r2.2.1,r2.2.2))
def Jd(n:Nat)(s:aux)(v28:Int)(r1:Int×Int×Int)(v30:List Part)(m':Int):Option (b7×Int×Int):=cond (!decide (m'=0)) ( some ((⟨0,[]⟩:b7),0,m')) ( some ((⟨r1.1,v30⟩:b7),v28,0))
def D4(s:aux)(r1:Int×Int×Int)(v28:Int)(hP:Int)(v30:List Part):Option (b7×Int×Int):=Option.bind (cond (decide (hP=0)) (DZ n (⟨r1.1,v30⟩:b7)) (some default)) λgA=>cond (cond (decide (hP=0)) (!gA) false) ( Jd n s v28 r1 v30 5) ( Jd n s v28 r1 v30 hP)
def zI(r3:Int×Int×Int)(s:aux)(r1:Int×Int×Int)(ef:Int→Int→(List Part)→Int→Option (b7×Int×Int))(bE:Int)(bC:Int)(dK:List Part)(a1:Int):Option (b7×Int×Int):=cond (decide (a1<r3.1)) ( (sW n (⟨s,bE,bC⟩:ph)).bind λgt=>(wY n (⟨s,gt.2.1,gt.2.2⟩:ph)).bind λfq=>(sW n (⟨s,fq.2.1,fq.2.2⟩:ph)).bind λeQ=>(sW n (⟨s,eQ.2.1,eQ.2.2⟩:ph)).bind λfE=>(wY n (⟨s,fE.2.1,fE.2.2⟩:ph)).bind λet=>ax (room (dK.length+([(⟨gt.1,fq.1,eQ.1,fE.1,et.1⟩:Part)]:List Part).length) 56)<|ef et.2.1 et.2.2 (dK++([(⟨gt.1,fq.1,eQ.1,fE.1,et.1⟩:Part)]:List Part)) (auz (a1+1))) ( D4 n s r1 bE bC dK)
def sX(n:Nat)(r3:Int×Int×Int)(s:aux)(r1:Int×Int×Int):Nat→Int→Int→(List Part)→Int→Option (b7×Int×Int)
 | 0=>λ_ _ _ _=>none
 |m+1=>zI n r3 s r1 (sX n r3 s r1 m)
def Je(s:aux)(at_:Int):Option (b7×Int×Int):=(sW n (⟨s,at_,0⟩:ph)).bind λr1=>cond (!decide (r1.2.2=0)) ( some ((⟨0,[]⟩:b7),0,r1.2.2)) ( (qk n s r1.2.1 16).bind λr3=>sX n r3 s r1 n r3.2.1 r3.2.2 ([]:List Part) 0)
def zJ(ae:fp):Option (b7×Int×Int):=cond (!decide (ae.e=0)) ( some ((⟨0,[]⟩:b7),ae.at_,ae.e)) ( (Je n ae.s ae.at_).bind λr2=>cond (!decide (r2.2.2=0)) ( some ((⟨0,[]⟩:b7),ae.at_,r2.2.2)) ( some (r2.1,r2.2.1,r2.2.2)))
def ql(n:Nat)(next:Int)(e:Int)(ae:hZ):Option (Int×Int):=some (next,e)
def wZ(bK:Int)(ae:hZ):Option (Int×Int×Int):=cond (!decide (ae.e=0)) ( some (0,ae.at_,ae.e)) ( (qk n ae.s ae.at_ bK).bind λr2=>(ql n r2.2.1 r2.2.2 ae).bind λr3=>some (r2.1,r3.1,r3.2))
def Jf(s:aux)(at_:Int):Option (Bool×Int×Int):=(D1 n s at_).bind λr1=>cond r1 ( some (false,0,1)) ( cond (decide (at_=((s.length:Nat):Int))) ( some (false,0,6)) ( ax (aL at_ s.length)<|cond (decide (1<(((s.getD (at_).toNat 0).toNat:Nat):Int))) ( some (false,0,5)) ( ax (aL at_ s.length)<|some ((decide ((((s.getD (at_).toNat 0).toNat:Nat):Int)=1)),(auz (at_+1)),0))))
def zK(ae:hZ):Option (Bool×Int×Int):=cond (!decide (ae.e=0)) ( some (false,ae.at_,ae.e)) ( (Jf n ae.s ae.at_).bind λr2=>(ql n r2.2.1 r2.2.2 ae).bind λr3=>some (r2.1,r3.1,r3.2))
def w0(bK:Int)(ae:hZ):Option (aux×Int×Int):=cond (!decide (ae.e=0)) ( some (([]:aux),ae.at_,ae.e)) ( (uz n ae.s ae.at_ bK).bind λr2=>(ql n r2.2.1 r2.2.2 ae).bind λr3=>some (r2.1,r3.1,r3.2))
def Jg(n:Nat)(ae:hZ)(co:Int)(cY:Int)(v20:List aux):Option ((List aux)×Int×Int):=some (v20,co,cY)
def zL(r1:Int×Int×Int)(ae:hZ)(al:Int→Int→(List aux)→Int→Option ((List aux)×Int×Int))(bv:Int)(v9:Int)(v10:List aux)(v11:Int):Option ((List aux)×Int×Int):=cond (decide (v11<r1.1)) ( (w0 n 24 (⟨ae.s,bv,v9⟩:hZ)).bind λeV=>ax (room (v10.length+([eV.1]:List aux).length) 16)<|al eV.2.1 eV.2.2 (v10++([eV.1]:List aux)) (auz (v11+1))) ( Jg n ae bv v9 v10)
def sY(n:Nat)(r1:Int×Int×Int)(ae:hZ):Nat→Int→Int→(List aux)→Int→Option ((List aux)×Int×Int)
 | 0=>λ_ _ _ _=>none
 |m+1=>zL n r1 ae (sY n r1 ae m)
def uA(ae:hZ):Option ((List aux)×Int×Int):=(wZ n 64 ae).bind λr1=>sY n r1 ae n r1.2.1 r1.2.2 ([]:List aux) 0
def w1(ae:hZ):Option (Int×Int×Int):=cond (!decide (ae.e=0)) ( some (0,ae.at_,ae.e)) ( (sV n ae.s ae.at_).bind λr2=>(ql n r2.2.1 r2.2.2 ae).bind λr3=>some (r2.1,r3.1,r3.2))
def zM(ae:hZ):Option (bq×Int×Int):=cond (!decide (ae.e=0)) ( some ((⟨0,0,[]⟩:bq),ae.at_,ae.e)) ( (zG n ae.s ae.at_).bind λr2=>(ql n r2.2.1 r2.2.2 ae).bind λr3=>some (r2.1,r3.1,r3.2))
def sZ(r1:Int×Int×Int)(r2:Int×Int×Int)(s:aux)(r3:aux×Int×Int)(hR:List bq)(r24:Bool×Int×Int)(nG:Int)(v28:Int)(hP:List aux)(v30:List aux):Option (Request×Int×Int):=cond (!decide (v28=0)) ( some ((⟨0,0,[],[],false,⟨false,[],[]⟩⟩:Request),0,v28)) ( cond (cond (decide (32<r1.1)) true (decide (1099511627776<r2.1))) ( some ((⟨0,0,[],[],false,⟨false,[],[]⟩⟩:Request),0,5)) ( (oE n (⟨(auz r1.1),(auz r2.1),r3.1,hR,r24.1,⟨false,hP,v30⟩⟩:Request)).bind λpj=>cond (!decide (pj=0)) ( some ((⟨0,0,[],[],false,⟨false,[],[]⟩⟩:Request),0,5)) ( some ((⟨(auz r1.1),(auz r2.1),r3.1,hR,r24.1,⟨false,hP,v30⟩⟩:Request),nG,0))))
def zN(r1:Int×Int×Int)(r2:Int×Int×Int)(s:aux)(r3:aux×Int×Int)(v21:Int)(c_:Int)(hR:List bq):Option (Request×Int×Int):=(zK n (⟨s,v21,c_⟩:hZ)).bind λr24=>cond r24.1 ( (uA n (⟨s,r24.2.1,r24.2.2⟩:hZ)).bind λf_=>(uA n (⟨s,f_.2.1,f_.2.2⟩:hZ)).bind λr26=>sZ n r1 r2 s r3 hR r24 r26.2.1 r26.2.2 f_.1 r26.1) ( sZ n r1 r2 s r3 hR r24 r24.2.1 r24.2.2 ([]:List aux) ([]:List aux))
def zO(r1:Int×Int×Int)(r2:Int×Int×Int)(bx:Int×Int×Int)(s:aux)(r3:aux×Int×Int)(ef:Int→Int→(List bq)→Int→Option (Request×Int×Int))(v11:Int)(v12:Int)(cw:List bq)(bE:Int):Option (Request×Int×Int):=cond (decide (bE<bx.1)) ( (zM n (⟨s,v11,v12⟩:hZ)).bind λdT=>ax (room (cw.length+([dT.1]:List bq).length) 32)<|ef dT.2.1 dT.2.2 (cw++([dT.1]:List bq)) (auz (bE+1))) ( zN n r1 r2 s r3 v11 v12 cw)
def s0(n:Nat)(r1:Int×Int×Int)(r2:Int×Int×Int)(bx:Int×Int×Int)(s:aux)(r3:aux×Int×Int):Nat→Int→Int→(List bq)→Int→Option (Request×Int×Int)
 | 0=>λ_ _ _ _=>none
 |m+1=>zO n r1 r2 bx s r3 (s0 n r1 r2 bx s r3 m)
def Jh(s:aux)(at_:Int):Option (Request×Int×Int):=(w1 n (⟨s,at_,0⟩:hZ)).bind λr1=>(w1 n (⟨s,r1.2.1,r1.2.2⟩:hZ)).bind λr2=>(w0 n 16 (⟨s,r2.2.1,r2.2.2⟩:hZ)).bind λr3=>(wZ n 6 (⟨s,r3.2.1,r3.2.2⟩:hZ)).bind λbx=>s0 n r1 r2 bx s r3 n bx.2.1 bx.2.2 ([]:List bq) 0
def QH(n:Nat)(dK:List Request)(a1:Int):Option ((List Request)×Int×Int):=some (dK,a1,0)
def Ji(s:aux)(r1:Int×Int×Int)(al:(List Request)→Int→Int→Option ((List Request)×Int×Int))(bv:List Request)(v9:Int)(v10:Int):Option ((List Request)×Int×Int):=cond (decide (v9<r1.1)) ( (Jh n s v10).bind λb5=>cond (!decide (b5.2.2=0)) ( some (([]:List Request),0,b5.2.2)) ( ax (room (bv.length+([b5.1]:List Request).length) 120)<|al (bv++([b5.1]:List Request)) (auz (v9+1)) b5.2.1)) ( QH n bv v10)
def w2(n:Nat)(s:aux)(r1:Int×Int×Int):Nat→(List Request)→Int→Int→Option ((List Request)×Int×Int)
 | 0=>λ_ _ _=>none
 |m+1=>Ji n s r1 (w2 n s r1 m)
def Jj(s:aux)(at_:Int):Option ((List Request)×Int×Int):=(qk n s at_ 64).bind λr1=>cond (!decide (r1.2.2=0)) ( some (([]:List Request),0,r1.2.2)) ( w2 n s r1 n ([]:List Request) 0 r1.2.1)
def zP(ae:fp):Option ((List Request)×Int×Int):=cond (!decide (ae.e=0)) ( some (([]:List Request),ae.at_,ae.e)) ( (Jj n ae.s ae.at_).bind λr2=>cond (!decide (r2.2.2=0)) ( some (([]:List Request),ae.at_,r2.2.2)) ( some (r2.1,r2.2.1,r2.2.2)))
def zQ(n:Nat)(r2:Int×Int×Int)(ae:k4)(v3:Int):Option (Int×Int×Int):=cond (!decide (v3=0)) ( some (0,ae.at_,v3)) ( some ((auz r2.1),r2.2.1,v3))
def s1(least:Int)(bK:Int)(ae:k4):Option (Int×Int×Int):=cond (!decide (ae.e=0)) ( some (0,ae.at_,ae.e)) ( (sV n ae.s ae.at_).bind λr2=>cond (cond (decide (r2.2.2=0)) (cond (decide (r2.1<least)) true (decide (bK<r2.1))) false) ( zQ n r2 ae 5) ( zQ n r2 ae r2.2.2))
def D5(n:Nat)(ae:k4)(r1:Int×Int×Int)(r2:Int×Int×Int)(v21:Int)(c_:Int)(hR:List bq):Option (Outcome×Int×Int):=some ((⟨r1.1,r2.1,hR⟩:Outcome),v21,c_)
def zR(bx:Int×Int×Int)(ae:k4)(r1:Int×Int×Int)(r2:Int×Int×Int)(al:Int→Int→(List bq)→Int→Option (Outcome×Int×Int))(v11:Int)(v12:Int)(cw:List bq)(bE:Int):Option (Outcome×Int×Int):=cond (cond (decide (bE<bx.1)) (decide (v12=0)) false) ( (zG n ae.s v11).bind λdT=>ax (room (cw.length+([dT.1]:List bq).length) 32)<|al dT.2.1 dT.2.2 (cw++([dT.1]:List bq)) (auz (bE+1))) ( D5 n ae r1 r2 v11 v12 cw)
def uB(n:Nat)(bx:Int×Int×Int)(ae:k4)(r1:Int×Int×Int)(r2:Int×Int×Int):Nat→Int→Int→(List bq)→Int→Option (Outcome×Int×Int)
 | 0=>λ_ _ _ _=>none
 |m+1=>zR n bx ae r1 r2 (uB n bx ae r1 r2 m)
def D6(ae:k4):Option (Outcome×Int×Int):=(s1 n 0 9999 ae).bind λr1=>(s1 n 0 9999 (⟨ae.s,r1.2.1,r1.2.2⟩:k4)).bind λr2=>cond (!decide (r2.2.2=0)) ( some ((⟨r1.1,r2.1,[]⟩:Outcome),r2.2.1,r2.2.2)) ( (qk n ae.s r2.2.1 16).bind λbx=>uB n bx ae r1 r2 n bx.2.1 bx.2.2 ([]:List bq) 0)
def Jk(n:Nat)(ae:k4)(r1:Int×Int×Int)(r2:Int×Int×Int)(v21:Int)(c_:Int)(hR:List eN):Option (bL×Int×Int):=some ((⟨r1.1,r2.1,hR⟩:bL),v21,c_)
def D7(bx:Int)(ae:k4)(r1:Int×Int×Int)(r2:Int×Int×Int)(al:Int→Int→(List eN)→Int→Option (bL×Int×Int))(v11:Int)(v12:Int)(cw:List eN)(bE:Int):Option (bL×Int×Int):=cond (cond (decide (bE<bx)) (decide (v12=0)) false) ( (D6 n (⟨ae.s,v11,v12⟩:k4)).bind λdT=>ax (room (cw.length+([(⟨r1.1,(auz (r2.1-(auz (bx-bE)))),dT.1⟩:eN)]:List eN).length) 56)<|al dT.2.1 dT.2.2 (cw++([(⟨r1.1,(auz (r2.1-(auz (bx-bE)))),dT.1⟩:eN)]:List eN)) (auz (bE+1))) ( Jk n ae r1 r2 v11 v12 cw)
def w3(n:Nat)(bx:Int)(ae:k4)(r1:Int×Int×Int)(r2:Int×Int×Int):Nat→Int→Int→(List eN)→Int→Option (bL×Int×Int)
 | 0=>λ_ _ _ _=>none
 |m+1=>D7 n bx ae r1 r2 (w3 n bx ae r1 r2 m)
def D8(ae:k4):Option (bL×Int×Int):=(s1 n 1 32 ae).bind λr1=>(s1 n 1 1099511627776 (⟨ae.s,r1.2.1,r1.2.2⟩:k4)).bind λr2=>cond (!decide (r2.2.2=0)) ( some ((⟨r1.1,r2.1,[]⟩:bL),r2.2.1,r2.2.2)) ( (DN n r2.1).bind λbx=>w3 n bx ae r1 r2 n r2.2.1 r2.2.2 ([]:List eN) 0)
def D9(s:aux)(cY:Int)(v20:Int)(v21:List bL):Option ((List bL)×Int×Int):=cond (!decide (v20=0)) ( some (([]:List bL),0,v20)) ( (sT n v21).bind λfu=>cond (!fu) ( some (([]:List bL),0,5)) ( some (v21,cY,0)))
def D'(r1:Int×Int×Int)(s:aux)(al:Int→Int→(List bL)→Int→Option ((List bL)×Int×Int))(v9:Int)(v10:Int)(v11:List bL)(v12:Int):Option ((List bL)×Int×Int):=cond (cond (decide (v12<r1.1)) (decide (v10=0)) false) ( (D8 n (⟨s,v9,v10⟩:k4)).bind λdS=>ax (room (v11.length+([dS.1]:List bL).length) 40)<|al dS.2.1 dS.2.2 (v11++([dS.1]:List bL)) (auz (v12+1))) ( D9 n s v9 v10 v11)
def w4(n:Nat)(r1:Int×Int×Int)(s:aux):Nat→Int→Int→(List bL)→Int→Option ((List bL)×Int×Int)
 | 0=>λ_ _ _ _=>none
 |m+1=>D' n r1 s (w4 n r1 s m)
def Jl(s:aux)(at_:Int):Option ((List bL)×Int×Int):=(qk n s at_ 32).bind λr1=>cond (!decide (r1.2.2=0)) ( some (([]:List bL),0,r1.2.2)) ( w4 n r1 s n r1.2.1 0 ([]:List bL) 0)
def zS(ae:fp):Option ((List bL)×Int×Int):=cond (!decide (ae.e=0)) ( some (([]:List bL),ae.at_,ae.e)) ( (Jl n ae.s ae.at_).bind λr2=>cond (!decide (r2.2.2=0)) ( some (([]:List bL),ae.at_,r2.2.2)) ( some (r2.1,r2.2.1,r2.2.2)))
def QI(s:aux)(at_:Int)(a2:Int):Option (Int×Int×Int):=(qk n s at_ a2).bind λr1=>some (r1.1,r1.2.1,r1.2.2)
def w5(p:Int)(ae:fp):Option (Int×Int×Int):=cond (!decide (ae.e=0)) ( some (0,ae.at_,ae.e)) ( (QI n ae.s ae.at_ p).bind λr2=>cond (!decide (r2.2.2=0)) ( some (0,ae.at_,r2.2.2)) ( some (r2.1,r2.2.1,r2.2.2)))
def w6(ae:fp):Option (Int×Int×Int):=cond (!decide (ae.e=0)) ( some (0,ae.at_,ae.e)) ( (zF n ae.s ae.at_).bind λr2=>cond (!decide (r2.2.2=0)) ( some (0,ae.at_,r2.2.2)) ( some (r2.1,r2.2.1,r2.2.2)))
def QJ(s:aux)(at_:Int)(a2:Int):Option (aux×Int×Int):=(uz n s at_ a2).bind λr1=>some (r1.1,r1.2.1,r1.2.2)
def D_(p:Int)(ae:fp):Option (aux×Int×Int):=cond (!decide (ae.e=0)) ( some (([]:aux),ae.at_,ae.e)) ( (QJ n ae.s ae.at_ p).bind λr2=>cond (!decide (r2.2.2=0)) ( some (([]:aux),ae.at_,r2.2.2)) ( some (r2.1,r2.2.1,r2.2.2)))
def zT(ae:fp):Option (Int×Int×Int):=cond (!decide (ae.e=0)) ( some (0,ae.at_,ae.e)) ( (sV n ae.s ae.at_).bind λr2=>cond (!decide (r2.2.2=0)) ( some (0,ae.at_,r2.2.2)) ( some (r2.1,r2.2.1,r2.2.2)))
def Ea(n:Nat)(bK:Int):auC:=some bK
def uC(ae:fp)(r1:Int×Int×Int)(r26:(List bL)×Int×Int)(r27:b7×Int×Int)(r2:(List bo)×Int×Int)(v25:List aux)(Jm:Int)(v51:Int)(Jn:List bh):Option (pg×Int×Int):=(zP n (⟨ae.s,Jm,v51⟩:fp)).bind λzU=>(zT n (⟨ae.s,zU.2.1,zU.2.2⟩:fp)).bind λk6=>some ((⟨⟨r1.1,⟨0,0,[]⟩,[],r26.1,r27.1,Jn,zU.1,k6.1⟩,r2.1,v25⟩:pg),k6.2.1,k6.2.2)
def Eb(ae:fp)(r1:Int×Int×Int)(r26:(List bL)×Int×Int)(r27:b7×Int×Int)(r2:(List bo)×Int×Int)(v25:List aux)(ef:Int→Int→(List bh)→Int→Option (pg×Int×Int))(iH:Int)(i':Int)(v40:List bh)(kn:Int):Option (pg×Int×Int):=cond (cond (decide (0<kn)) (decide (i'=0)) false) ( (Ea n 24).bind λhQ=>(D_ n hQ (⟨ae.s,iH,i'⟩:fp)).bind λoI=>(w6 n (⟨ae.s,oI.2.1,oI.2.2⟩:fp)).bind λgQ=>ax (room (v40.length+([(⟨oI.1,gQ.1⟩:bh)]:List bh).length) 24)<|ef gQ.2.1 gQ.2.2 (v40++([(⟨oI.1,gQ.1⟩:bh)]:List bh)) (auz (kn-1))) ( uC n ae r1 r26 r27 r2 v25 iH i' v40)
def rA(n:Nat)(ae:fp)(r1:Int×Int×Int)(r26:(List bL)×Int×Int)(r27:b7×Int×Int)(r2:(List bo)×Int×Int)(v25:List aux):Nat→Int→Int→(List bh)→Int→Option (pg×Int×Int)
 | 0=>λ_ _ _ _=>none
 |m+1=>Eb n ae r1 r26 r27 r2 v25 (rA n ae r1 r26 r27 r2 v25 m)
def uD(ae:fp)(r1:Int×Int×Int)(r2:(List bo)×Int×Int)(hR:Int)(v24:Int)(v25:List aux):Option (pg×Int×Int):=(zS n (⟨ae.s,hR,v24⟩:fp)).bind λr26=>(zJ n (⟨ae.s,r26.2.1,r26.2.2⟩:fp)).bind λr27=>(zC n 32).bind λpk=>(w5 n pk (⟨ae.s,r27.2.1,r27.2.2⟩:fp)).bind λfK=>rA n ae r1 r26 r27 r2 v25 n fK.2.1 fK.2.2 ([]:List bh) fK.1
def Ec(ae:fp)(r1:Int×Int×Int)(r2:(List bo)×Int×Int)(ec:Int→Int→(List aux)→Int→Option (pg×Int×Int))(v12:Int)(cw:Int)(bE:List aux)(bC:Int):Option (pg×Int×Int):=cond (cond (decide (0<bC)) (decide (cw=0)) false) ( (Ea n 16384).bind λeH=>(D_ n eH (⟨ae.s,v12,cw⟩:fp)).bind λe0=>ax (room (bE.length+([e0.1]:List aux).length) 16)<|ec e0.2.1 e0.2.2 (bE++([e0.1]:List aux)) (auz (bC-1))) ( uD n ae r1 r2 v12 cw bE)
def uE(n:Nat)(ae:fp)(r1:Int×Int×Int)(r2:(List bo)×Int×Int):Nat→Int→Int→(List aux)→Int→Option (pg×Int×Int)
 | 0=>λ_ _ _ _=>none
 |m+1=>Ec n ae r1 r2 (uE n ae r1 r2 m)
def Ed(ae:fp):Option (pg×Int×Int):=(w6 n ae).bind λr1=>(zH n (⟨ae.s,r1.2.1,r1.2.2⟩:fp)).bind λr2=>(zC n 16).bind λr3=>(w5 n r3 (⟨ae.s,r2.2.1,r2.2.2⟩:fp)).bind λbx=>uE n ae r1 r2 n bx.2.1 bx.2.2 ([]:List aux) bx.1
def Jo(n:Nat):Option (aux×Int×Int):=some (([]:aux),0,6)
def QK(n:Nat)(al:(List Int)→Int→Option (aux×Int×Int))(s:aux)(cY:List Int)(v20:Int):Option (aux×Int×Int):=al cY (auz (v20+1))
def Jp(al:(List Int)→Int→Option (aux×Int×Int))(s:aux)(v11:List Int)(dK:Int)(a1:Int):Option (aux×Int×Int):=cond (cond (decide (a1<32)) true (decide (126<a1))) ( some (([]:aux),0,5)) ( cond (decide (((v11.length:Nat):Int)=64)) ( some (([]:aux),0,2)) ( ax (room (v11.length+([a1]:List Int).length) 1)<|QK n al s (v11++([a1]:List Int)) dK))
def QL(s:aux)(al:(List Int)→Int→Option (aux×Int×Int))(v11:List Int)(v12:Int):Option (aux×Int×Int):=cond (decide (v12<((s.length:Nat):Int))) ( ax (aL v12 s.length)<|cond (decide ((((s.getD (v12).toNat 0).toNat:Nat):Int)=34)) ( ax (nB v11)<|some ((jV v11),(auz (v12+1)),0)) ( cond (decide ((((s.getD (v12).toNat 0).toNat:Nat):Int)=92)) ( cond (decide ((auz (v12+1))=((s.length:Nat):Int))) ( Jo n) ( ax (aL (auz (v12+1)) s.length)<|cond (cond (!decide ((((s.getD ((auz (v12+1))).toNat 0).toNat:Nat):Int)=34)) (!decide ((((s.getD ((auz (v12+1))).toNat 0).toNat:Nat):Int)=92)) false) ( some (([]:aux),0,5)) ( Jp n al s v11 (auz (v12+1)) (((s.getD ((auz (v12+1))).toNat 0).toNat:Nat):Int)))) ( Jp n al s v11 v12 (((s.getD (v12).toNat 0).toNat:Nat):Int)))) ( Jo n)
def zV(n:Nat)(s:aux):Nat→(List Int)→Int→Option (aux×Int×Int)
 | 0=>λ_ _=>none
 |m+1=>QL n s (zV n s m)
def QM(s:aux):Option (aux×Int×Int):=zV n s n ([]:List Int) 1
def QN(s:aux)(c:Int):auC:=(HX n s c).bind λr1=>some r1
def Ee(s:aux):Option aux:=ax (!(!(decide (s=([]:aux))))||aL 0 s.length)<|Option.bind (cond (!(decide (s=([]:aux)))) (QN n ([40,41,123,125,44,59,58,61,60,62,43,45,42,47,37]:aux) (((s.getD 0 0).toNat:Nat):Int)) (some default)) λb'=>cond (cond (!(decide (s=([]:aux)))) (decide (0≤b')) false) ( ax (ho 1 s.length)<|some (s.take 1)) ( some ([]:aux))
def w7(s:aux)(v2:Bool):Option aux:=cond v2 ( ax (ho 2 s.length)<|some (s.take 2)) ( Ee n s)
def Jq(s:aux):Option aux:=cond (decide (2≤((s.length:Nat):Int))) ( ax (ho 2 s.length)<|cond (decide ((s.take 2)=([61,61]:aux))) ( w7 n s (decide ((s.take 2)=([61,61]:aux)))) ( cond (decide ((s.take 2)=([33,61]:aux))) ( w7 n s (decide ((s.take 2)=([33,61]:aux)))) ( cond (decide ((s.take 2)=([60,61]:aux))) ( w7 n s (decide ((s.take 2)=([60,61]:aux)))) ( cond (decide ((s.take 2)=([62,61]:aux))) ( w7 n s (decide ((s.take 2)=([62,61]:aux)))) ( w7 n s (decide ((s.take 2)=([43,43]:aux)))))))) ( Ee n s)
def Ef(s:aux)(v3:aux)(v4:Bool)(v10:Int):Option (Int×Int):=ax ((cond (decide (v10=0)) true (decide (v10<((v3.length:Nat):Int))))||aL 0 v3.length)<|cond (cond (cond (decide (v10=0)) true (decide (v10<((v3.length:Nat):Int)))) true (cond (decide ((((v3.getD 0 0).toNat:Nat):Int)=48)) (cond (decide (1<v10)) true v4) false)) ( some (0,5)) ( (y2 n s 10 64).bind λdS=>ik.on dS (λYA=>cond (!true) ( some (0,3)) ( some (YA,0))) (λYB=>cond (!false) ( some (0,3)) ( some (YB,0))))
def QO(s:aux)(v3:aux)(v4:Bool)(ef:Int→Option (Int×Int))(bB:Int):Option (Int×Int):=cond (decide (bB<((v3.length:Nat):Int))) ( ax (aL bB v3.length)<|cond (cond (decide (48≤(((v3.getD (bB).toNat 0).toNat:Nat):Int))) (decide ((((v3.getD (bB).toNat 0).toNat:Nat):Int)≤57)) false) ( ef (auz (bB+1))) ( Ef n s v3 v4 bB)) ( Ef n s v3 v4 bB)
def zW(n:Nat)(s:aux)(v3:aux)(v4:Bool):Nat→Int→Option (Int×Int)
 | 0=>λ_=>none
 |m+1=>QO n s v3 v4 (zW n s v3 v4 m)
def Jr(s:aux)(v3:aux)(v4:Bool):Option (Int×Int):=zW n s v3 v4 n 0
def Js(s:aux):Option (Int×Int):=ax (!(decide (0<((s.length:Nat):Int)))||aL 0 s.length)<|cond (cond (decide (0<((s.length:Nat):Int))) (decide ((((s.getD 0 0).toNat:Nat):Int)=45)) false) ( ax (ho 1 s.length)<|Jr n s (s.drop 1) true) ( Jr n s s false)
def Jt(w:aux):Option (Token×Int):=ax (aL 0 w.length)<|cond (decide ((((w.getD 0 0).toNat:Nat):Int)=95)) ( some ((⟨0,[],0,0⟩:Token),5)) ( ax (aL 0 w.length)<|(Dp n (IntKind.i32.wrap (((w.getD 0 0).toNat:Nat):Int))).bind λbx=>cond bx ( (Do n w).bind λbO=>cond bO ( some ((⟨2,w,0,0⟩:Token),0)) ( (sQ n w).bind λcW=>cond (!cW) ( some ((⟨0,[],0,0⟩:Token),2)) ( some ((⟨1,w,0,0⟩:Token),0)))) ( (Js n w).bind λdh=>cond (!decide (dh.2=0)) ( some ((⟨0,[],0,0⟩:Token),dh.2)) ( some ((⟨3,[],dh.1,0⟩:Token),0))))
def zX(s:aux):Option (Token×Int×Int):=(y1 n s).bind λr1=>cond (decide (0<r1)) ( ax (ho r1 s.length)<|(Jt n (s.take (r1).toNat)).bind λbx=>some (bx.1,r1,bx.2)) ( ax (aL 0 s.length)<|cond (decide ((((s.getD 0 0).toNat:Nat):Int)=34)) ( (QM n s).bind λcU=>some ((⟨4,cU.1,0,0⟩:Token),cU.2.1,cU.2.2)) ( (Jq n s).bind λcW=>cond (decide (cW=([]:aux))) ( some ((⟨0,[],0,0⟩:Token),0,5)) ( some ((⟨5,cW,0,0⟩:Token),((cW.length:Nat):Int),0))))
def Ju(s:aux):Option aux:=(HW n s).bind λr1=>some r1
def zY(n:Nat)(Jv:List Token):Option ((List Token)×Int×Int):=some (Jv,0,0)
def Eg(al:(List Token)→Int→Int→Option ((List Token)×Int×Int))(src:aux)(a1:List Token)(co:Int)(cY:Int):Option ((List Token)×Int×Int):=ax (ho cY src.length)<|(zX n (src.drop (cY).toNat)).bind λfK=>cond (!decide (fK.2.2=0)) ( some (([]:List Token),co,fK.2.2)) ( (Ju n fK.1.Text).bind λiq=>ax (room (a1.length+([(⟨fK.1.Kind,iq,fK.1.N,co⟩:Token)]:List Token).length) 40)<|al (a1++([(⟨fK.1.Kind,iq,fK.1.N,co⟩:Token)]:List Token)) co (auz (cY+fK.2.1)))
def QP(n:Nat)(al:(List Token)→Int→Int→Option ((List Token)×Int×Int))(src:aux)(a1:List Token)(co:Int)(nG:Int):Option ((List Token)×Int×Int):=al a1 co nG
def QQ(al:(List Token)→Int→Int→Option ((List Token)×Int×Int))(src:aux)(a1:List Token)(co:Int)(rx:Int→Option ((List Token)×Int×Int))(v24:Int):Option ((List Token)×Int×Int):=ax (!(decide (v24<((src.length:Nat):Int)))||aL v24 src.length)<|cond (cond (decide (v24<((src.length:Nat):Int))) (!decide ((((src.getD (v24).toNat 0).toNat:Nat):Int)=10)) false) ( rx (auz (v24+1))) ( QP n al src a1 co v24)
def Eh(n:Nat)(al:(List Token)→Int→Int→Option ((List Token)×Int×Int))(src:aux)(a1:List Token)(co:Int):Nat→Int→Option ((List Token)×Int×Int)
 | 0=>λ_=>none
 |m+1=>QQ n al src a1 co (Eh n al src a1 co m)
def zZ(al:(List Token)→Int→Int→Option ((List Token)×Int×Int))(src:aux)(a1:List Token)(co:Int)(cY:Int)(v21:Bool):Option ((List Token)×Int×Int):=cond v21 ( al a1 co (auz (cY+1))) ( cond (decide ((((src.getD (cY).toNat 0).toNat:Nat):Int)=35)) ( Eh n al src a1 co n cY) ( Eg n al src a1 co cY))
def z1(src:aux)(al:(List Token)→Int→Int→Option ((List Token)×Int×Int))(a1:List Token)(co:Int)(cY:Int):Option ((List Token)×Int×Int):=cond (decide (cY<((src.length:Nat):Int))) ( ax (aL cY src.length)<|cond (decide ((((src.getD (cY).toNat 0).toNat:Nat):Int)=10)) ( al a1 (auz (co+1)) (auz (cY+1))) ( cond (decide ((((src.getD (cY).toNat 0).toNat:Nat):Int)=32)) ( zZ n al src a1 co cY (decide ((((src.getD (cY).toNat 0).toNat:Nat):Int)=32))) ( zZ n al src a1 co cY (decide ((((src.getD (cY).toNat 0).toNat:Nat):Int)=9))))) ( zY n a1)
def s2(n:Nat)(src:aux):Nat→(List Token)→Int→Int→Option ((List Token)×Int×Int)
 | 0=>λ_ _ _=>none
 |m+1=>z1 n src (s2 n src m)
def w8(src:aux):Option ((List Token)×Int×Int):=cond (decide (16384<((src.length:Nat):Int))) ( some (([]:List Token),0,2)) ( s2 n src n ([]:List Token) 1 0)
def uF(n:Nat)(text:aux)(ae:aX):auB:=cond (decide (((ae.tokens.length:Nat):Int)≤ae.at_)) ( some false) ( ax (aL ae.at_ ae.tokens.length)<|some (cond (cond (decide ((auA ae.tokens (ae.at_)).Kind=2)) true (decide ((auA ae.tokens (ae.at_)).Kind=5))) (decide (((auA ae.tokens (ae.at_)).Text)=text)) false))
def kI(text:aux)(ae:aX):Option (Bool×Int):=(uF n text ae).bind λr1=>cond (!r1) ( some (false,ae.at_)) ( some (true,(auz (ae.at_+1))))
def QR(n:Nat)(ae:aX):Option (aE Unit Unit):=ax (aL (auz (((ae.tokens.length:Nat):Int)-1)) ae.tokens.length)<|some (.bf (.iface 332 (.agg [.int .i64 ((auA ae.tokens (auz (((ae.tokens.length:Nat):Int)-1))).lE),.int .i64 6])) ())
def QS(ae:aX):Option (aE Unit Unit):=cond (decide (((ae.tokens.length:Nat):Int)=0)) ( some (.bf (.iface 332 (.agg [.int .i64 1,.int .i64 6])) ())) ( QR n ae)
def s3(code:Int)(ae:aX):Option (aE Unit Unit):=cond (decide (ae.at_<((ae.tokens.length:Nat):Int))) ( ax (aL ae.at_ ae.tokens.length)<|some (.bf (.iface 332 (.agg [.int .i64 ((auA ae.tokens (ae.at_)).lE),.int .i64 code])) ())) ( QS n ae)
def kJ(text:aux)(ae:aX):Option (aE Unit Int):=(kI n text ae).bind λr1=>cond (!r1.1) ( (s3 n 5 (⟨ae.tokens,r1.2⟩:aX)).bind λr3=>aE.on r3 (λbx b'=>some (.ret () r1.2)) (λqm b'=>some (.bf qm r1.2))) ( some (.ret () r1.2))
def rB(s:Stmt)(ae:aX):Option (aE Stmt Int):=(kJ n ([59]:aux) ae).bind λr1=>aE.on r1 (λr2 r3=>some (.ret (⟨s.Op,s.Name,s.Max,⟨s.A.Op,s.A.N,s.A.S,s.A.ar⟩,⟨s.B.Op,s.B.N,s.B.S,s.B.ar⟩,s.Body,s.bz⟩:Stmt) r3)) (λfr r3=>some (.bf fr r3))
def Jw(n:Nat)(ae:aX):Option (Int×Int):=cond (decide (((ae.tokens.length:Nat):Int)≤ae.at_)) ( some (0,0)) ( ax (aL ae.at_ ae.tokens.length)<|cond (cond (!decide ((auA ae.tokens (ae.at_)).Kind=2)) (!decide ((auA ae.tokens (ae.at_)).Kind=5)) false) ( some (0,0)) ( cond (decide (((auA ae.tokens (ae.at_)).Text)=([111,114]:aux))) ( some (1,17)) ( cond (decide (((auA ae.tokens (ae.at_)).Text)=([97,110,100]:aux))) ( some (2,16)) ( cond (decide (((auA ae.tokens (ae.at_)).Text)=([61,61]:aux))) ( some (4,10)) ( cond (decide (((auA ae.tokens (ae.at_)).Text)=([33,61]:aux))) ( some (4,11)) ( cond (decide (((auA ae.tokens (ae.at_)).Text)=([60]:aux))) ( some (4,12)) ( cond (decide (((auA ae.tokens (ae.at_)).Text)=([60,61]:aux))) ( some (4,13)) ( cond (decide (((auA ae.tokens (ae.at_)).Text)=([62]:aux))) ( some (4,14)) ( cond (decide (((auA ae.tokens (ae.at_)).Text)=([62,61]:aux))) ( some (4,15)) ( cond (decide (((auA ae.tokens (ae.at_)).Text)=([43,43]:aux))) ( some (5,19)) ( cond (decide (((auA ae.tokens (ae.at_)).Text)=([43]:aux))) ( some (6,4)) ( cond (decide (((auA ae.tokens (ae.at_)).Text)=([45]:aux))) ( some (6,5)) ( cond (decide (((auA ae.tokens (ae.at_)).Text)=([42]:aux))) ( some (7,6)) ( cond (decide (((auA ae.tokens (ae.at_)).Text)=([47]:aux))) ( some (7,7)) ( cond (decide (((auA ae.tokens (ae.at_)).Text)=([37]:aux))) ( some (7,8)) ( some (0,0)))))))))))))))))
def Jx(n:Nat)(depth:Int)(ae:aX):Option (aE Int Unit):=some (.ret (auz (depth+1)) ())
def z6(depth:Int)(ae:aX):Option (aE Int Unit):=cond (decide (24≤depth)) ( (s3 n 2 ae).bind λr1=>aE.on r1 (λr2 r3=>Jx n depth ae) (λfr r3=>some (.bf fr ()))) ( Jx n depth ae)
def Jy(n:Nat)(ae:aX):auC:=ax ((decide (((ae.tokens.length:Nat):Int)≤ae.at_))||aL ae.at_ ae.tokens.length)<|cond (cond (decide (((ae.tokens.length:Nat):Int)≤ae.at_)) true (!decide ((auA ae.tokens (ae.at_)).Kind=2))) ( some 0) ( ax (aL ae.at_ ae.tokens.length)<|cond (decide (((auA ae.tokens (ae.at_)).Text)=([116,101,120,116]:aux))) ( some 20) ( cond (decide (((auA ae.tokens (ae.at_)).Text)=([108,101,110]:aux))) ( some 21) ( cond (decide (((auA ae.tokens (ae.at_)).Text)=([103,101,116,105,110,116]:aux))) ( some 22) ( cond (decide (((auA ae.tokens (ae.at_)).Text)=([103,101,116,115,116,114]:aux))) ( some 23) ( cond (decide (((auA ae.tokens (ae.at_)).Text)=([104,97,115]:aux))) ( some 24) ( cond (decide (((auA ae.tokens (ae.at_)).Text)=([110,111,119]:aux))) ( some 25) ( cond (decide (((auA ae.tokens (ae.at_)).Text)=([114,97,110,100,111,109]:aux))) ( some 26) ( cond (decide (((auA ae.tokens (ae.at_)).Text)=([110,111,100,101]:aux))) ( some 27) ( some 0)))))))))
def Ei(fL:Int→Int→aX→Option (aE Expr Int))(ga:Int→Int→Int→aX→Option (aE Expr Int))(gi:Int→aX→Option (aE Expr Int))(gb:Int→aX→Option (aE Expr Int))(level:Int)(depth:Int)(ae:aX)(cC:Int→Int→Int→aux→(List Expr)→Option (aE Expr Int))(v37:Int)(iH:Int)(i':Int)(v40:aux)(kn:List Expr):Option (aE Expr Int):=(Jw n (⟨ae.tokens,v37⟩:aX)).bind λhQ=>cond (!decide (hQ.1=level)) ( some (.ret (⟨iH,i',v40,kn⟩:Expr) v37)) ( (fL (auz (level+1)) depth (⟨ae.tokens,(auz (v37+1))⟩:aX)).bind λoI=>aE.on oI (λgQ jq=>cond (decide (level=4)) ( some (.ret (⟨hQ.2,0,[],[⟨iH,i',v40,kn⟩,gQ]⟩:Expr) jq)) ( cC jq hQ.2 0 ([]:aux) ([(⟨iH,i',v40,kn⟩:Expr),gQ]:List Expr))) (λw9 jq=>some (.bf w9 jq)))
def qn(n:Nat)(fL:Int→Int→aX→Option (aE Expr Int))(ga:Int→Int→Int→aX→Option (aE Expr Int))(gi:Int→aX→Option (aE Expr Int))(gb:Int→aX→Option (aE Expr Int))(level:Int)(depth:Int)(ae:aX):Nat→Int→Int→Int→aux→(List Expr)→Option (aE Expr Int)
 | 0=>λ_ _ _ _ _=>none
 |m+1=>Ei n fL ga gi gb level depth ae (qn n fL ga gi gb level depth ae m)
def uG(fL:Int→Int→aX→Option (aE Expr Int))(ga:Int→Int→Int→aX→Option (aE Expr Int))(gi:Int→aX→Option (aE Expr Int))(gb:Int→aX→Option (aE Expr Int))(level:Int)(depth:Int)(ae:aX):Option (aE Expr Int):=cond (decide (level=3)) ( (uF n ([110,111,116]:aux) ae).bind λr2=>cond r2 ( (ga 18 level depth ae).bind λbx=>aE.on bx (λb' bO=>some (.ret b' bO)) (λEj bO=>some (.bf Ej bO))) ( (fL 4 depth ae).bind λcW=>aE.on cW (λcR dh=>some (.ret cR dh)) (λQT dh=>some (.bf QT dh)))) ( cond (decide (level=8)) ( (uF n ([45]:aux) ae).bind λdS=>cond dS ( (ga 9 level depth ae).bind λdT=>aE.on dT (λeH e0=>some (.ret eH e0)) (λw_ e0=>some (.bf w_ e0))) ( (gi depth ae).bind λfq=>aE.on fq (λeQ fE=>some (.ret eQ fE)) (λQU fE=>some (.bf QU fE)))) ( (fL (auz (level+1)) depth ae).bind λfu=>aE.on fu (λr24 f_=>qn n fL ga gi gb level depth ae n f_ r24.Op r24.N r24.S r24.ar) (λQV f_=>some (.bf QV f_))))
def Jz(fL:Int→Int→aX→Option (aE Expr Int))(ga:Int→Int→Int→aX→Option (aE Expr Int))(gi:Int→aX→Option (aE Expr Int))(gb:Int→aX→Option (aE Expr Int))(op:Int)(level:Int)(depth:Int)(ae:aX):Option (aE Expr Int):=(z6 n depth ae).bind λr1=>aE.on r1 (λr2 r3=>(fL level r2 (⟨ae.tokens,(auz (ae.at_+1))⟩:aX)).bind λb'=>aE.on b' (λbO cU=>some (.ret (⟨op,0,[],[bO]⟩:Expr) cU)) (λjF cU=>some (.bf jF cU))) (λfr r3=>some (.bf fr ae.at_))
def QW(fL:Int→Int→aX→Option (aE Expr Int))(ga:Int→Int→Int→aX→Option (aE Expr Int))(gi:Int→aX→Option (aE Expr Int))(gb:Int→aX→Option (aE Expr Int))(depth:Int)(r3:Int)(ae:aX)(v2:Int):Option (aE Expr Int):=(z6 n depth (⟨ae.tokens,v2⟩:aX)).bind λr26=>aE.on r26 (λr27 pk=>(gb r27 (⟨ae.tokens,(auz (v2+1))⟩:aX)).bind λiq=>aE.on iq (λgA my=>some (.ret (⟨r3,0,[],[gA]⟩:Expr) my)) (λxa my=>some (.bf xa my))) (λQX pk=>some (.bf QX v2))
def JA(fL:Int→Int→aX→Option (aE Expr Int))(ga:Int→Int→Int→aX→Option (aE Expr Int))(gi:Int→aX→Option (aE Expr Int))(gb:Int→aX→Option (aE Expr Int))(depth:Int)(ae:aX)(v2:Int):Option (aE Expr Int):=(z6 n depth (⟨ae.tokens,v2⟩:aX)).bind λcR=>aE.on cR (λdh b5=>(gb dh (⟨ae.tokens,v2⟩:aX)).bind λdS=>aE.on dS (λeZ dT=>some (.ret eZ dT)) (λxb dT=>some (.bf xb dT))) (λm_ b5=>some (.bf m_ v2))
def z7(fL:Int→Int→aX→Option (aE Expr Int))(ga:Int→Int→Int→aX→Option (aE Expr Int))(gi:Int→aX→Option (aE Expr Int))(gb:Int→aX→Option (aE Expr Int))(depth:Int)(r3:Int)(ae:aX)(v2:Int)(a1:Bool):Option (aE Expr Int):=cond a1 ( (kJ n ([40]:aux) (⟨ae.tokens,(auz (v2+1))⟩:aX)).bind λgt=>aE.on gt (λfq eQ=>(kJ n ([41]:aux) (⟨ae.tokens,eQ⟩:aX)).bind λet=>aE.on et (λfu r24=>some (.ret (⟨r3,0,[],[]⟩:Expr) r24)) (λQY r24=>some (.bf QY r24))) (λQZ eQ=>some (.bf QZ eQ))) ( QW n fL ga gi gb depth r3 ae v2)
def xc(fL:Int→Int→aX→Option (aE Expr Int))(ga:Int→Int→Int→aX→Option (aE Expr Int))(gi:Int→aX→Option (aE Expr Int))(gb:Int→aX→Option (aE Expr Int))(depth:Int)(ae:aX)(v2:Int):Option (aE Expr Int):=(Jy n (⟨ae.tokens,v2⟩:aX)).bind λr3=>cond (decide (r3=0)) ( (uF n ([40]:aux) (⟨ae.tokens,v2⟩:aX)).bind λbx=>cond (!bx) ( (s3 n 5 (⟨ae.tokens,v2⟩:aX)).bind λb'=>aE.on b' (λbO cU=>JA n fL ga gi gb depth ae v2) (λjF cU=>some (.bf jF v2))) ( JA n fL ga gi gb depth ae v2)) ( cond (decide (r3=25)) ( z7 n fL ga gi gb depth r3 ae v2 (decide (r3=25))) ( cond (decide (r3=26)) ( z7 n fL ga gi gb depth r3 ae v2 (decide (r3=26))) ( z7 n fL ga gi gb depth r3 ae v2 (decide (r3=27)))))
def JB(fL:Int→Int→aX→Option (aE Expr Int))(ga:Int→Int→Int→aX→Option (aE Expr Int))(gi:Int→aX→Option (aE Expr Int))(gb:Int→aX→Option (aE Expr Int))(depth:Int)(ae:aX):Option (aE Expr Int):=cond (decide (ae.at_<((ae.tokens.length:Nat):Int))) ( ax (aL ae.at_ ae.tokens.length)<|cond (decide ((auA ae.tokens (ae.at_)).Kind=3)) ( some (.ret (⟨1,(auA ae.tokens (ae.at_)).N,[],[]⟩:Expr) (auz (ae.at_+1)))) ( cond (decide ((auA ae.tokens (ae.at_)).Kind=4)) ( some (.ret (⟨2,0,(auA ae.tokens (ae.at_)).Text,[]⟩:Expr) (auz (ae.at_+1)))) ( cond (decide ((auA ae.tokens (ae.at_)).Kind=1)) ( some (.ret (⟨3,0,(auA ae.tokens (ae.at_)).Text,[]⟩:Expr) (auz (ae.at_+1)))) ( xc n fL ga gi gb depth ae (auz ((auz (ae.at_+1))-1)))))) ( xc n fL ga gi gb depth ae ae.at_)
def JC(fL:Int→Int→aX→Option (aE Expr Int))(ga:Int→Int→Int→aX→Option (aE Expr Int))(gi:Int→aX→Option (aE Expr Int))(gb:Int→aX→Option (aE Expr Int))(depth:Int)(ae:aX):Option (aE Expr Int):=(kJ n ([40]:aux) ae).bind λr1=>aE.on r1 (λr2 r3=>(fL 1 depth (⟨ae.tokens,r3⟩:aX)).bind λb'=>aE.on b' (λbO cU=>(kJ n ([41]:aux) (⟨ae.tokens,cU⟩:aX)).bind λcR=>aE.on cR (λdh b5=>some (.ret bO b5)) (λm_ b5=>some (.bf m_ b5))) (λjF cU=>some (.bf jF cU))) (λfr r3=>some (.bf fr r3))
def kK:Nat→(Int→Int→aX→Option (aE Expr Int))×(Int→Int→Int→aX→Option (aE Expr Int))×(Int→aX→Option (aE Expr Int))×(Int→aX→Option (aE Expr Int))
 | 0=>(λ_ _ _=>none,λ_ _ _ _=>none,λ_ _=>none,λ_ _=>none)
 |m+1=>(uG m ((kK m).1) ((kK m).2.1) ((kK m).2.2.1) ((kK m).2.2.2),Jz m ((kK m).1) ((kK m).2.1) ((kK m).2.2.1) ((kK m).2.2.2),JB m ((kK m).1) ((kK m).2.1) ((kK m).2.2.1) ((kK m).2.2.2),JC m ((kK m).1) ((kK m).2.1) ((kK m).2.2.1) ((kK m).2.2.2))
def h2:Int→Int→aX→Option (aE Expr Int):=(kK n).1
def oJ:Int→Int→Int→aX→Option (aE Expr Int):=(kK n).2.1
def na:Int→aX→Option (aE Expr Int):=(kK n).2.2.1
def oK:Int→aX→Option (aE Expr Int):=(kK n).2.2.2
def JD(n:Nat)(ae:aX):Option (aE Token Int):=ax (aL (auz ((auz (ae.at_+1))-1)) ae.tokens.length)<|some (.ret (auA ae.tokens (auz ((auz (ae.at_+1))-1))) (auz (ae.at_+1)))
def qo(kind:Int)(ae:aX):Option (aE Token Int):=ax ((decide (((ae.tokens.length:Nat):Int)≤ae.at_))||aL ae.at_ ae.tokens.length)<|cond (cond (decide (((ae.tokens.length:Nat):Int)≤ae.at_)) true (!decide ((auA ae.tokens (ae.at_)).Kind=kind))) ( (s3 n 5 ae).bind λr2=>aE.on r2 (λr3 bx=>JD n ae) (λkL bx=>some (.bf kL ae.at_))) ( JD n ae)
def Q0(n:Nat)(hv:Int→aX→Option (aE (List Stmt) Int))(hS:Int→aX→Option (aE Stmt Int))(hT:Int→aX→Option (aE Stmt Int))(ae:aX)(v28:Int)(hP:List Stmt):Option (aE (List Stmt) Int):=some (.ret hP v28)
def JE(hv:Int→aX→Option (aE (List Stmt) Int))(hS:Int→aX→Option (aE Stmt Int))(hT:Int→aX→Option (aE Stmt Int))(depth:Int)(ae:aX)(ef:Int→(List Stmt)→Option (aE (List Stmt) Int))(co:Int)(cY:List Stmt):Option (aE (List Stmt) Int):=(kI n ([125]:aux) (⟨ae.tokens,co⟩:aX)).bind λeQ=>cond (!eQ.1) ( (hS (auz (depth+1)) (⟨ae.tokens,eQ.2⟩:aX)).bind λfE=>aE.on fE (λet fu=>ax (room (cY.length+([et]:List Stmt).length) 192)<|ef fu (cY++([et]:List Stmt))) (λqp fu=>some (.bf qp fu))) ( Q0 n hv hS hT ae eQ.2 cY)
def z8(n:Nat)(hv:Int→aX→Option (aE (List Stmt) Int))(hS:Int→aX→Option (aE Stmt Int))(hT:Int→aX→Option (aE Stmt Int))(depth:Int)(ae:aX):Nat→Int→(List Stmt)→Option (aE (List Stmt) Int)
 | 0=>λ_ _=>none
 |m+1=>JE n hv hS hT depth ae (z8 n hv hS hT depth ae m)
def JF(hv:Int→aX→Option (aE (List Stmt) Int))(hS:Int→aX→Option (aE Stmt Int))(hT:Int→aX→Option (aE Stmt Int))(depth:Int)(ae:aX):Option (aE (List Stmt) Int):=(kJ n ([123]:aux) ae).bind λbO=>aE.on bO (λcU cW=>z8 n hv hS hT depth ae n cW ([]:List Stmt)) (λQ1 cW=>some (.bf Q1 cW))
def JG(hv:Int→aX→Option (aE (List Stmt) Int))(hS:Int→aX→Option (aE Stmt Int))(hT:Int→aX→Option (aE Stmt Int))(depth:Int)(ae:aX):Option (aE (List Stmt) Int):=(uF n ([123]:aux) ae).bind λr1=>cond (cond r1 (decide (12<depth)) false) ( (s3 n 2 ae).bind λr2=>aE.on r2 (λr3 bx=>JF n hv hS hT depth ae) (λkL bx=>some (.bf kL ae.at_))) ( JF n hv hS hT depth ae)
def Ek(n:Nat)(hv:Int→aX→Option (aE (List Stmt) Int))(hS:Int→aX→Option (aE Stmt Int))(hT:Int→aX→Option (aE Stmt Int))(ae:aX)(rC:Expr)(xd:(List Stmt))(JH:Int)(JI:List Stmt):Option (aE Stmt Int):=some (.ret (⟨5,[],0,rC,⟨0,0,[],[]⟩,xd,JI⟩:Stmt) JH)
def pn(hv:Int→aX→Option (aE (List Stmt) Int))(hS:Int→aX→Option (aE Stmt Int))(hT:Int→aX→Option (aE Stmt Int))(depth:Int)(ae:aX):Option (aE Stmt Int):=(kI n ([108,101,116]:aux) ae).bind λr1=>cond r1.1 ( (qo n 1 (⟨ae.tokens,r1.2⟩:aX)).bind λr3=>aE.on r3 (λbx b'=>(kJ n ([61]:aux) (⟨ae.tokens,b'⟩:aX)).bind λcU=>aE.on cU (λcW cR=>(h2 n 1 0 (⟨ae.tokens,cR⟩:aX)).bind λb5=>aE.on b5 (λeV dS=>(rB n (⟨1,bx.Text,0,eV,⟨0,0,[],[]⟩,[],[]⟩:Stmt) (⟨ae.tokens,dS⟩:aX)).bind λdT=>aE.on dT (λeH e0=>some (.ret (⟨eH.Op,eH.Name,eH.Max,⟨eH.A.Op,eH.A.N,eH.A.S,eH.A.ar⟩,⟨eH.B.Op,eH.B.N,eH.B.S,eH.B.ar⟩,eH.Body,eH.bz⟩:Stmt) e0)) (λw_ e0=>some (.bf w_ e0))) (λQ2 dS=>some (.bf Q2 dS))) (λQ3 cR=>some (.bf Q3 cR))) (λqm b'=>some (.bf qm b'))) ( (kI n ([112,117,116]:aux) (⟨ae.tokens,r1.2⟩:aX)).bind λfq=>cond fq.1 ( (h2 n 1 0 (⟨ae.tokens,fq.2⟩:aX)).bind λfE=>aE.on fE (λet fu=>(kJ n ([61]:aux) (⟨ae.tokens,fu⟩:aX)).bind λf_=>aE.on f_ (λr26 r27=>(h2 n 1 0 (⟨ae.tokens,r27⟩:aX)).bind λfK=>aE.on fK (λiq gA=>(rB n (⟨3,[],0,et,iq,[],[]⟩:Stmt) (⟨ae.tokens,gA⟩:aX)).bind λpj=>aE.on pj (λnH k7=>some (.ret (⟨nH.Op,nH.Name,nH.Max,⟨nH.A.Op,nH.A.N,nH.A.S,nH.A.ar⟩,⟨nH.B.Op,nH.B.N,nH.B.S,nH.B.ar⟩,nH.Body,nH.bz⟩:Stmt) k7)) (λQ4 k7=>some (.bf Q4 k7))) (λxe gA=>some (.bf xe gA))) (λxf r27=>some (.bf xf r27))) (λqp fu=>some (.bf qp fu))) ( (kI n ([100,101,108,101,116,101]:aux) (⟨ae.tokens,fq.2⟩:aX)).bind λoL=>cond oL.1 ( (h2 n 1 0 (⟨ae.tokens,oL.2⟩:aX)).bind λzu=>aE.on zu (λwU nF=>(rB n (⟨4,[],0,wU,⟨0,0,[],[]⟩,[],[]⟩:Stmt) (⟨ae.tokens,nF⟩:aX)).bind λoI=>aE.on oI (λgQ jq=>some (.ret (⟨gQ.Op,gQ.Name,gQ.Max,⟨gQ.A.Op,gQ.A.N,gQ.A.S,gQ.A.ar⟩,⟨gQ.B.Op,gQ.B.N,gQ.B.S,gQ.B.ar⟩,gQ.Body,gQ.bz⟩:Stmt) jq)) (λw9 jq=>some (.bf w9 jq))) (λxg nF=>some (.bf xg nF))) ( (kI n ([101,109,105,116]:aux) (⟨ae.tokens,oL.2⟩:aX)).bind λoH=>cond oH.1 ( (h2 n 1 0 (⟨ae.tokens,oH.2⟩:aX)).bind λIX=>aE.on IX (λDV qq=>(rB n (⟨7,[],0,DV,⟨0,0,[],[]⟩,[],[]⟩:Stmt) (⟨ae.tokens,qq⟩:aX)).bind λzU=>aE.on zU (λk6 El=>some (.ret (⟨k6.Op,k6.Name,k6.Max,⟨k6.A.Op,k6.A.N,k6.A.S,k6.A.ar⟩,⟨k6.B.Op,k6.B.N,k6.B.S,k6.B.ar⟩,k6.Body,k6.bz⟩:Stmt) El)) (λQ5 El=>some (.bf Q5 El))) (λQ6 qq=>some (.bf Q6 qq))) ( (kI n ([97,98,111,114,116]:aux) (⟨ae.tokens,oH.2⟩:aX)).bind λJJ=>cond JJ.1 ( (qo n 3 (⟨ae.tokens,JJ.2⟩:aX)).bind λpo=>aE.on po (λYC Em=>(rB n (⟨8,[],YC.N,⟨0,0,[],[]⟩,⟨0,0,[],[]⟩,[],[]⟩:Stmt) (⟨ae.tokens,Em⟩:aX)).bind λDR=>aE.on DR (λkM uy=>some (.ret (⟨kM.Op,kM.Name,kM.Max,⟨kM.A.Op,kM.A.N,kM.A.S,kM.A.ar⟩,⟨kM.B.Op,kM.B.N,kM.B.S,kM.B.ar⟩,kM.Body,kM.bz⟩:Stmt) uy)) (λQ7 uy=>some (.bf Q7 uy))) (λQ8 Em=>some (.bf Q8 Em))) ( (kI n ([105,102]:aux) (⟨ae.tokens,JJ.2⟩:aX)).bind λJK=>cond JK.1 ( (h2 n 1 0 (⟨ae.tokens,JK.2⟩:aX)).bind λaik=>aE.on aik (λrC En=>(hv depth (⟨ae.tokens,En⟩:aX)).bind λail=>aE.on ail (λxd Eo=>(kI n ([101,108,115,101]:aux) (⟨ae.tokens,Eo⟩:aX)).bind λJL=>cond JL.1 ( (hv depth (⟨ae.tokens,JL.2⟩:aX)).bind λaim=>aE.on aim (λYD Ep=>Ek n hv hS hT ae rC xd Ep YD) (λQ9 Ep=>some (.bf Q9 Ep))) ( Ek n hv hS hT ae rC xd JL.2 ([]:List Stmt))) (λQ' Eo=>some (.bf Q' Eo))) (λQ_ En=>some (.bf Q_ En))) ( (kI n ([102,111,114]:aux) (⟨ae.tokens,JK.2⟩:aX)).bind λJM=>cond JM.1 ( (hT depth (⟨ae.tokens,JM.2⟩:aX)).bind λain=>aE.on ain (λnI Er=>some (.ret (⟨nI.Op,nI.Name,nI.Max,⟨nI.A.Op,nI.A.N,nI.A.S,nI.A.ar⟩,⟨nI.B.Op,nI.B.N,nI.B.S,nI.B.ar⟩,nI.Body,nI.bz⟩:Stmt) Er)) (λRa Er=>some (.bf Ra Er))) ( (qo n 1 (⟨ae.tokens,JM.2⟩:aX)).bind λzq=>aE.on zq (λwS Es=>(kJ n ([61]:aux) (⟨ae.tokens,Es⟩:aX)).bind λaio=>aE.on aio (λIS Et=>(h2 n 1 0 (⟨ae.tokens,Et⟩:aX)).bind λaip=>aE.on aip (λYE Eu=>(rB n (⟨2,wS.Text,0,YE,⟨0,0,[],[]⟩,[],[]⟩:Stmt) (⟨ae.tokens,Eu⟩:aX)).bind λaiq=>aE.on aiq (λnJ ux=>some (.ret (⟨nJ.Op,nJ.Name,nJ.Max,⟨nJ.A.Op,nJ.A.N,nJ.A.S,nJ.A.ar⟩,⟨nJ.B.Op,nJ.B.N,nJ.B.S,nJ.B.ar⟩,nJ.Body,nJ.bz⟩:Stmt) ux)) (λRb ux=>some (.bf Rb ux))) (λRc Eu=>some (.bf Rc Eu))) (λRd Et=>some (.bf Rd Et))) (λRe Es=>some (.bf Re Es)))))))))
def JN(hv:Int→aX→Option (aE (List Stmt) Int))(hS:Int→aX→Option (aE Stmt Int))(hT:Int→aX→Option (aE Stmt Int))(depth:Int)(ae:aX):Option (aE Stmt Int):=(qo n 1 ae).bind λr1=>aE.on r1 (λr2 r3=>(kJ n ([61]:aux) (⟨ae.tokens,r3⟩:aX)).bind λb'=>aE.on b' (λbO cU=>(h2 n 1 0 (⟨ae.tokens,cU⟩:aX)).bind λcR=>aE.on cR (λdh b5=>(kJ n ([116,111]:aux) (⟨ae.tokens,b5⟩:aX)).bind λdS=>aE.on dS (λeZ dT=>(h2 n 1 0 (⟨ae.tokens,dT⟩:aX)).bind λe0=>aE.on e0 (λgt fq=>(kJ n ([109,97,120]:aux) (⟨ae.tokens,fq⟩:aX)).bind λfE=>aE.on fE (λet fu=>(qo n 3 (⟨ae.tokens,fu⟩:aX)).bind λf_=>aE.on f_ (λr26 r27=>(hv depth (⟨ae.tokens,r27⟩:aX)).bind λfK=>aE.on fK (λiq gA=>some (.ret (⟨6,r2.Text,r26.N,dh,gt,iq,[]⟩:Stmt) gA)) (λxe gA=>some (.bf xe gA))) (λxf r27=>some (.bf xf r27))) (λqp fu=>some (.bf qp fu))) (λRf fq=>some (.bf Rf fq))) (λxb dT=>some (.bf xb dT))) (λm_ b5=>some (.bf m_ b5))) (λjF cU=>some (.bf jF cU))) (λfr r3=>some (.bf fr r3))
def pp:Nat→(Int→aX→Option (aE (List Stmt) Int))×(Int→aX→Option (aE Stmt Int))×(Int→aX→Option (aE Stmt Int))
 | 0=>(λ_ _=>none,λ_ _=>none,λ_ _=>none)
 |m+1=>(JG m ((pp m).1) ((pp m).2.1) ((pp m).2.2),pn m ((pp m).1) ((pp m).2.1) ((pp m).2.2),JN m ((pp m).1) ((pp m).2.1) ((pp m).2.2))
def rD:Int→aX→Option (aE (List Stmt) Int):=(pp n).1
def xh:Int→aX→Option (aE Stmt Int):=(pp n).2.1
def z':Int→aX→Option (aE Stmt Int):=(pp n).2.2
def z_(n:Nat)(ae:aX)(r2:Token)(dK:Int)(a1:Int):Option (aE Param Int):=some (.ret (⟨r2.Text,a1⟩:Param) dK)
def Ev(ae:aX):Option (aE Param Int):=(qo n 1 ae).bind λr1=>aE.on r1 (λr2 r3=>(kJ n ([58]:aux) (⟨ae.tokens,r3⟩:aX)).bind λb'=>aE.on b' (λbO cU=>(kI n ([105,110,116]:aux) (⟨ae.tokens,cU⟩:aX)).bind λcR=>cond cR.1 ( z_ n ae r2 cR.2 1) ( (kI n ([115,116,114]:aux) (⟨ae.tokens,cR.2⟩:aX)).bind λdh=>cond dh.1 ( z_ n ae r2 dh.2 2) ( (kI n ([98,111,111,108]:aux) (⟨ae.tokens,dh.2⟩:aX)).bind λb5=>cond b5.1 ( z_ n ae r2 b5.2 3) ( (s3 n 5 (⟨ae.tokens,b5.2⟩:aX)).bind λeV=>aE.on eV (λdS eZ=>z_ n ae r2 b5.2 0) (λRg eZ=>some (.bf Rg b5.2)))))) (λjF cU=>some (.bf jF cU))) (λfr r3=>some (.bf fr r3))
def Ew(ae:aX)(bO:Token)(JO:Int)(JP:List Param):Option (aE bb Int):=(rD n 0 (⟨ae.tokens,JO⟩:aX)).bind λjq=>aE.on jq (λDU oH=>some (.ret (⟨bO.Text,JP,DU⟩:bb) oH)) (λRh oH=>some (.bf Rh oH))
def JQ(ae:aX)(bO:Token)(v37:Int)(iH:List Param):Option (aE bb Int):=(kJ n ([41]:aux) (⟨ae.tokens,v37⟩:aX)).bind λzu=>aE.on zu (λwU nF=>Ew n ae bO nF iH) (λxg nF=>some (.bf xg nF))
def JR(ae:aX)(bO:Token)(ef:Int→(List Param)→Option (aE bb Int))(nG:Int)(v28:List Param):Option (aE bb Int):=(kI n ([44]:aux) (⟨ae.tokens,nG⟩:aX)).bind λfK=>cond fK.1 ( (Ev n (⟨ae.tokens,fK.2⟩:aX)).bind λiq=>aE.on iq (λgA my=>ax (room (v28.length+([gA]:List Param).length) 24)<|ef my (v28++([gA]:List Param))) (λxa my=>some (.bf xa my))) ( JQ n ae bO fK.2 v28)
def Aa(n:Nat)(ae:aX)(bO:Token):Nat→Int→(List Param)→Option (aE bb Int)
 | 0=>λ_ _=>none
 |m+1=>JR n ae bO (Aa n ae bO m)
def Ex(ae:aX):Option (aE bb Int):=(kJ n ([112,114,111,99]:aux) ae).bind λr1=>aE.on r1 (λr2 r3=>(qo n 1 (⟨ae.tokens,r3⟩:aX)).bind λb'=>aE.on b' (λbO cU=>(kJ n ([40]:aux) (⟨ae.tokens,cU⟩:aX)).bind λcR=>aE.on cR (λdh b5=>(kI n ([41]:aux) (⟨ae.tokens,b5⟩:aX)).bind λdS=>cond (!dS.1) ( (Ev n (⟨ae.tokens,dS.2⟩:aX)).bind λeZ=>aE.on eZ (λdT eH=>ax (room (([]:List Param).length+([dT]:List Param).length) 24)<|Aa n ae bO n eH (([]:List Param)++([dT]:List Param))) (λRi eH=>some (.bf Ri eH))) ( Ew n ae bO dS.2 ([]:List Param))) (λm_ b5=>some (.bf m_ b5))) (λjF cU=>some (.bf jF cU))) (λfr r3=>some (.bf fr r3))
def Rj(ae:aX)(gz:bb):Option (aE Unit (Int×aux×(List Param)×(List Stmt))):=(Ex n ae).bind λr1=>aE.on r1 (λr2 r3=>some (.ret () (r3,r2.Name,r2.Params,r2.Body))) (λfr r3=>some (.bf fr (r3,gz.Name,gz.Params,gz.Body)))
def YF(n:Nat)(ae:aX):Option (aE Unit Unit):=ax (aL (auz (((ae.tokens.length:Nat):Int)-1)) ae.tokens.length)<|some (.bf (.iface 332 (.agg [.int .i64 ((auA ae.tokens (auz (((ae.tokens.length:Nat):Int)-1))).lE),.int .i64 6])) ())
def YG(ae:aX):Option (aE Unit Unit):=cond (decide (((ae.tokens.length:Nat):Int)=0)) ( some (.bf (.iface 332 (.agg [.int .i64 1,.int .i64 6])) ())) ( YF n ae)
def YH(code:Int)(ae:aX):Option (aE Unit Unit):=cond (decide (ae.at_<((ae.tokens.length:Nat):Int))) ( ax (aL ae.at_ ae.tokens.length)<|some (.bf (.iface 332 (.agg [.int .i64 ((auA ae.tokens (ae.at_)).lE),.int .i64 code])) ())) ( YG n ae)
def JS(src:aux)(ae:bb):Option (Int×Int×aux×(List Param)×(List Stmt)):=(w8 n src).bind λr1=>cond (!decide (r1.2.2=0)) (some (r1.2.1,r1.2.2,ae.Name,ae.Params,ae.Body)) ((Rj n (⟨r1.1,0⟩:aX) ae).bind λr2=>aE.on r2 (λcE nK=>cond (decide (nK.1<((r1.1.length:Nat):Int))) ((YH n 5 (⟨r1.1,nK.1⟩:aX)).bind λr3=>aE.on r3 (λcG Rk=>none) (λeW Rk=>(HF 332 eW).bind λlc=>some (lc.1,lc.2,nK.2.1,nK.2.2.1,nK.2.2.2))) (some (0,0,nK.2.1,nK.2.2.1,nK.2.2.2))) (λeW nK=>(HF 332 eW).bind λlc=>some (lc.1,lc.2,nK.2.1,nK.2.2.1,nK.2.2.2)))
def JT(n:Nat)(r1:Int×Int×aux×(List Param)×(List Stmt))(v3:Int):Option (bb×Int×Int):=cond (!decide (v3=0)) ( some ((⟨[],[],[]⟩:bb),r1.1,v3)) ( some ((⟨r1.2.2.1,r1.2.2.2.1,r1.2.2.2.2⟩:bb),0,0))
def Ey(src:aux):Option (bb×Int×Int):=(JS n src (⟨[],[],[]⟩:bb)).bind λr1=>cond (decide (r1.2.1=0)) ( (DD n (⟨r1.2.2.1,r1.2.2.2.1,r1.2.2.2.2⟩:bb)).bind λr2=>JT n r1 r2) ( JT n r1 r1.2.1)
def Rl(n:Nat)(bC:List bb):Option ((List bb)×Bool):=some (bC,true)
def JU(l:List aux)(al:Int→(List bb)→Option ((List bb)×Bool))(bB:Int)(bv:List bb):Option ((List bb)×Bool):=cond (decide (bB<((l.length:Nat):Int))) ( ax (aL bB l.length)<|(Ey n (auA l bB)).bind λdh=>Option.bind (cond (!(!decide (dh.2.2=0))) (uw n dh.1) (some default)) λb5=>cond (cond (!decide (dh.2.2=0)) true (!(decide (b5=(auA l bB))))) ( some (([]:List bb),false)) ( ax (room (bv.length+([dh.1]:List bb).length) 64)<|al (auz (bB+1)) (bv++([dh.1]:List bb)))) ( Rl n bv)
def Ac(n:Nat)(l:List aux):Nat→Int→(List bb)→Option ((List bb)×Bool)
 | 0=>λ_ _=>none
 |m+1=>JU n l (Ac n l m)
def Ad(l:List aux):Option ((List bb)×Bool):=Ac n l n 0 ([]:List bb)
def Rm(n:Nat)(at_:Int)(cw:List Row):Option (az×Int):=some ((⟨at_,at_,cw⟩:az),0)
def JV(at_:Int)(l:List bo)(al:(List Row)→Int→Option (az×Int))(bB:List Row)(bv:Int):Option (az×Int):=cond (decide (bv<((l.length:Nat):Int))) ( ax (aL bv l.length)<|ax (room (bB.length+([(⟨(auA l bv).Key,[⟨at_,⟨((auA l bv).br).Kind,((auA l bv).br).N,((auA l bv).br).S⟩⟩]⟩:Row)]:List Row).length) 40)<|al (bB++([(⟨(auA l bv).Key,[⟨at_,⟨((auA l bv).br).Kind,((auA l bv).br).N,((auA l bv).br).S⟩⟩]⟩:Row)]:List Row)) (auz (bv+1))) ( Rm n at_ bB)
def Ae(n:Nat)(at_:Int)(l:List bo):Nat→(List Row)→Int→Option (az×Int)
 | 0=>λ_ _=>none
 |m+1=>JV n at_ l (Ae n at_ l m)
def Af(l:List bo)(at_:Int):Option (az×Int):=(D0 n l).bind λr1=>cond (cond (cond (!r1) true (decide (at_<0))) true (decide (1099511627776<at_))) ( some ((⟨0,0,[]⟩:az),1)) ( Ae n at_ l n ([]:List Row) 0)
def Ez(s:aux):Option (bU×Int):=(Ed n (⟨s,0,0⟩:fp)).bind λr1=>cond (!decide (r1.2.2=0)) ( some ((⟨0,⟨0,0,[]⟩,[],[],⟨0,[]⟩,[],[],0⟩:bU),r1.2.2)) ( cond (cond (cond (!decide (r1.2.1=((s.length:Nat):Int))) true (decide (r1.1.gh.Pos<0))) true (decide (1099511627776<r1.1.gh.Pos))) ( some ((⟨0,⟨0,0,[]⟩,[],[],⟨0,[]⟩,[],[],0⟩:bU),5)) ( (Ad n r1.1.sources).bind λbx=>cond (!bx.2) ( some ((⟨0,⟨0,0,[]⟩,[],[],⟨0,[]⟩,[],[],0⟩:bU),5)) ( (Af n r1.1.Pj r1.1.gh.Pos).bind λbO=>cond (!decide (bO.2=0)) ( some ((⟨0,⟨0,0,[]⟩,[],[],⟨0,[]⟩,[],[],0⟩:bU),5)) ( (rz n (⟨r1.1.gh.Pos,bO.1,bx.1,r1.1.gh.cJ,r1.1.gh.Place,r1.1.gh.bh,r1.1.gh.Queue,r1.1.gh.de⟩:bU)).bind λcW=>cond (!cW) ( some ((⟨0,⟨0,0,[]⟩,[],[],⟨0,[]⟩,[],[],0⟩:bU),5)) ( some ((⟨r1.1.gh.Pos,bO.1,bx.1,r1.1.gh.cJ,r1.1.gh.Place,r1.1.gh.bh,r1.1.gh.Queue,r1.1.gh.de⟩:bU),0))))))
def YI(s:aux):Option (bU×Int):=cond (decide (16384<((s.length:Nat):Int))) ( some ((⟨0,⟨0,0,[]⟩,[],[],⟨0,[]⟩,[],[],0⟩:bU),2)) ( (Ez n s).bind λr2=>some (r2.1,r2.2))
def Ag(a:bU)(b:bU):auB:=(rz n a).bind λr1=>Option.bind (cond r1 (rz n b) (some default)) λr2=>Option.bind (cond (cond r1 r2 false) (sU n a) (some default)) λr3=>Option.bind (cond (cond r1 r2 false) (sU n b) (some default)) λbx=>some (cond (cond r1 r2 false) (decide (r3=bx)) false)
def JW(n:Nat)(nL:Expr→Expr→auB):auB:=some true
def EA(nL:Expr→Expr→auB)(a:Expr)(b:Expr)(al:Int→auB)(v6:Int):auB:=cond (decide (v6<((a.ar.length:Nat):Int))) ( ax (aL v6 a.ar.length)<|ax (aL v6 b.ar.length)<|(nL (auA a.ar v6) (auA b.ar v6)).bind λcR=>cond (!cR) ( some false) ( al (auz (v6+1)))) ( JW n nL)
def uH(n:Nat)(nL:Expr→Expr→auB)(a:Expr)(b:Expr):Nat→Int→auB
 | 0=>λ_=>none
 |m+1=>EA n nL a b (uH n nL a b m)
def JX(nL:Expr→Expr→auB)(a:Expr)(b:Expr):auB:=cond (cond (cond (cond (!decide (a.Op=b.Op)) true (!decide (a.N=b.N))) true (!(decide (a.S=b.S)))) true (!decide (((a.ar.length:Nat):Int)=((b.ar.length:Nat):Int)))) ( some false) ( uH n nL a b n 0)
def rE:Nat→Expr→Expr→auB
 | 0=>λ_ _=>none
 |m+1=>JX m (rE m)
def JY(n:Nat)(nb:(List Stmt)→(List Stmt)→auB):auB:=some true
def EB(nb:(List Stmt)→(List Stmt)→auB)(a:List Stmt)(b:List Stmt)(al:Int→auB)(v9:Int):auB:=cond (decide (v9<((a.length:Nat):Int))) ( ax (aL v9 a.length)<|ax (aL v9 b.length)<|Option.bind (cond (!(cond (cond (!decide ((auA a v9).Op=(auA b v9).Op)) true (!(decide (((auA a v9).Name)=((auA b v9).Name))))) true (!decide ((auA a v9).Max=(auA b v9).Max)))) (rE n (⟨((auA a v9).A).Op,((auA a v9).A).N,((auA a v9).A).S,((auA a v9).A).ar⟩:Expr) (⟨((auA b v9).A).Op,((auA b v9).A).N,((auA b v9).A).S,((auA b v9).A).ar⟩:Expr)) (some default)) λeV=>Option.bind (cond (!(cond (cond (cond (!decide ((auA a v9).Op=(auA b v9).Op)) true (!(decide (((auA a v9).Name)=((auA b v9).Name))))) true (!decide ((auA a v9).Max=(auA b v9).Max))) true (!eV))) (rE n (⟨((auA a v9).B).Op,((auA a v9).B).N,((auA a v9).B).S,((auA a v9).B).ar⟩:Expr) (⟨((auA b v9).B).Op,((auA b v9).B).N,((auA b v9).B).S,((auA b v9).B).ar⟩:Expr)) (some default)) λdS=>Option.bind (cond (!(cond (cond (cond (cond (!decide ((auA a v9).Op=(auA b v9).Op)) true (!(decide (((auA a v9).Name)=((auA b v9).Name))))) true (!decide ((auA a v9).Max=(auA b v9).Max))) true (!eV)) true (!dS))) (nb ((auA a v9).Body) ((auA b v9).Body)) (some default)) λeZ=>Option.bind (cond (!(cond (cond (cond (cond (cond (!decide ((auA a v9).Op=(auA b v9).Op)) true (!(decide (((auA a v9).Name)=((auA b v9).Name))))) true (!decide ((auA a v9).Max=(auA b v9).Max))) true (!eV)) true (!dS)) true (!eZ))) (nb ((auA a v9).bz) ((auA b v9).bz)) (some default)) λdT=>cond (cond (cond (cond (cond (cond (cond (!decide ((auA a v9).Op=(auA b v9).Op)) true (!(decide (((auA a v9).Name)=((auA b v9).Name))))) true (!decide ((auA a v9).Max=(auA b v9).Max))) true (!eV)) true (!dS)) true (!eZ)) true (!dT)) ( some false) ( al (auz (v9+1)))) ( JY n nb)
def uI(n:Nat)(nb:(List Stmt)→(List Stmt)→auB)(a:List Stmt)(b:List Stmt):Nat→Int→auB
 | 0=>λ_=>none
 |m+1=>EB n nb a b (uI n nb a b m)
def JZ(nb:(List Stmt)→(List Stmt)→auB)(a:List Stmt)(b:List Stmt):auB:=cond (!decide (((a.length:Nat):Int)=((b.length:Nat):Int))) ( some false) ( uI n nb a b n 0)
def s4:Nat→(List Stmt)→(List Stmt)→auB
 | 0=>λ_ _=>none
 |m+1=>JZ m (s4 m)
def EC(a:bb)(b:bb):auB:=(s4 n a.Body b.Body).bind λcR=>some cR
def ED(a:bb)(b:bb)(al:Int→auB)(v5:Int):auB:=cond (decide (v5<((a.Params.length:Nat):Int))) ( ax (aL v5 a.Params.length)<|ax (aL v5 b.Params.length)<|cond (!((decide ((auA a.Params v5).Name=(auA b.Params v5).Name))&&((decide ((auA a.Params v5).fi=(auA b.Params v5).fi))&&true))) ( some false) ( al (auz (v5+1)))) ( EC n a b)
def uJ(n:Nat)(a:bb)(b:bb):Nat→Int→auB
 | 0=>λ_=>none
 |m+1=>ED n a b (uJ n a b m)
def Ah(a:bb)(b:bb):auB:=cond (cond (!(decide (a.Name=b.Name))) true (!decide (((a.Params.length:Nat):Int)=((b.Params.length:Nat):Int)))) ( some false) ( uJ n a b n 0)
def J0(n:Nat):auB:=some true
def Ai(a:List bb)(b:List bb)(al:Int→auB)(v6:Int):auB:=cond (decide (v6<((a.length:Nat):Int))) ( ax (aL v6 a.length)<|ax (aL v6 b.length)<|(Ah n (auA a v6) (auA b v6)).bind λcR=>cond (!cR) ( some false) ( al (auz (v6+1)))) ( J0 n)
def uK(n:Nat)(a:List bb)(b:List bb):Nat→Int→auB
 | 0=>λ_=>none
 |m+1=>Ai n a b (uK n a b m)
def Aj(a:List bb)(b:List bb):auB:=cond (!decide (((a.length:Nat):Int)=((b.length:Nat):Int))) ( some false) ( uK n a b n 0)
def J1(n:Nat):auB:=some true
def J2(n:Nat)(al:Int→auB)(v12:Int)(a:az)(b:az):auB:=al (auz (v12+1))
def Ak(al:Int→auB)(v12:Int)(a:az)(b:az)(ec:Int→auB)(co:Int):auB:=cond (decide (co<((((auA a.Rows v12).bj).length:Nat):Int))) ( ax (aL co ((auA a.Rows v12).bj).length)<|ax (aL co ((auA b.Rows v12).bj).length)<|cond (!((decide ((((auA a.Rows v12).bj).getD (co).toNat default).cl=(((auA b.Rows v12).bj).getD (co).toNat default).cl))&&((decide (((((auA a.Rows v12).bj).getD (co).toNat default).br).Kind=((((auA b.Rows v12).bj).getD (co).toNat default).br).Kind))&&((decide (((((auA a.Rows v12).bj).getD (co).toNat default).br).N=((((auA b.Rows v12).bj).getD (co).toNat default).br).N))&&((decide (((((auA a.Rows v12).bj).getD (co).toNat default).br).S=((((auA b.Rows v12).bj).getD (co).toNat default).br).S))&&true))))) ( some false) ( ec (auz (co+1)))) ( J2 n al v12 a b)
def s5(n:Nat)(al:Int→auB)(v12:Int)(a:az)(b:az):Nat→Int→auB
 | 0=>λ_=>none
 |m+1=>Ak n al v12 a b (s5 n al v12 a b m)
def Al(a:az)(b:az)(al:Int→auB)(v12:Int):auB:=cond (decide (v12<((a.Rows.length:Nat):Int))) ( ax (aL v12 a.Rows.length)<|ax (aL v12 b.Rows.length)<|cond (cond (!(decide (((auA a.Rows v12).Key)=((auA b.Rows v12).Key)))) true (!decide (((((auA a.Rows v12).bj).length:Nat):Int)=((((auA b.Rows v12).bj).length:Nat):Int)))) ( some false) ( s5 n al v12 a b n 0)) ( J1 n)
def pq(n:Nat)(a:az)(b:az):Nat→Int→auB
 | 0=>λ_=>none
 |m+1=>Al n a b (pq n a b m)
def Am(a:az)(b:az):auB:=cond (cond (cond (!decide (a.cd=b.cd)) true (!decide (a.b2=b.b2))) true (!decide (((a.Rows.length:Nat):Int)=((b.Rows.length:Nat):Int)))) ( some false) ( pq n a b n 0)
def J3(n:Nat):auB:=some true
def An(a:b7)(b:b7)(al:Int→auB)(v5:Int):auB:=cond (decide (v5<((a.aD.length:Nat):Int))) ( ax (aL v5 a.aD.length)<|ax (aL v5 b.aD.length)<|cond (!((decide ((auA a.aD v5).Id=(auA b.aD v5).Id))&&((decide ((auA a.aD v5).dY=(auA b.aD v5).dY))&&((decide ((auA a.aD v5).Node=(auA b.aD v5).Node))&&((decide ((auA a.aD v5).ft=(auA b.aD v5).ft))&&((decide ((auA a.aD v5).gI=(auA b.aD v5).gI))&&true)))))) ( some false) ( al (auz (v5+1)))) ( J3 n)
def uL(n:Nat)(a:b7)(b:b7):Nat→Int→auB
 | 0=>λ_=>none
 |m+1=>An n a b (uL n a b m)
def Ao(a:b7)(b:b7):auB:=cond (cond (!decide (a.Version=b.Version)) true (!decide (((a.aD.length:Nat):Int)=((b.aD.length:Nat):Int)))) ( some false) ( uL n a b n 0)
def J4(n:Nat):auB:=some true
def Ap(a:List bh)(b:List bh)(al:Int→auB)(v5:Int):auB:=cond (decide (v5<((a.length:Nat):Int))) ( ax (aL v5 a.length)<|ax (aL v5 b.length)<|cond (!((decide ((auA a v5).Key=(auA b v5).Key))&&((decide ((auA a v5).Count=(auA b v5).Count))&&true))) ( some false) ( al (auz (v5+1)))) ( J4 n)
def uM(n:Nat)(a:List bh)(b:List bh):Nat→Int→auB
 | 0=>λ_=>none
 |m+1=>Ap n a b (uM n a b m)
def Aq(a:List bh)(b:List bh):auB:=cond (!decide (((a.length:Nat):Int)=((b.length:Nat):Int))) ( some false) ( uM n a b n 0)
def J5(n:Nat):auB:=some true
def Ar(a:List aux)(b:List aux)(al:Int→auB)(v5:Int):auB:=cond (decide (v5<((a.length:Nat):Int))) ( ax (aL v5 a.length)<|ax (aL v5 b.length)<|cond (!(decide ((auA a v5)=(auA b v5)))) ( some false) ( al (auz (v5+1)))) ( J5 n)
def uN(n:Nat)(a:List aux)(b:List aux):Nat→Int→auB
 | 0=>λ_=>none
 |m+1=>Ar n a b (uN n a b m)
def xi(a:List aux)(b:List aux):auB:=cond (!decide (((a.length:Nat):Int)=((b.length:Nat):Int))) ( some false) ( uN n a b n 0)
def xj(a:fc)(b:fc):auB:=Option.bind (cond (a.dH == b.dH) (xi n a.Reads b.Reads) (some default)) λr1=>Option.bind (cond (cond (a.dH == b.dH) r1 false) (xi n a.cm b.cm) (some default)) λr2=>some (cond (cond (a.dH == b.dH) r1 false) r2 false)
def J6(n:Nat):auB:=some true
def As(a:Request)(b:Request)(al:Int→auB)(v6:Int):auB:=cond (decide (v6<((a.ar.length:Nat):Int))) ( ax (aL v6 a.ar.length)<|ax (aL v6 b.ar.length)<|cond (!((decide ((auA a.ar v6).Kind=(auA b.ar v6).Kind))&&((decide ((auA a.ar v6).N=(auA b.ar v6).N))&&((decide ((auA a.ar v6).S=(auA b.ar v6).S))&&true)))) ( some false) ( al (auz (v6+1)))) ( J6 n)
def uO(n:Nat)(a:Request)(b:Request):Nat→Int→auB
 | 0=>λ_=>none
 |m+1=>As n a b (uO n a b m)
def At(a:Request)(b:Request):auB:=Option.bind (cond (!(cond (cond (cond (cond (!decide (a.Client=b.Client)) true (!decide (a.Seq=b.Seq))) true (!(decide (a.bb=b.bb)))) true (!(a.ez == b.ez))) true (!decide (((a.ar.length:Nat):Int)=((b.ar.length:Nat):Int))))) (xj n a.bk b.bk) (some default)) λr1=>cond (cond (cond (cond (cond (cond (!decide (a.Client=b.Client)) true (!decide (a.Seq=b.Seq))) true (!(decide (a.bb=b.bb)))) true (!(a.ez == b.ez))) true (!decide (((a.ar.length:Nat):Int)=((b.ar.length:Nat):Int)))) true (!r1)) ( some false) ( uO n a b n 0)
def J7(n:Nat):auB:=some true
def Au(a:Outcome)(b:Outcome)(al:Int→auB)(v5:Int):auB:=cond (decide (v5<((a.Out.length:Nat):Int))) ( ax (aL v5 a.Out.length)<|ax (aL v5 b.Out.length)<|cond (!((decide ((auA a.Out v5).Kind=(auA b.Out v5).Kind))&&((decide ((auA a.Out v5).N=(auA b.Out v5).N))&&((decide ((auA a.Out v5).S=(auA b.Out v5).S))&&true)))) ( some false) ( al (auz (v5+1)))) ( J7 n)
def uP(n:Nat)(a:Outcome)(b:Outcome):Nat→Int→auB
 | 0=>λ_=>none
 |m+1=>Au n a b (uP n a b m)
def s6(a:Outcome)(b:Outcome):auB:=cond (cond (cond (!decide (a.Status=b.Status)) true (!decide (a.Code=b.Code))) true (!decide (((a.Out.length:Nat):Int)=((b.Out.length:Nat):Int)))) ( some false) ( uP n a b n 0)
def EE(a:eN)(b:eN):auB:=Option.bind (cond (cond (decide (a.Client=b.Client)) (decide (a.Seq=b.Seq)) false) (s6 n a.Outcome b.Outcome) (some default)) λr1=>some (cond (cond (decide (a.Client=b.Client)) (decide (a.Seq=b.Seq)) false) r1 false)
def J8(n:Nat):auB:=some true
def Av(a:List eN)(b:List eN)(al:Int→auB)(v6:Int):auB:=cond (decide (v6<((a.length:Nat):Int))) ( ax (aL v6 a.length)<|ax (aL v6 b.length)<|(EE n (auA a v6) (auA b v6)).bind λcR=>cond (!cR) ( some false) ( al (auz (v6+1)))) ( J8 n)
def uQ(n:Nat)(a:List eN)(b:List eN):Nat→Int→auB
 | 0=>λ_=>none
 |m+1=>Av n a b (uQ n a b m)
def Aw(a:List eN)(b:List eN):auB:=cond (!decide (((a.length:Nat):Int)=((b.length:Nat):Int))) ( some false) ( uQ n a b n 0)
def J9(n:Nat):auB:=some true
def Ax(a:List bL)(b:List bL)(al:Int→auB)(v10:Int):auB:=cond (decide (v10<((a.length:Nat):Int))) ( ax (aL v10 a.length)<|ax (aL v10 b.length)<|ax ((!decide ((auA a v10).Client=(auA b v10).Client))||aL v10 a.length)<|ax ((!decide ((auA a v10).Client=(auA b v10).Client))||aL v10 b.length)<|ax ((cond (!decide ((auA a v10).Client=(auA b v10).Client)) true (!decide ((auA a v10).Next=(auA b v10).Next)))||aL v10 a.length)<|ax ((cond (!decide ((auA a v10).Client=(auA b v10).Client)) true (!decide ((auA a v10).Next=(auA b v10).Next)))||aL v10 b.length)<|Option.bind (cond (!(cond (!decide ((auA a v10).Client=(auA b v10).Client)) true (!decide ((auA a v10).Next=(auA b v10).Next)))) (Aw n ((auA a v10).bJ) ((auA b v10).bJ)) (some default)) λe0=>cond (cond (cond (!decide ((auA a v10).Client=(auA b v10).Client)) true (!decide ((auA a v10).Next=(auA b v10).Next))) true (!e0)) ( some false) ( al (auz (v10+1)))) ( J9 n)
def s7(n:Nat)(a:List bL)(b:List bL):Nat→Int→auB
 | 0=>λ_=>none
 |m+1=>Ax n a b (s7 n a b m)
def Ay(a:List bL)(b:List bL):auB:=cond (!decide (((a.length:Nat):Int)=((b.length:Nat):Int))) ( some false) ( s7 n a b n 0)
def J'(n:Nat):auB:=some true
def Az(a:bU)(b:bU)(al:Int→auB)(v11:Int):auB:=cond (decide (v11<((a.Queue.length:Nat):Int))) ( ax (aL v11 a.Queue.length)<|ax (aL v11 b.Queue.length)<|(At n (auA a.Queue v11) (auA b.Queue v11)).bind λeZ=>cond (!eZ) ( some false) ( al (auz (v11+1)))) ( J' n)
def s8(n:Nat)(a:bU)(b:bU):Nat→Int→auB
 | 0=>λ_=>none
 |m+1=>Az n a b (s8 n a b m)
def s9(a:bU)(b:bU):auB:=Option.bind (cond (!(cond (!decide (a.Pos=b.Pos)) true (!decide (a.de=b.de)))) (Am n a.az b.az) (some default)) λr1=>Option.bind (cond (!(cond (cond (!decide (a.Pos=b.Pos)) true (!decide (a.de=b.de))) true (!r1))) (Aj n a.cc b.cc) (some default)) λr2=>Option.bind (cond (!(cond (cond (cond (!decide (a.Pos=b.Pos)) true (!decide (a.de=b.de))) true (!r1)) true (!r2))) (Ay n a.cJ b.cJ) (some default)) λr3=>Option.bind (cond (!(cond (cond (cond (cond (!decide (a.Pos=b.Pos)) true (!decide (a.de=b.de))) true (!r1)) true (!r2)) true (!r3))) (Ao n a.Place b.Place) (some default)) λbx=>Option.bind (cond (!(cond (cond (cond (cond (cond (!decide (a.Pos=b.Pos)) true (!decide (a.de=b.de))) true (!r1)) true (!r2)) true (!r3)) true (!bx))) (Aq n a.bh b.bh) (some default)) λb'=>cond (cond (cond (cond (cond (cond (cond (cond (!decide (a.Pos=b.Pos)) true (!decide (a.de=b.de))) true (!r1)) true (!r2)) true (!r3)) true (!bx)) true (!b')) true (!decide (((a.Queue.length:Nat):Int)=((b.Queue.length:Nat):Int)))) ( some false) ( s8 n a b n 0)
def J_:auB:=(Yy n (⟨0,⟨0,0,[]⟩,[],[],⟨0,[⟨1,[],1,0,[]⟩]⟩,[],[],0⟩:bU)).bind λr1=>(YI n r1.1).bind λr2=>Option.bind (cond (cond (decide (r1.1=([0,0,0,0,0,1,2,0,2,0,0,0,0,0]:aux))) (decide (r1.2=0)) false) (s9 n r2.1 (⟨0,⟨0,0,[]⟩,[],[],⟨0,[⟨1,[],1,0,[]⟩]⟩,[],[],0⟩:bU)) (some default)) λr3=>Option.bind (cond (cond (cond (cond (decide (r1.1=([0,0,0,0,0,1,2,0,2,0,0,0,0,0]:aux))) (decide (r1.2=0)) false) r3 false) (decide (r2.2=0)) false) (Ag n (⟨2,⟨2,2,[⟨[120],[⟨2,⟨1,1,[]⟩⟩]⟩]⟩,[],[],⟨0,[⟨1,[],1,0,[]⟩]⟩,[],[],0⟩:bU) (⟨2,⟨1,2,[⟨[119],[⟨1,⟨1,1,[]⟩⟩,⟨2,⟨0,0,[]⟩⟩]⟩,⟨[120],[⟨1,⟨1,1,[]⟩⟩]⟩]⟩,[],[],⟨0,[⟨1,[],1,0,[]⟩]⟩,[],[],0⟩:bU)) (some default)) λbx=>Option.bind (cond (cond (cond (cond (cond (decide (r1.1=([0,0,0,0,0,1,2,0,2,0,0,0,0,0]:aux))) (decide (r1.2=0)) false) r3 false) (decide (r2.2=0)) false) bx false) (Ag n (⟨2,⟨2,2,[⟨[120],[⟨2,⟨1,1,[]⟩⟩]⟩]⟩,[],[],⟨0,[⟨1,[],1,0,[]⟩]⟩,[],[],0⟩:bU) (⟨0,⟨0,0,[]⟩,[],[],⟨0,[⟨1,[],1,0,[]⟩]⟩,[],[],0⟩:bU)) (some default)) λb'=>some (cond (cond (cond (cond (cond (decide (r1.1=([0,0,0,0,0,1,2,0,2,0,0,0,0,0]:aux))) (decide (r1.2=0)) false) r3 false) (decide (r2.2=0)) false) bx false) (!b') false)
def Rn(n:Nat)(k:aux):auB:=some (cond (decide (1≤((k.length:Nat):Int))) (decide (((k.length:Nat):Int)≤24)) false)
def Ka(k:aux)(al:Int→auB)(v3:Int):auB:=cond (decide (v3<((k.length:Nat):Int))) ( ax (aL v3 k.length)<|cond (cond (cond (cond (cond (cond (cond (decide ((((k.getD (v3).toNat 0).toNat:Nat):Int)<97)) true (decide (122<(((k.getD (v3).toNat 0).toNat:Nat):Int)))) (cond (decide ((((k.getD (v3).toNat 0).toNat:Nat):Int)<48)) true (decide (57<(((k.getD (v3).toNat 0).toNat:Nat):Int)))) false) (!decide ((((k.getD (v3).toNat 0).toNat:Nat):Int)=47)) false) (!decide ((((k.getD (v3).toNat 0).toNat:Nat):Int)=46)) false) (!decide ((((k.getD (v3).toNat 0).toNat:Nat):Int)=95)) false) (!decide ((((k.getD (v3).toNat 0).toNat:Nat):Int)=45)) false) ( some false) ( al (auz (v3+1)))) ( Rn n k)
def AA(n:Nat)(k:aux):Nat→Int→auB
 | 0=>λ_=>none
 |m+1=>Ka n k (AA n k m)
def xk(k:aux):auB:=AA n k n 0
def YJ(n:Nat):auB:=some true
def Ro(s:aux)(al:Int→auB)(v5:Int):auB:=cond (decide (v5<((s.length:Nat):Int))) ( ax (aL v5 s.length)<|ax ((decide ((((s.getD (v5).toNat 0).toNat:Nat):Int)<32))||aL v5 s.length)<|cond (cond (decide ((((s.getD (v5).toNat 0).toNat:Nat):Int)<32)) true (decide (126<(((s.getD (v5).toNat 0).toNat:Nat):Int)))) ( some false) ( al (auz (v5+1)))) ( YJ n)
def EF(n:Nat)(s:aux):Nat→Int→auB
 | 0=>λ_=>none
 |m+1=>Ro n s (EF n s m)
def Kb(s:aux):auB:=cond (decide (64<((s.length:Nat):Int))) ( some false) ( EF n s n 0)
def uR(v:bq):auB:=cond (decide (v.Kind=0)) ( some (cond (decide (v.N=0)) (decide (v.S=([]:aux))) false)) ( cond (decide (v.Kind=1)) ( some (decide (v.S=([]:aux)))) ( Option.bind (cond (cond (decide (v.Kind=2)) (decide (v.N=0)) false) (Kb n v.S) (some default)) λr3=>some (cond (cond (decide (v.Kind=2)) (decide (v.N=0)) false) r3 false)))
def Rp(v:bq):auB:=(uR n v).bind λr1=>some r1
def Rq(n:Nat):auB:=some true
def Kc(floor:Int)(last:Int)(ah:Row)(al:Int→auB)(v9:Int):auB:=cond (decide (v9<((ah.bj.length:Nat):Int))) ( ax (aL v9 ah.bj.length)<|(Rp n (⟨((auA ah.bj v9).br).Kind,((auA ah.bj v9).br).N,((auA ah.bj v9).br).S⟩:bq)).bind λb5=>cond (cond (cond (!b5) true (decide ((auA ah.bj v9).cl<floor))) true (decide (last<(auA ah.bj v9).cl))) ( some false) ( ax (!(decide (0<v9))||aL (auz (v9-1)) ah.bj.length)<|ax (!(decide (0<v9))||((decide ((auA ah.bj v9).cl≤(auA ah.bj (auz (v9-1))).cl))||aL (auz (v9-1)) ah.bj.length))<|cond (cond (decide (0<v9)) (cond (decide ((auA ah.bj v9).cl≤(auA ah.bj (auz (v9-1))).cl)) true ((decide (((auA ah.bj v9).br).Kind=((auA ah.bj (auz (v9-1))).br).Kind))&&((decide (((auA ah.bj v9).br).N=((auA ah.bj (auz (v9-1))).br).N))&&((decide (((auA ah.bj v9).br).S=((auA ah.bj (auz (v9-1))).br).S))&&true)))) false) ( some false) ( al (auz (v9+1))))) ( Rq n)
def AB(n:Nat)(floor:Int)(last:Int)(ah:Row):Nat→Int→auB
 | 0=>λ_=>none
 |m+1=>Kc n floor last ah (AB n floor last ah m)
def Kd(ah:Row)(floor:Int)(last:Int):auB:=(xk n ah.Key).bind λr1=>ax ((cond (!r1) true (decide (((ah.bj.length:Nat):Int)=0)))||aL 0 ah.bj.length)<|cond (cond (cond (!r1) true (decide (((ah.bj.length:Nat):Int)=0))) true (decide (((ah.bj.getD 0 default).br).Kind=0))) ( some false) ( AB n floor last ah n 0)
def Rr(n:Nat):auB:=some true
def Ke(s:az)(al:Int→auB)(bB:Int):auB:=cond (decide (bB<((s.Rows.length:Nat):Int))) ( ax (aL bB s.Rows.length)<|(Kd n (auA s.Rows bB) s.cd s.b2).bind λcR=>ax ((!cR)||(!(decide (0<bB))||aL (auz (bB-1)) s.Rows.length))<|ax ((!cR)||(!(decide (0<bB))||aL bB s.Rows.length))<|cond (cond (!cR) true (cond (decide (0<bB)) (!(Op.bytesLess ((auA s.Rows (auz (bB-1))).Key) ((auA s.Rows bB).Key))) false)) ( some false) ( al (auz (bB+1)))) ( Rr n)
def AC(n:Nat)(s:az):Nat→Int→auB
 | 0=>λ_=>none
 |m+1=>Ke n s (AC n s m)
def AD(s:az):auB:=cond (cond (cond (decide (s.cd<0)) true (decide (s.b2<s.cd))) true (decide (1099511627776<s.b2))) ( some false) ( AC n s n 0)
def Rs(n:Nat):auB:=some true
def Kf(s:aux)(al:Int→auB)(v5:Int):auB:=cond (decide (v5<((s.length:Nat):Int))) ( ax (aL v5 s.length)<|ax ((decide ((((s.getD (v5).toNat 0).toNat:Nat):Int)<33))||aL v5 s.length)<|cond (cond (decide ((((s.getD (v5).toNat 0).toNat:Nat):Int)<33)) true (decide (126<(((s.getD (v5).toNat 0).toNat:Nat):Int)))) ( some false) ( al (auz (v5+1)))) ( Rs n)
def AE(n:Nat)(s:aux):Nat→Int→auB
 | 0=>λ_=>none
 |m+1=>Kf n s (AE n s m)
def EG(s:aux):auB:=cond (decide (24<((s.length:Nat):Int))) ( some false) ( AE n s n 0)
def Kg(x:Part)(next:aux)(last:Bool):auB:=cond (decide (x.ft=0)) ( some (decide (x.gI=([]:aux)))) ( Option.bind (cond (cond (cond (decide (1≤x.ft)) (decide (x.ft≤16)) false) (!decide (x.ft=x.Node)) false) (EG n x.gI) (some default)) λr2=>some (cond (cond (cond (cond (cond (decide (1≤x.ft)) (decide (x.ft≤16)) false) (!decide (x.ft=x.Node)) false) r2 false) (!(Op.bytesLess x.gI x.dY)) false) (cond last true (Op.bytesLess x.gI next)) false))
def Rt(n:Nat):auB:=some true
def Ru(n:Nat)(al:Int→auB)(p:b7)(bC:Int):auB:=al (auz (bC+1))
def Kh(al:Int→auB)(p:b7)(bC:Int)(AF:Int→auB)(v24:Int):auB:=cond (decide (v24<bC)) ( ax (aL v24 p.aD.length)<|cond (decide ((auA p.aD v24).Id=(auA p.aD bC).Id)) ( some false) ( AF (auz (v24+1)))) ( Ru n al p bC)
def xl(n:Nat)(al:Int→auB)(p:b7)(bC:Int):Nat→Int→auB
 | 0=>λ_=>none
 |m+1=>Kh n al p bC (xl n al p bC m)
def EH(al:Int→auB)(p:b7)(bC:Int)(co:aux):auB:=(EG n ((auA p.aD bC).dY)).bind λfq=>ax ((!fq)||(!(decide (0<bC))||aL (auz (bC-1)) p.aD.length))<|Option.bind (cond (!(cond (cond (cond (cond (cond (!fq) true (cond (decide (0<bC)) ((Op.bytesLess ((auA p.aD bC).dY) ((auA p.aD (auz (bC-1))).dY))||(decide (((auA p.aD bC).dY)=((auA p.aD (auz (bC-1))).dY)))) false)) true (decide ((auA p.aD bC).Id<1))) true (decide (1099511627776<(auA p.aD bC).Id))) true (decide ((auA p.aD bC).Node<1))) true (decide (16<(auA p.aD bC).Node)))) (Kg n (auA p.aD bC) co (decide ((auz (bC+1))=((p.aD.length:Nat):Int)))) (some default)) λfE=>cond (cond (cond (cond (cond (cond (cond (!fq) true (cond (decide (0<bC)) ((Op.bytesLess ((auA p.aD bC).dY) ((auA p.aD (auz (bC-1))).dY))||(decide (((auA p.aD bC).dY)=((auA p.aD (auz (bC-1))).dY)))) false)) true (decide ((auA p.aD bC).Id<1))) true (decide (1099511627776<(auA p.aD bC).Id))) true (decide ((auA p.aD bC).Node<1))) true (decide (16<(auA p.aD bC).Node))) true (!fE)) ( some false) ( xl n al p bC n 0)
def Ki(p:b7)(al:Int→auB)(bC:Int):auB:=cond (decide (bC<((p.aD.length:Nat):Int))) ( ax (aL bC p.aD.length)<|cond (decide ((auz (bC+1))<((p.aD.length:Nat):Int))) ( ax (aL (auz (bC+1)) p.aD.length)<|EH n al p bC ((auA p.aD (auz (bC+1))).dY)) ( EH n al p bC ([]:aux))) ( Rt n)
def AG(n:Nat)(p:b7):Nat→Int→auB
 | 0=>λ_=>none
 |m+1=>Ki n p (AG n p m)
def Kj(p:b7):auB:=ax ((cond (cond (cond (decide (p.Version<0)) true (decide (1099511627776<p.Version))) true (decide (((p.aD.length:Nat):Int)<1))) true (decide (16<((p.aD.length:Nat):Int))))||aL 0 p.aD.length)<|cond (cond (cond (cond (cond (decide (p.Version<0)) true (decide (1099511627776<p.Version))) true (decide (((p.aD.length:Nat):Int)<1))) true (decide (16<((p.aD.length:Nat):Int)))) true (!(decide (((p.aD.getD 0 default).dY)=([]:aux))))) ( some false) ( AG n p n 0)
def Rv(n:Nat)(l:List bh):auB:=some (decide (((l.length:Nat):Int)≤32))
def Kk(l:List bh)(al:Int→auB)(bv:Int):auB:=cond (decide (bv<((l.length:Nat):Int))) ( ax (aL bv l.length)<|(xk n ((auA l bv).Key)).bind λdh=>ax ((!dh)||aL bv l.length)<|ax ((cond (!dh) true (decide ((auA l bv).Count<1)))||aL bv l.length)<|ax ((cond (cond (!dh) true (decide ((auA l bv).Count<1))) true (decide (1099511627776<(auA l bv).Count)))||(!(decide (0<bv))||aL bv l.length))<|ax ((cond (cond (!dh) true (decide ((auA l bv).Count<1))) true (decide (1099511627776<(auA l bv).Count)))||(!(decide (0<bv))||aL (auz (bv-1)) l.length))<|cond (cond (cond (cond (!dh) true (decide ((auA l bv).Count<1))) true (decide (1099511627776<(auA l bv).Count))) true (cond (decide (0<bv)) ((Op.bytesLess ((auA l bv).Key) ((auA l (auz (bv-1))).Key))||(decide (((auA l bv).Key)=((auA l (auz (bv-1))).Key)))) false)) ( some false) ( al (auz (bv+1)))) ( Rv n l)
def AH(n:Nat)(l:List bh):Nat→Int→auB
 | 0=>λ_=>none
 |m+1=>Kk n l (AH n l m)
def Kl(l:List bh):auB:=AH n l n 0
def Rw(n:Nat)(l:List bq):auB:=some (decide (((l.length:Nat):Int)≤16))
def Km(l:List bq)(al:Int→auB)(v5:Int):auB:=cond (decide (v5<((l.length:Nat):Int))) ( ax (aL v5 l.length)<|(uR n (auA l v5)).bind λcU=>ax ((!cU)||aL v5 l.length)<|cond (cond (!cU) true (decide ((auA l v5).Kind=0))) ( some false) ( al (auz (v5+1)))) ( Rw n l)
def xm(n:Nat)(l:List bq):Nat→Int→auB
 | 0=>λ_=>none
 |m+1=>Km n l (xm n l m)
def Rx(l:List bq):auB:=xm n l n 0
def EI(o:Outcome):auB:=cond (decide (o.Status=1)) ( Option.bind (cond (decide (o.Code=0)) (Rx n o.Out) (some default)) λr2=>some (cond (decide (o.Code=0)) r2 false)) ( some (cond (cond (cond (decide (o.Status=2)) (decide (0≤o.Code)) false) (decide (o.Code≤1009)) false) (decide (((o.Out.length:Nat):Int)=0)) false))
def Ry(n:Nat)(next:Int):auC:=some (cond (decide ((auz (next-1))<8)) (auz (next-1)) 8)
def Rz(n:Nat):auB:=some true
def Kn(s:bL)(al:Int→auB)(v6:Int):auB:=cond (decide (v6<((s.bJ.length:Nat):Int))) ( ax (aL v6 s.bJ.length)<|Option.bind (cond (!(cond (!decide ((auA s.bJ v6).Client=s.Client)) true (!decide ((auA s.bJ v6).Seq=(auz (s.Next-(auz (((s.bJ.length:Nat):Int)-v6)))))))) (EI n (⟨((auA s.bJ v6).Outcome).Status,((auA s.bJ v6).Outcome).Code,((auA s.bJ v6).Outcome).Out⟩:Outcome)) (some default)) λcW=>cond (cond (cond (!decide ((auA s.bJ v6).Client=s.Client)) true (!decide ((auA s.bJ v6).Seq=(auz (s.Next-(auz (((s.bJ.length:Nat):Int)-v6))))))) true (!cW)) ( some false) ( al (auz (v6+1)))) ( Rz n)
def AI(n:Nat)(s:bL):Nat→Int→auB
 | 0=>λ_=>none
 |m+1=>Kn n s (AI n s m)
def Ko(s:bL):auB:=Option.bind (cond (!(cond (cond (cond (decide (s.Client<1)) true (decide (32<s.Client))) true (decide (s.Next<1))) true (decide (1099511627776<s.Next)))) (Ry n s.Next) (some default)) λr1=>cond (cond (cond (cond (cond (decide (s.Client<1)) true (decide (32<s.Client))) true (decide (s.Next<1))) true (decide (1099511627776<s.Next))) true (!decide (((s.bJ.length:Nat):Int)=r1))) ( some false) ( AI n s n 0)
def RA(n:Nat):auB:=some true
def Kp(l:List bL)(al:Int→auB)(v6:Int):auB:=cond (decide (v6<((l.length:Nat):Int))) ( ax (aL v6 l.length)<|(Ko n (auA l v6)).bind λcW=>ax ((!cW)||(!(decide (0<v6))||aL v6 l.length))<|ax ((!cW)||(!(decide (0<v6))||aL (auz (v6-1)) l.length))<|cond (cond (!cW) true (cond (decide (0<v6)) (decide ((auA l v6).Client≤(auA l (auz (v6-1))).Client)) false)) ( some false) ( al (auz (v6+1)))) ( RA n)
def AJ(n:Nat)(l:List bL):Nat→Int→auB
 | 0=>λ_=>none
 |m+1=>Kp n l (AJ n l m)
def Kq(l:List bL):auB:=AJ n l n 0
def RB(n:Nat):Option (List aux):=some ([([112,114,111,99]:aux),([108,101,116]:aux),([112,117,116]:aux),([100,101,108,101,116,101]:aux),([105,102]:aux),([101,108,115,101]:aux),([102,111,114]:aux),([116,111]:aux),([109,97,120]:aux),([101,109,105,116]:aux),([97,98,111,114,116]:aux),([110,111,116]:aux),([97,110,100]:aux),([111,114]:aux),([105,110,116]:aux),([115,116,114]:aux),([98,111,111,108]:aux),([116,101,120,116]:aux),([108,101,110]:aux),([103,101,116,105,110,116]:aux),([103,101,116,115,116,114]:aux),([104,97,115]:aux),([110,111,119]:aux),([114,97,110,100,111,109]:aux),([110,111,100,101]:aux)]:List aux)
def RC(n:Nat):auB:=some false
def RD(l:List aux)(s:aux)(al:Int→auB)(v3:Int):auB:=cond (decide (v3<((l.length:Nat):Int))) ( ax (aL v3 l.length)<|cond (decide ((auA l v3)=s)) ( some true) ( al (auz (v3+1)))) ( RC n)
def EJ(n:Nat)(l:List aux)(s:aux):Nat→Int→auB
 | 0=>λ_=>none
 |m+1=>RD n l s (EJ n l s m)
def RE(l:List aux)(s:aux):auB:=EJ n l s n 0
def EK(s:aux):auB:=(RB n).bind λr1=>(RE n r1 s).bind λr2=>some r2
def AK(n:Nat)(c:Int):auB:=some (cond (decide (97≤c)) (decide (c≤122)) false)
def RF(n:Nat)(c:Int):auB:=some (cond (decide (48≤c)) (decide (c≤57)) false)
def EL(c:Int):auB:=(AK n c).bind λr1=>Option.bind (cond (!r1) (RF n c) (some default)) λr2=>some (cond (cond r1 true r2) true (decide (c=95)))
def RG(n:Nat)(bv:Int):auC:=some bv
def RH(s:aux)(al:Int→auC)(v4:Int):auC:=ax (!(decide (v4<((s.length:Nat):Int)))||aL v4 s.length)<|Option.bind (cond (decide (v4<((s.length:Nat):Int))) (EL n (((s.getD (v4).toNat 0).toNat:Nat):Int)) (some default)) λbO=>cond (cond (decide (v4<((s.length:Nat):Int))) bO false) ( al (auz (v4+1))) ( RG n v4)
def EM(n:Nat)(s:aux):Nat→Int→auC
 | 0=>λ_=>none
 |m+1=>RH n s (EM n s m)
def Kr(s:aux)(at_:Int):auC:=EM n s n at_
def s'(s:aux):auB:=ax (!(cond (decide (1≤((s.length:Nat):Int))) (decide (((s.length:Nat):Int)≤16)) false)||aL 0 s.length)<|Option.bind (cond (cond (decide (1≤((s.length:Nat):Int))) (decide (((s.length:Nat):Int)≤16)) false) (AK n (((s.getD 0 0).toNat:Nat):Int)) (some default)) λr2=>Option.bind (cond (cond (cond (decide (1≤((s.length:Nat):Int))) (decide (((s.length:Nat):Int)≤16)) false) r2 false) (Kr n s 0) (some default)) λr3=>Option.bind (cond (cond (cond (cond (decide (1≤((s.length:Nat):Int))) (decide (((s.length:Nat):Int)≤16)) false) r2 false) (decide (r3=((s.length:Nat):Int))) false) (EK n s) (some default)) λbx=>some (cond (cond (cond (cond (decide (1≤((s.length:Nat):Int))) (decide (((s.length:Nat):Int)≤16)) false) r2 false) (decide (r3=((s.length:Nat):Int))) false) (!bx) false)
def s_(n:Nat)(e:Expr):auB:=some (cond (cond (cond (decide (e.Op=0)) (decide (e.N=0)) false) (decide (e.S=([]:aux))) false) (decide (((e.ar.length:Nat):Int)=0)) false)
def RI(n:Nat)(nM:(List ct)→Expr→Bool→Option (List ct))(cw:List ct):Option (List ct):=some cw
def RJ(nM:(List ct)→Expr→Bool→Option (List ct))(e:Expr)(al:(List ct)→Int→Option (List ct))(bB:List ct)(bv:Int):Option (List ct):=cond (cond (decide (bv<((e.ar.length:Nat):Int))) (decide (((bB.length:Nat):Int)≤400)) false) ( ax (aL bv e.ar.length)<|(nM bB (auA e.ar bv) false).bind λdh=>al dh (auz (bv+1))) ( RI n nM bB)
def EN(n:Nat)(nM:(List ct)→Expr→Bool→Option (List ct))(e:Expr):Nat→(List ct)→Int→Option (List ct)
 | 0=>λ_ _=>none
 |m+1=>RJ n nM e (EN n nM e m)
def RK(nM:(List ct)→Expr→Bool→Option (List ct))(out:List ct)(e:Expr)(root:Bool):Option (List ct):=cond (decide (400<((out.length:Nat):Int))) ( some out) ( ax (room (out.length+([(⟨false,⟨0,[],0,⟨0,0,[],[]⟩,⟨0,0,[],[]⟩,[],[]⟩,0,e,root⟩:ct)]:List ct).length) 272)<|EN n nM e n (out++([(⟨false,⟨0,[],0,⟨0,0,[],[]⟩,⟨0,0,[],[]⟩,[],[]⟩,0,e,root⟩:ct)]:List ct)) 0)
def ta:Nat→(List ct)→Expr→Bool→Option (List ct)
 | 0=>λ_ _ _=>none
 |m+1=>RK m (ta m)
def RL(n:Nat)(iI:(List ct)→(List Stmt)→Int→Option (List ct))(kn:List ct):Option (List ct):=some kn
def RM(n:Nat)(iI:(List ct)→(List Stmt)→Int→Option (List ct))(al:(List ct)→Int→Option (List ct))(l:List Stmt)(depth:Int)(v21:Int)(iH:List ct):Option (List ct):=al iH (auz (v21+1))
def Ks(iI:(List ct)→(List Stmt)→Int→Option (List ct))(al:(List ct)→Int→Option (List ct))(l:List Stmt)(depth:Int)(v21:Int)(gZ:List ct):Option (List ct):=ax (aL v21 l.length)<|(iI gZ ((auA l v21).Body) (auz (depth+1))).bind λk7=>ax (aL v21 l.length)<|(iI k7 ((auA l v21).bz) (auz (depth+1))).bind λoL=>RM n iI al l depth v21 oL
def Kt(iI:(List ct)→(List Stmt)→Int→Option (List ct))(al:(List ct)→Int→Option (List ct))(l:List Stmt)(depth:Int)(v21:Int)(v28:List ct):Option (List ct):=ax (aL v21 l.length)<|(s_ n ((auA l v21).B)).bind λiq=>cond (!iq) ( ax (aL v21 l.length)<|(ta n v28 ((auA l v21).B) true).bind λmy=>Ks n iI al l depth v21 my) ( Ks n iI al l depth v21 v28)
def RN(iI:(List ct)→(List Stmt)→Int→Option (List ct))(l:List Stmt)(depth:Int)(al:(List ct)→Int→Option (List ct))(v20:List ct)(v21:Int):Option (List ct):=cond (cond (decide (v21<((l.length:Nat):Int))) (decide (((v20.length:Nat):Int)≤400)) false) ( ax (aL v21 l.length)<|ax (room (v20.length+([(⟨true,⟨(auA l v21).Op,(auA l v21).Name,(auA l v21).Max,⟨((auA l v21).A).Op,((auA l v21).A).N,((auA l v21).A).S,((auA l v21).A).ar⟩,⟨((auA l v21).B).Op,((auA l v21).B).N,((auA l v21).B).S,((auA l v21).B).ar⟩,(auA l v21).Body,(auA l v21).bz⟩,depth,⟨0,0,[],[]⟩,false⟩:ct)]:List ct).length) 272)<|ax (aL v21 l.length)<|(s_ n ((auA l v21).A)).bind λf_=>cond (!f_) ( ax (aL v21 l.length)<|(ta n (v20++([(⟨true,⟨(auA l v21).Op,(auA l v21).Name,(auA l v21).Max,⟨((auA l v21).A).Op,((auA l v21).A).N,((auA l v21).A).S,((auA l v21).A).ar⟩,⟨((auA l v21).B).Op,((auA l v21).B).N,((auA l v21).B).S,((auA l v21).B).ar⟩,(auA l v21).Body,(auA l v21).bz⟩,depth,⟨0,0,[],[]⟩,false⟩:ct)]:List ct)) ((auA l v21).A) true).bind λr27=>Kt n iI al l depth v21 r27) ( Kt n iI al l depth v21 (v20++([(⟨true,⟨(auA l v21).Op,(auA l v21).Name,(auA l v21).Max,⟨((auA l v21).A).Op,((auA l v21).A).N,((auA l v21).A).S,((auA l v21).A).ar⟩,⟨((auA l v21).B).Op,((auA l v21).B).N,((auA l v21).B).S,((auA l v21).B).ar⟩,(auA l v21).Body,(auA l v21).bz⟩,depth,⟨0,0,[],[]⟩,false⟩:ct)]:List ct)))) ( RL n iI v20)
def uS(n:Nat)(iI:(List ct)→(List Stmt)→Int→Option (List ct))(l:List Stmt)(depth:Int):Nat→(List ct)→Int→Option (List ct)
 | 0=>λ_ _=>none
 |m+1=>RN n iI l depth (uS n iI l depth m)
def RO(iI:(List ct)→(List Stmt)→Int→Option (List ct))(out:List ct)(l:List Stmt)(depth:Int):Option (List ct):=uS n iI l depth n out 0
def nc:Nat→(List ct)→(List Stmt)→Int→Option (List ct)
 | 0=>λ_ _ _=>none
 |m+1=>RO m (nc m)
def RP(p:bb):Option (List ct):=(nc n ([]:List ct) p.Body 1).bind λr1=>some r1
def RQ(n:Nat):auC:=some 0
def RR(n:Nat)(al:Int→auC)(l:List Param)(bE:Int):auC:=al (auz (bE+1))
def RS(al:Int→auC)(l:List Param)(bE:Int)(ec:Int→auC)(c_:Int):auC:=cond (decide (c_<bE)) ( ax (aL c_ l.length)<|ax (aL bE l.length)<|cond (decide (((auA l c_).Name)=((auA l bE).Name))) ( some 8) ( ec (auz (c_+1)))) ( RR n al l bE)
def AL(n:Nat)(al:Int→auC)(l:List Param)(bE:Int):Nat→Int→auC
 | 0=>λ_=>none
 |m+1=>RS n al l bE (AL n al l bE m)
def RT(l:List Param)(al:Int→auC)(bE:Int):auC:=cond (decide (bE<((l.length:Nat):Int))) ( ax (aL bE l.length)<|(s' n ((auA l bE).Name)).bind λeH=>cond (!eH) ( some 7) ( ax (aL bE l.length)<|ax ((decide ((auA l bE).fi<1))||aL bE l.length)<|cond (cond (decide ((auA l bE).fi<1)) true (decide (3<(auA l bE).fi))) ( some 10) ( AL n al l bE n 0))) ( RQ n)
def uT(n:Nat)(l:List Param):Nat→Int→auC
 | 0=>λ_=>none
 |m+1=>RT n l (uT n l m)
def Ku(l:List Param):auC:=cond (decide (6<((l.length:Nat):Int))) ( some 2) ( uT n l n 0)
def RU(n:Nat)(op:Int):auC:=cond (cond (decide (4≤op)) (decide (op≤19)) false) ( some 2) ( some (-1))
def tb(op:Int)(v2:Bool):auC:=cond v2 ( some 1) ( RU n op)
def uU(op:Int)(v1:Bool):auC:=cond v1 ( some 0) ( cond (decide (op=9)) ( tb n op (decide (op=9))) ( cond (decide (op=18)) ( tb n op (decide (op=18))) ( cond (decide (op=20)) ( tb n op (decide (op=20))) ( cond (decide (op=21)) ( tb n op (decide (op=21))) ( cond (decide (op=22)) ( tb n op (decide (op=22))) ( cond (decide (op=23)) ( tb n op (decide (op=23))) ( tb n op (decide (op=24)))))))))
def EO(op:Int):auC:=cond (decide (op=1)) ( uU n op (decide (op=1))) ( cond (decide (op=2)) ( uU n op (decide (op=2))) ( cond (decide (op=3)) ( uU n op (decide (op=3))) ( cond (decide (op=25)) ( uU n op (decide (op=25))) ( cond (decide (op=26)) ( uU n op (decide (op=26))) ( uU n op (decide (op=27)))))))
def RV(n:Nat):auB:=some true
def RW(s:aux)(al:Int→auB)(v5:Int):auB:=cond (decide (v5<((s.length:Nat):Int))) ( ax (aL v5 s.length)<|ax ((decide ((((s.getD (v5).toNat 0).toNat:Nat):Int)<32))||aL v5 s.length)<|cond (cond (decide ((((s.getD (v5).toNat 0).toNat:Nat):Int)<32)) true (decide (126<(((s.getD (v5).toNat 0).toNat:Nat):Int)))) ( some false) ( al (auz (v5+1)))) ( RV n)
def EP(n:Nat)(s:aux):Nat→Int→auB
 | 0=>λ_=>none
 |m+1=>RW n s (EP n s m)
def Kv(s:aux):auB:=cond (decide (64<((s.length:Nat):Int))) ( some false) ( EP n s n 0)
def Kw(e:Expr)(depth:Int):auC:=(EO n e.Op).bind λr1=>cond (cond (cond (decide (r1<0)) true (cond (!decide (e.Op=1)) (!decide (e.N=0)) false)) true (cond (cond (!decide (e.Op=2)) (!decide (e.Op=3)) false) (!(decide (e.S=([]:aux)))) false)) ( some 1) ( Option.bind (cond (decide (e.Op=3)) (s' n e.S) (some default)) λr3=>cond (cond (decide (e.Op=3)) (!r3) false) ( some 7) ( Option.bind (cond ((!(decide (e.N<0)))&&(decide (e.Op=2))) (Kv n e.S) (some default)) λb'=>Option.bind (cond (!(cond (decide (e.N<0)) true (cond (decide (e.Op=2)) (!b') false))) (EO n e.Op) (some default)) λbO=>cond (cond (cond (decide (e.N<0)) true (cond (decide (e.Op=2)) (!b') false)) true (!decide (((e.ar.length:Nat):Int)=bO))) ( some 1) ( cond (decide (12<depth)) ( some 2) ( some 0))))
def RX(n:Nat)(nN:Expr→Int→auC):auC:=some 0
def RY(nN:Expr→Int→auC)(depth:Int)(e:Expr)(al:Int→auC)(v6:Int):auC:=cond (decide (v6<((e.ar.length:Nat):Int))) ( ax (aL v6 e.ar.length)<|(nN (auA e.ar v6) (auz (depth+1))).bind λcW=>cond (!decide (cW=0)) ( some cW) ( al (auz (v6+1)))) ( RX n nN)
def EQ(n:Nat)(nN:Expr→Int→auC)(depth:Int)(e:Expr):Nat→Int→auC
 | 0=>λ_=>none
 |m+1=>RY n nN depth e (EQ n nN depth e m)
def RZ(nN:Expr→Int→auC)(e:Expr)(depth:Int):auC:=(Kw n e depth).bind λr1=>cond (!decide (r1=0)) ( some r1) ( EQ n nN depth e n 0)
def AM:Nat→Expr→Int→auC
 | 0=>λ_ _=>none
 |m+1=>RZ m (AM m)
def ER(e:Expr):auC:=(AM n e 1).bind λr1=>some r1
def R0(n:Nat):Option (Bool×Bool×Bool×Bool×Bool×Bool):=some (false,true,false,false,false,false)
def Kx(op:Int)(v2:Bool):Option (Bool×Bool×Bool×Bool×Bool×Bool):=cond v2 ( some (false,false,true,false,false,false)) ( cond (decide (op=5)) ( some (false,false,true,false,true,true)) ( cond (decide (op=6)) ( some (true,true,true,true,true,false)) ( R0 n)))
def Ky(op:Int)(v1:Bool):Option (Bool×Bool×Bool×Bool×Bool×Bool):=cond v1 ( some (true,false,true,false,false,false)) ( cond (decide (op=3)) ( some (false,false,true,true,false,false)) ( cond (decide (op=4)) ( Kx n op (decide (op=4))) ( Kx n op (decide (op=7)))))
def ES(op:Int):Option (Bool×Bool×Bool×Bool×Bool×Bool):=cond (decide (op=1)) ( Ky n op (decide (op=1))) ( Ky n op (decide (op=2)))
def Kz(n:Nat)(depth:Int):auC:=cond (decide (12<depth)) ( some 2) ( some 0)
def KA(depth:Int)(r1:Bool×Bool×Bool×Bool×Bool×Bool)(s:Stmt):auC:=cond r1.2.2.2.1 ( (ER n (⟨s.B.Op,s.B.N,s.B.S,s.B.ar⟩:Expr)).bind λcR=>cond (!decide (cR=0)) ( some cR) ( Kz n depth)) ( Kz n depth)
def KB(s:Stmt)(depth:Int):auC:=(ES n s.Op).bind λr1=>Option.bind (cond ((!(cond (cond (cond (decide (s.Op<1)) true (decide (8<s.Op))) true (cond (!r1.1) (!(decide (s.Name=([]:aux)))) false)) true (cond (!r1.2.1) (!decide (s.Max=0)) false)))&&(!r1.2.2.1)) (s_ n (⟨s.A.Op,s.A.N,s.A.S,s.A.ar⟩:Expr)) (some default)) λr2=>Option.bind (cond ((!(cond (cond (cond (cond (decide (s.Op<1)) true (decide (8<s.Op))) true (cond (!r1.1) (!(decide (s.Name=([]:aux)))) false)) true (cond (!r1.2.1) (!decide (s.Max=0)) false)) true (cond (!r1.2.2.1) (!r2) false)))&&(!r1.2.2.2.1)) (s_ n (⟨s.B.Op,s.B.N,s.B.S,s.B.ar⟩:Expr)) (some default)) λr3=>cond (cond (cond (cond (cond (cond (cond (cond (decide (s.Op<1)) true (decide (8<s.Op))) true (cond (!r1.1) (!(decide (s.Name=([]:aux)))) false)) true (cond (!r1.2.1) (!decide (s.Max=0)) false)) true (cond (!r1.2.2.1) (!r2) false)) true (cond (!r1.2.2.2.1) (!r3) false)) true (cond (!r1.2.2.2.2.1) (decide (0<((s.Body.length:Nat):Int))) false)) true (cond (!r1.2.2.2.2.2) (decide (0<((s.bz.length:Nat):Int))) false)) ( some 1) ( cond (cond (cond (decide (s.Op=6)) (cond (decide (s.Max<1)) true (decide (16<s.Max))) false) true (cond (decide (s.Op=8)) (cond (decide (s.Max<0)) true (decide (999<s.Max))) false)) ( some 1) ( Option.bind (cond r1.1 (s' n s.Name) (some default)) λbO=>cond (cond r1.1 (!bO) false) ( some 7) ( cond r1.2.2.1 ( (ER n (⟨s.A.Op,s.A.N,s.A.S,s.A.ar⟩:Expr)).bind λcW=>cond (!decide (cW=0)) ( some cW) ( KA n depth r1 s)) ( KA n depth r1 s))))
def R1(n:Nat)(b':(List ct)):auC:=cond (decide (400<((b'.length:Nat):Int))) ( some 2) ( some 0)
def KC(n:Nat)(al:Int→auC)(b':(List ct))(v11:Int):auC:=al (auz (v11+1))
def R2(b':(List ct))(al:Int→auC)(v11:Int):auC:=cond (decide (v11<((b'.length:Nat):Int))) ( ax (aL v11 b'.length)<|cond ((auA b' v11).qf) ( ax (aL v11 b'.length)<|ax (aL v11 b'.length)<|(KB n ((auA b' v11).Stmt) ((auA b' v11).Di)).bind λdT=>cond (!decide (dT=0)) ( some dT) ( KC n al b' v11)) ( KC n al b' v11)) ( R1 n b')
def AN(n:Nat)(b':(List ct)):Nat→Int→auC
 | 0=>λ_=>none
 |m+1=>R2 n b' (AN n b' m)
def KD(p:bb):auC:=(s' n p.Name).bind λr1=>cond (!r1) ( some 7) ( (Ku n p.Params).bind λr3=>cond (!decide (r3=0)) ( some r3) ( (RP n p).bind λb'=>AN n b' n 0))
def R3(n:Nat)(a:Int):auC:=cond (decide (a<0)) ( some (IntKind.u64.wrap (0-(IntKind.u64.wrap a)))) ( some (IntKind.u64.wrap a))
def ET(n:Nat)(fx:Int)(v12:aux):Option aux:=cond (decide (fx<0)) ( ax (b0 (([45]:aux).length+v12.length))<|some (([45]:aux)++v12)) ( some v12)
def tc(fx:Int)(al:Int→aux→Option aux)(v6:Int)(bB:aux):Option aux:=cond (cond (decide (0<v6)) true (decide (bB=([]:aux)))) ( ax (nB ([(IntKind.u8.wrap (IntKind.u64.wrap (48+(Int.tmod v6 10))))]:List Int))<|ax (b0 ((jV ([(IntKind.u8.wrap (IntKind.u64.wrap (48+(Int.tmod v6 10))))]:List Int)).length+bB.length))<|al (IntKind.u64.wrap (Int.tdiv v6 10)) ((jV ([(IntKind.u8.wrap (IntKind.u64.wrap (48+(Int.tmod v6 10))))]:List Int))++bB)) ( ET n fx bB)
def qr(n:Nat)(fx:Int):Nat→Int→aux→Option aux
 | 0=>λ_ _=>none
 |m+1=>tc n fx (qr n fx m)
def xn(fx:Int):Option aux:=(R3 n fx).bind λr1=>qr n fx n r1 ([]:aux)
def R4(n:Nat)(v9:aux):Option aux:=some v9
def R5(depth:Int)(al:aux→Int→Option aux)(v4:aux)(v5:Int):Option aux:=cond (decide (v5<depth)) ( ax (b0 (v4.length+([32,32,32,32]:aux).length))<|al (v4++([32,32,32,32]:aux)) (auz (v5+1))) ( R4 n v4)
def EU(n:Nat)(depth:Int):Nat→aux→Int→Option aux
 | 0=>λ_ _=>none
 |m+1=>R5 n depth (EU n depth m)
def R6(depth:Int):Option aux:=EU n depth n ([]:aux) 0
def R7(n:Nat):auB:=some true
def R8(s:aux)(al:Int→auB)(v4:Int):auB:=cond (decide (v4<((s.length:Nat):Int))) ( ax (aL v4 s.length)<|ax ((decide ((((s.getD (v4).toNat 0).toNat:Nat):Int)<32))||aL v4 s.length)<|cond (cond (decide ((((s.getD (v4).toNat 0).toNat:Nat):Int)<32)) true (decide (126<(((s.getD (v4).toNat 0).toNat:Nat):Int)))) ( some false) ( al (auz (v4+1)))) ( R7 n)
def AO(n:Nat)(s:aux):Nat→Int→auB
 | 0=>λ_=>none
 |m+1=>R8 n s (AO n s m)
def R9(s:aux):auB:=AO n s n 0
def R'(n:Nat)(v24:aux):Option (aux×Int):=ax (b0 (v24.length+([34]:aux).length))<|some ((v24++([34]:aux)),0)
def R_(n:Nat)(al:aux→Int→Option (aux×Int))(s:aux)(bE:Int)(v21:aux):Option (aux×Int):=al v21 (auz (bE+1))
def KE(al:aux→Int→Option (aux×Int))(s:aux)(bE:Int)(co:aux):Option (aux×Int):=ax (lW bE (auz (bE+1)) s.length)<|ax (b0 (co.length+((s.take ((auz (bE+1))).toNat).drop (bE).toNat).length))<|R_ n al s bE (co++((s.take ((auz (bE+1))).toNat).drop (bE).toNat))
def Sa(s:aux)(al:aux→Int→Option (aux×Int))(cw:aux)(bE:Int):Option (aux×Int):=cond (decide (bE<((s.length:Nat):Int))) ( ax (aL bE s.length)<|ax ((decide ((((s.getD (bE).toNat 0).toNat:Nat):Int)=34))||aL bE s.length)<|cond (cond (decide ((((s.getD (bE).toNat 0).toNat:Nat):Int)=34)) true (decide ((((s.getD (bE).toNat 0).toNat:Nat):Int)=92))) ( ax (b0 (cw.length+([92]:aux).length))<|KE n al s bE (cw++([92]:aux))) ( KE n al s bE cw)) ( R' n cw)
def EV(n:Nat)(s:aux):Nat→aux→Int→Option (aux×Int)
 | 0=>λ_ _=>none
 |m+1=>Sa n s (EV n s m)
def KF(s:aux):Option (aux×Int):=cond (decide (64<((s.length:Nat):Int))) ( some (([]:aux),2)) ( (R9 n s).bind λr2=>cond (!r2) ( some (([]:aux),1)) ( EV n s n ([34]:aux) 0))
def YK(n:Nat):auC:=some 9
def KG(op:Int)(v3:Bool):auC:=cond v3 ( some 7) ( cond (decide (op=9)) ( some 8) ( YK n))
def Sb(op:Int)(v2:Bool):auC:=cond v2 ( some 6) ( cond (decide (op=6)) ( KG n op (decide (op=6))) ( cond (decide (op=7)) ( KG n op (decide (op=7))) ( KG n op (decide (op=8)))))
def xo(op:Int)(v1:Bool):auC:=cond v1 ( some 4) ( cond (decide (op=19)) ( some 5) ( cond (decide (op=4)) ( Sb n op (decide (op=4))) ( Sb n op (decide (op=5)))))
def KH(op:Int):auC:=cond (decide (op=17)) ( some 1) ( cond (decide (op=16)) ( some 2) ( cond (decide (op=18)) ( some 3) ( cond (decide (op=10)) ( xo n op (decide (op=10))) ( cond (decide (op=11)) ( xo n op (decide (op=11))) ( cond (decide (op=12)) ( xo n op (decide (op=12))) ( cond (decide (op=13)) ( xo n op (decide (op=13))) ( cond (decide (op=14)) ( xo n op (decide (op=14))) ( xo n op (decide (op=15))))))))))
def KI(n:Nat)(op:Int):Option aux:=cond (decide (op=17)) ( some ([111,114]:aux)) ( cond (decide (op=16)) ( some ([97,110,100]:aux)) ( cond (decide (op=10)) ( some ([61,61]:aux)) ( cond (decide (op=11)) ( some ([33,61]:aux)) ( cond (decide (op=12)) ( some ([60]:aux)) ( cond (decide (op=13)) ( some ([60,61]:aux)) ( cond (decide (op=14)) ( some ([62]:aux)) ( cond (decide (op=15)) ( some ([62,61]:aux)) ( cond (decide (op=19)) ( some ([43,43]:aux)) ( cond (decide (op=4)) ( some ([43]:aux)) ( cond (decide (op=5)) ( some ([45]:aux)) ( cond (decide (op=6)) ( some ([42]:aux)) ( cond (decide (op=7)) ( some ([47]:aux)) ( some ([37]:aux))))))))))))))
def KJ(n:Nat)(op:Int):Option aux:=cond (decide (op=20)) ( some ([116,101,120,116]:aux)) ( cond (decide (op=21)) ( some ([108,101,110]:aux)) ( cond (decide (op=22)) ( some ([103,101,116,105,110,116]:aux)) ( cond (decide (op=23)) ( some ([103,101,116,115,116,114]:aux)) ( cond (decide (op=24)) ( some ([104,97,115]:aux)) ( cond (decide (op=25)) ( some ([110,111,119]:aux)) ( cond (decide (op=26)) ( some ([114,97,110,100,111,109]:aux)) ( some ([110,111,100,101]:aux))))))))
def KK(rF:Expr→Option aux)(oM:Expr→Int→Option aux)(e:Expr):Option aux:=(KH n e.Op).bind λr1=>cond (decide (e.Op=1)) ( (xn n e.N).bind λr3=>some r3) ( cond (decide (e.Op=2)) ( (KF n e.S).bind λb'=>some b'.1) ( cond (decide (e.Op=3)) ( some e.S) ( cond (decide (e.Op=18)) ( ax (aL 0 e.ar.length)<|(oM (e.ar.getD 0 default) r1).bind λcR=>ax (b0 (([110,111,116,32]:aux).length+cR.length))<|some (([110,111,116,32]:aux)++cR)) ( cond (decide (e.Op=9)) ( ax (aL 0 e.ar.length)<|(oM (e.ar.getD 0 default) r1).bind λdS=>ax (b0 (([45]:aux).length+dS.length))<|some (([45]:aux)++dS)) ( cond (cond (decide (r1=9)) (decide (((e.ar.length:Nat):Int)=0)) false) ( (KJ n e.Op).bind λeH=>ax (b0 (eH.length+([40,41]:aux).length))<|some (eH++([40,41]:aux))) ( cond (decide (r1=9)) ( (KJ n e.Op).bind λfq=>ax (b0 (fq.length+([40]:aux).length))<|ax (aL 0 e.ar.length)<|(rF (e.ar.getD 0 default)).bind λet=>ax (b0 ((fq++([40]:aux)).length+et.length))<|ax (b0 (((fq++([40]:aux))++et).length+([41]:aux).length))<|some (((fq++([40]:aux))++et)++([41]:aux))) ( cond (decide (r1=4)) ( ax (aL 0 e.ar.length)<|(oM (e.ar.getD 0 default) 5).bind λr27=>ax (b0 (r27.length+([32]:aux).length))<|(KI n e.Op).bind λfK=>ax (b0 ((r27++([32]:aux)).length+fK.length))<|ax (b0 (((r27++([32]:aux))++fK).length+([32]:aux).length))<|ax (aL 1 e.ar.length)<|(oM (e.ar.getD 1 default) 5).bind λpj=>ax (b0 ((((r27++([32]:aux))++fK)++([32]:aux)).length+pj.length))<|some ((((r27++([32]:aux))++fK)++([32]:aux))++pj)) ( ax (aL 0 e.ar.length)<|(oM (e.ar.getD 0 default) r1).bind λoG=>ax (b0 (oG.length+([32]:aux).length))<|(KI n e.Op).bind λqj=>ax (b0 ((oG++([32]:aux)).length+qj.length))<|ax (b0 (((oG++([32]:aux))++qj).length+([32]:aux).length))<|ax (aL 1 e.ar.length)<|(oM (e.ar.getD 1 default) (auz (r1+1))).bind λhQ=>ax (b0 ((((oG++([32]:aux))++qj)++([32]:aux)).length+hQ.length))<|some ((((oG++([32]:aux))++qj)++([32]:aux))++hQ)))))))))
def KL(rF:Expr→Option aux)(oM:Expr→Int→Option aux)(e:Expr)(least:Int):Option aux:=(KH n e.Op).bind λr1=>cond (decide (r1<least)) ( (rF e).bind λr3=>ax (b0 (([40]:aux).length+r3.length))<|ax (b0 ((([40]:aux)++r3).length+([41]:aux).length))<|some ((([40]:aux)++r3)++([41]:aux))) ( (rF e).bind λbO=>some bO)
def AP:Nat→(Expr→Option aux)×(Expr→Int→Option aux)
 | 0=>(λ_=>none,λ_ _=>none)
 |m+1=>(KK m ((AP m).1) ((AP m).2),KL m ((AP m).1) ((AP m).2))
def k8:Expr→Option aux:=(AP n).1
def xp:Expr→Int→Option aux:=(AP n).2
def Sc(n:Nat)(jr:(List Stmt)→Int→Option aux)(jW:Stmt→Int→Option aux)(cw:aux):Option aux:=some cw
def Sd(jr:(List Stmt)→Int→Option aux)(jW:Stmt→Int→Option aux)(l:List Stmt)(depth:Int)(al:aux→Int→Option aux)(v6:aux)(bB:Int):Option aux:=cond (decide (bB<((l.length:Nat):Int))) ( ax (aL bB l.length)<|(jW (auA l bB) depth).bind λcR=>ax (b0 (v6.length+cR.length))<|al (v6++cR) (auz (bB+1))) ( Sc n jr jW v6)
def EW(n:Nat)(jr:(List Stmt)→Int→Option aux)(jW:Stmt→Int→Option aux)(l:List Stmt)(depth:Int):Nat→aux→Int→Option aux
 | 0=>λ_ _=>none
 |m+1=>Sd n jr jW l depth (EW n jr jW l depth m)
def KM(jr:(List Stmt)→Int→Option aux)(jW:Stmt→Int→Option aux)(l:List Stmt)(depth:Int):Option aux:=EW n jr jW l depth n ([]:aux) 0
def EX(n:Nat)(jr:(List Stmt)→Int→Option aux)(jW:Stmt→Int→Option aux)(EY:aux):Option aux:=ax (b0 (EY.length+([10]:aux).length))<|some (EY++([10]:aux))
def KN(jr:(List Stmt)→Int→Option aux)(jW:Stmt→Int→Option aux)(x:Stmt)(depth:Int):Option aux:=(R6 n depth).bind λr1=>cond (decide (x.Op=1)) ( ax (b0 (r1.length+([108,101,116,32]:aux).length))<|ax (b0 ((r1++([108,101,116,32]:aux)).length+x.Name.length))<|ax (b0 (((r1++([108,101,116,32]:aux))++x.Name).length+([32,61,32]:aux).length))<|(k8 n (⟨x.A.Op,x.A.N,x.A.S,x.A.ar⟩:Expr)).bind λbO=>ax (b0 ((((r1++([108,101,116,32]:aux))++x.Name)++([32,61,32]:aux)).length+bO.length))<|ax (b0 (((((r1++([108,101,116,32]:aux))++x.Name)++([32,61,32]:aux))++bO).length+([59,10]:aux).length))<|some (((((r1++([108,101,116,32]:aux))++x.Name)++([32,61,32]:aux))++bO)++([59,10]:aux))) ( cond (decide (x.Op=2)) ( ax (b0 (r1.length+x.Name.length))<|ax (b0 ((r1++x.Name).length+([32,61,32]:aux).length))<|(k8 n (⟨x.A.Op,x.A.N,x.A.S,x.A.ar⟩:Expr)).bind λeV=>ax (b0 (((r1++x.Name)++([32,61,32]:aux)).length+eV.length))<|ax (b0 ((((r1++x.Name)++([32,61,32]:aux))++eV).length+([59,10]:aux).length))<|some ((((r1++x.Name)++([32,61,32]:aux))++eV)++([59,10]:aux))) ( cond (decide (x.Op=3)) ( ax (b0 (r1.length+([112,117,116,32]:aux).length))<|(k8 n (⟨x.A.Op,x.A.N,x.A.S,x.A.ar⟩:Expr)).bind λe0=>ax (b0 ((r1++([112,117,116,32]:aux)).length+e0.length))<|ax (b0 (((r1++([112,117,116,32]:aux))++e0).length+([32,61,32]:aux).length))<|(k8 n (⟨x.B.Op,x.B.N,x.B.S,x.B.ar⟩:Expr)).bind λeQ=>ax (b0 ((((r1++([112,117,116,32]:aux))++e0)++([32,61,32]:aux)).length+eQ.length))<|ax (b0 (((((r1++([112,117,116,32]:aux))++e0)++([32,61,32]:aux))++eQ).length+([59,10]:aux).length))<|some (((((r1++([112,117,116,32]:aux))++e0)++([32,61,32]:aux))++eQ)++([59,10]:aux))) ( cond (decide (x.Op=4)) ( ax (b0 (r1.length+([100,101,108,101,116,101,32]:aux).length))<|(k8 n (⟨x.A.Op,x.A.N,x.A.S,x.A.ar⟩:Expr)).bind λf_=>ax (b0 ((r1++([100,101,108,101,116,101,32]:aux)).length+f_.length))<|ax (b0 (((r1++([100,101,108,101,116,101,32]:aux))++f_).length+([59,10]:aux).length))<|some (((r1++([100,101,108,101,116,101,32]:aux))++f_)++([59,10]:aux))) ( cond (decide (x.Op=7)) ( ax (b0 (r1.length+([101,109,105,116,32]:aux).length))<|(k8 n (⟨x.A.Op,x.A.N,x.A.S,x.A.ar⟩:Expr)).bind λiq=>ax (b0 ((r1++([101,109,105,116,32]:aux)).length+iq.length))<|ax (b0 (((r1++([101,109,105,116,32]:aux))++iq).length+([59,10]:aux).length))<|some (((r1++([101,109,105,116,32]:aux))++iq)++([59,10]:aux))) ( cond (decide (x.Op=8)) ( ax (b0 (r1.length+([97,98,111,114,116,32]:aux).length))<|(xn n x.Max).bind λk7=>ax (b0 ((r1++([97,98,111,114,116,32]:aux)).length+k7.length))<|ax (b0 (((r1++([97,98,111,114,116,32]:aux))++k7).length+([59,10]:aux).length))<|some (((r1++([97,98,111,114,116,32]:aux))++k7)++([59,10]:aux))) ( cond (decide (x.Op=6)) ( ax (b0 (r1.length+([102,111,114,32]:aux).length))<|ax (b0 ((r1++([102,111,114,32]:aux)).length+x.Name.length))<|ax (b0 (((r1++([102,111,114,32]:aux))++x.Name).length+([32,61,32]:aux).length))<|(k8 n (⟨x.A.Op,x.A.N,x.A.S,x.A.ar⟩:Expr)).bind λhQ=>ax (b0 ((((r1++([102,111,114,32]:aux))++x.Name)++([32,61,32]:aux)).length+hQ.length))<|ax (b0 (((((r1++([102,111,114,32]:aux))++x.Name)++([32,61,32]:aux))++hQ).length+([32,116,111,32]:aux).length))<|(k8 n (⟨x.B.Op,x.B.N,x.B.S,x.B.ar⟩:Expr)).bind λjq=>ax (b0 ((((((r1++([102,111,114,32]:aux))++x.Name)++([32,61,32]:aux))++hQ)++([32,116,111,32]:aux)).length+jq.length))<|ax (b0 (((((((r1++([102,111,114,32]:aux))++x.Name)++([32,61,32]:aux))++hQ)++([32,116,111,32]:aux))++jq).length+([32,109,97,120,32]:aux).length))<|(xn n x.Max).bind λry=>ax (b0 ((((((((r1++([102,111,114,32]:aux))++x.Name)++([32,61,32]:aux))++hQ)++([32,116,111,32]:aux))++jq)++([32,109,97,120,32]:aux)).length+ry.length))<|ax (b0 (((((((((r1++([102,111,114,32]:aux))++x.Name)++([32,61,32]:aux))++hQ)++([32,116,111,32]:aux))++jq)++([32,109,97,120,32]:aux))++ry).length+([32,123,10]:aux).length))<|(jr x.Body (auz (depth+1))).bind λqq=>ax (b0 ((((((((((r1++([102,111,114,32]:aux))++x.Name)++([32,61,32]:aux))++hQ)++([32,116,111,32]:aux))++jq)++([32,109,97,120,32]:aux))++ry)++([32,123,10]:aux)).length+qq.length))<|ax (b0 (((((((((((r1++([102,111,114,32]:aux))++x.Name)++([32,61,32]:aux))++hQ)++([32,116,111,32]:aux))++jq)++([32,109,97,120,32]:aux))++ry)++([32,123,10]:aux))++qq).length+r1.length))<|ax (b0 ((((((((((((r1++([102,111,114,32]:aux))++x.Name)++([32,61,32]:aux))++hQ)++([32,116,111,32]:aux))++jq)++([32,109,97,120,32]:aux))++ry)++([32,123,10]:aux))++qq)++r1).length+([125,10]:aux).length))<|some ((((((((((((r1++([102,111,114,32]:aux))++x.Name)++([32,61,32]:aux))++hQ)++([32,116,111,32]:aux))++jq)++([32,109,97,120,32]:aux))++ry)++([32,123,10]:aux))++qq)++r1)++([125,10]:aux))) ( ax (b0 (r1.length+([105,102,32]:aux).length))<|(k8 n (⟨x.A.Op,x.A.N,x.A.S,x.A.ar⟩:Expr)).bind λpr=>ax (b0 ((r1++([105,102,32]:aux)).length+pr.length))<|ax (b0 (((r1++([105,102,32]:aux))++pr).length+([32,123,10]:aux).length))<|(jr x.Body (auz (depth+1))).bind λpo=>ax (b0 ((((r1++([105,102,32]:aux))++pr)++([32,123,10]:aux)).length+po.length))<|ax (b0 (((((r1++([105,102,32]:aux))++pr)++([32,123,10]:aux))++po).length+r1.length))<|ax (b0 ((((((r1++([105,102,32]:aux))++pr)++([32,123,10]:aux))++po)++r1).length+([125]:aux).length))<|cond (decide (0<((x.bz.length:Nat):Int))) ( ax (b0 (((((((r1++([105,102,32]:aux))++pr)++([32,123,10]:aux))++po)++r1)++([125]:aux)).length+([32,101,108,115,101,32,123,10]:aux).length))<|(jr x.bz (auz (depth+1))).bind λkM=>ax (b0 ((((((((r1++([105,102,32]:aux))++pr)++([32,123,10]:aux))++po)++r1)++([125]:aux))++([32,101,108,115,101,32,123,10]:aux)).length+kM.length))<|ax (b0 (((((((((r1++([105,102,32]:aux))++pr)++([32,123,10]:aux))++po)++r1)++([125]:aux))++([32,101,108,115,101,32,123,10]:aux))++kM).length+r1.length))<|ax (b0 ((((((((((r1++([105,102,32]:aux))++pr)++([32,123,10]:aux))++po)++r1)++([125]:aux))++([32,101,108,115,101,32,123,10]:aux))++kM)++r1).length+([125]:aux).length))<|EX n jr jW ((((((((((r1++([105,102,32]:aux))++pr)++([32,123,10]:aux))++po)++r1)++([125]:aux))++([32,101,108,115,101,32,123,10]:aux))++kM)++r1)++([125]:aux))) ( EX n jr jW ((((((r1++([105,102,32]:aux))++pr)++([32,123,10]:aux))++po)++r1)++([125]:aux))))))))))
def AQ:Nat→((List Stmt)→Int→Option aux)×(Stmt→Int→Option aux)
 | 0=>(λ_ _=>none,λ_ _=>none)
 |m+1=>(KM m ((AQ m).1) ((AQ m).2),KN m ((AQ m).1) ((AQ m).2))
def rG:(List Stmt)→Int→Option aux:=(AQ n).1
def AR:Stmt→Int→Option aux:=(AQ n).2
def Se(n:Nat)(ty:Int):Option aux:=cond (decide (ty=1)) ( some ([105,110,116]:aux)) ( cond (decide (ty=2)) ( some ([115,116,114]:aux)) ( some ([98,111,111,108]:aux)))
def Sf(p:bb)(hP:aux):Option aux:=ax (b0 (hP.length+([41,32,123,10]:aux).length))<|(rG n p.Body 1).bind λgA=>ax (b0 ((hP++([41,32,123,10]:aux)).length+gA.length))<|ax (b0 (((hP++([41,32,123,10]:aux))++gA).length+([125,10]:aux).length))<|some (((hP++([41,32,123,10]:aux))++gA)++([125,10]:aux))
def Sg(n:Nat)(al:aux→Int→Option aux)(a1:Int)(p:bb)(KO:aux):Option aux:=al KO (auz (a1+1))
def KP(al:aux→Int→Option aux)(a1:Int)(p:bb)(cY:aux):Option aux:=ax (aL a1 p.Params.length)<|ax (b0 (cY.length+((auA p.Params a1).Name).length))<|ax (b0 ((cY++((auA p.Params a1).Name)).length+([58,32]:aux).length))<|ax (aL a1 p.Params.length)<|(Se n ((auA p.Params a1).fi)).bind λr24=>ax (b0 (((cY++((auA p.Params a1).Name))++([58,32]:aux)).length+r24.length))<|Sg n al a1 p (((cY++((auA p.Params a1).Name))++([58,32]:aux))++r24)
def Sh(p:bb)(al:aux→Int→Option aux)(dK:aux)(a1:Int):Option aux:=cond (decide (a1<((p.Params.length:Nat):Int))) ( cond (decide (0<a1)) ( ax (b0 (dK.length+([44,32]:aux).length))<|KP n al a1 p (dK++([44,32]:aux))) ( KP n al a1 p dK)) ( Sf n p dK)
def EZ(n:Nat)(p:bb):Nat→aux→Int→Option aux
 | 0=>λ_ _=>none
 |m+1=>Sh n p (EZ n p m)
def AS(p:bb):Option aux:=(KD n p).bind λr1=>cond (!decide (r1=0)) ( some ([]:aux)) ( ax (b0 (([112,114,111,99,32]:aux).length+p.Name.length))<|ax (b0 ((([112,114,111,99,32]:aux)++p.Name).length+([40]:aux).length))<|EZ n p n ((([112,114,111,99,32]:aux)++p.Name)++([40]:aux)) 0)
def Si(n:Nat)(l:List bb):auB:=some (decide (((l.length:Nat):Int)≤16))
def KQ(l:List bb)(al:Int→auB)(v6:Int):auB:=cond (decide (v6<((l.length:Nat):Int))) ( ax (aL v6 l.length)<|(AS n (auA l v6)).bind λcW=>ax ((cond (decide (cW=([]:aux))) true (decide (16384<((cW.length:Nat):Int))))||(!(decide (0<v6))||aL (auz (v6-1)) l.length))<|ax ((cond (decide (cW=([]:aux))) true (decide (16384<((cW.length:Nat):Int))))||(!(decide (0<v6))||aL v6 l.length))<|cond (cond (cond (decide (cW=([]:aux))) true (decide (16384<((cW.length:Nat):Int)))) true (cond (decide (0<v6)) (!(Op.bytesLess ((auA l (auz (v6-1))).Name) ((auA l v6).Name))) false)) ( some false) ( al (auz (v6+1)))) ( Si n l)
def AT(n:Nat)(l:List bb):Nat→Int→auB
 | 0=>λ_=>none
 |m+1=>KQ n l (AT n l m)
def KR(l:List bb):auB:=AT n l n 0
def Sj(n:Nat):auB:=some true
def KS(l:List aux)(al:Int→auB)(v6:Int):auB:=cond (decide (v6<((l.length:Nat):Int))) ( ax (aL v6 l.length)<|(xk n (auA l v6)).bind λcW=>ax ((!cW)||(!(decide (0<v6))||aL (auz (v6-1)) l.length))<|ax ((!cW)||(!(decide (0<v6))||aL v6 l.length))<|cond (cond (!cW) true (cond (decide (0<v6)) (!(Op.bytesLess (auA l (auz (v6-1))) (auA l v6))) false)) ( some false) ( al (auz (v6+1)))) ( Sj n)
def AU(n:Nat)(l:List aux):Nat→Int→auB
 | 0=>λ_=>none
 |m+1=>KS n l (AU n l m)
def E0(l:List aux):auB:=AU n l n 0
def E1(f:fc):auB:=cond f.dH ( some (cond (decide (((f.Reads.length:Nat):Int)=0)) (decide (((f.cm.length:Nat):Int)=0)) false)) ( Option.bind (cond (cond (decide (((f.Reads.length:Nat):Int)≤64)) (decide (((f.cm.length:Nat):Int)≤64)) false) (E0 n f.Reads) (some default)) λr2=>Option.bind (cond (cond (cond (decide (((f.Reads.length:Nat):Int)≤64)) (decide (((f.cm.length:Nat):Int)≤64)) false) r2 false) (E0 n f.cm) (some default)) λr3=>some (cond (cond (cond (decide (((f.Reads.length:Nat):Int)≤64)) (decide (((f.cm.length:Nat):Int)≤64)) false) r2 false) r3 false))
def Sk(ah:Request):auC:=(E1 n ah.bk).bind λeZ=>cond (cond (cond (!eZ) true ah.bk.dH) true (cond (!ah.ez) (decide (0<(auz (((ah.bk.Reads.length:Nat):Int)+((ah.bk.cm.length:Nat):Int))))) false)) ( some 1) ( some 0)
def KT(ah:Request)(al:Int→auC)(v9:Int):auC:=cond (decide (v9<((ah.ar.length:Nat):Int))) ( ax (aL v9 ah.ar.length)<|(uR n (auA ah.ar v9)).bind λb5=>ax ((!b5)||aL v9 ah.ar.length)<|cond (cond (!b5) true (decide ((auA ah.ar v9).Kind=0))) ( some 1) ( al (auz (v9+1)))) ( Sk n ah)
def xq(n:Nat)(ah:Request):Nat→Int→auC
 | 0=>λ_=>none
 |m+1=>KT n ah (xq n ah m)
def KU(ah:Request):auC:=cond (cond (cond (cond (decide (ah.Client<1)) true (decide (32<ah.Client))) true (decide (ah.Seq<1))) true (decide (1099511627776<ah.Seq))) ( some 1) ( (s' n ah.bb).bind λr2=>cond (!r2) ( some 7) ( cond (decide (6<((ah.ar.length:Nat):Int))) ( some 2) ( xq n ah n 0)))
def Sl(n:Nat)(l:List Request):auB:=some (decide (((l.length:Nat):Int)≤64))
def KV(l:List Request)(al:Int→auB)(v4:Int):auB:=cond (decide (v4<((l.length:Nat):Int))) ( ax (aL v4 l.length)<|(KU n (auA l v4)).bind λbO=>cond (!decide (bO=0)) ( some false) ( al (auz (v4+1)))) ( Sl n l)
def AV(n:Nat)(l:List Request):Nat→Int→auB
 | 0=>λ_=>none
 |m+1=>KV n l (AV n l m)
def KW(l:List Request):auB:=AV n l n 0
def KX(ah:bU):auB:=Option.bind (cond (cond (decide (0≤ah.Pos)) (decide (ah.Pos≤1099511627776)) false) (AD n ah.az) (some default)) λr1=>Option.bind (cond (cond (cond (cond (decide (0≤ah.Pos)) (decide (ah.Pos≤1099511627776)) false) r1 false) (decide (ah.az.b2=ah.Pos)) false) (KR n ah.cc) (some default)) λr2=>Option.bind (cond (cond (cond (cond (cond (decide (0≤ah.Pos)) (decide (ah.Pos≤1099511627776)) false) r1 false) (decide (ah.az.b2=ah.Pos)) false) r2 false) (Kq n ah.cJ) (some default)) λr3=>Option.bind (cond (cond (cond (cond (cond (cond (decide (0≤ah.Pos)) (decide (ah.Pos≤1099511627776)) false) r1 false) (decide (ah.az.b2=ah.Pos)) false) r2 false) r3 false) (Kj n ah.Place) (some default)) λbx=>Option.bind (cond (cond (cond (cond (cond (cond (cond (decide (0≤ah.Pos)) (decide (ah.Pos≤1099511627776)) false) r1 false) (decide (ah.az.b2=ah.Pos)) false) r2 false) r3 false) bx false) (Kl n ah.bh) (some default)) λb'=>Option.bind (cond (cond (cond (cond (cond (cond (cond (cond (decide (0≤ah.Pos)) (decide (ah.Pos≤1099511627776)) false) r1 false) (decide (ah.az.b2=ah.Pos)) false) r2 false) r3 false) bx false) b' false) (KW n ah.Queue) (some default)) λbO=>some (cond (cond (cond (cond (cond (cond (cond (cond (decide (0≤ah.Pos)) (decide (ah.Pos≤1099511627776)) false) r1 false) (decide (ah.az.b2=ah.Pos)) false) r2 false) r3 false) bx false) b' false) bO false)
def Sm(n:Nat)(hR:Int)(v24:Int)(v25:aux):Option bq:=some (⟨hR,v24,v25⟩:bq)
def KY(n:Nat)(al:Int→Int→aux→Int→Option bq)(at_:Int)(cw:Int)(ah:Row)(dK:Int)(a1:Int)(co:aux):Option bq:=al dK a1 co (auz (cw+1))
def Sn(at_:Int)(ah:Row)(al:Int→Int→aux→Int→Option bq)(v10:Int)(v11:Int)(v12:aux)(cw:Int):Option bq:=cond (decide (cw<((ah.bj.length:Nat):Int))) ( ax (aL cw ah.bj.length)<|cond (decide ((auA ah.bj cw).cl≤at_)) ( ax (aL cw ah.bj.length)<|KY n al at_ cw ah (((auA ah.bj cw).br).Kind) (((auA ah.bj cw).br).N) (((auA ah.bj cw).br).S)) ( KY n al at_ cw ah v10 v11 v12)) ( Sm n v10 v11 v12)
def E2(n:Nat)(at_:Int)(ah:Row):Nat→Int→Int→aux→Int→Option bq
 | 0=>λ_ _ _ _=>none
 |m+1=>Sn n at_ ah (E2 n at_ ah m)
def KZ(ah:Row)(at_:Int):Option bq:=E2 n at_ ah n 0 0 ([]:aux) 0
def So(n:Nat)(a1:List bo):Option (List bo):=some a1
def E3(n:Nat)(al:(List bo)→Int→Option (List bo))(at_:Int)(v9:Int)(s:az)(bE:List bo):Option (List bo):=al bE (auz (v9+1))
def Sp(at_:Int)(s:az)(al:(List bo)→Int→Option (List bo))(bv:List bo)(v9:Int):Option (List bo):=cond (decide (v9<((s.Rows.length:Nat):Int))) ( ax (aL v9 s.Rows.length)<|(KZ n (auA s.Rows v9) at_).bind λb5=>cond (!decide (b5.Kind=0)) ( ax (aL v9 s.Rows.length)<|ax (room (bv.length+([(⟨(auA s.Rows v9).Key,b5⟩:bo)]:List bo).length) 48)<|E3 n al at_ v9 s (bv++([(⟨(auA s.Rows v9).Key,b5⟩:bo)]:List bo))) ( E3 n al at_ v9 s bv)) ( So n bv)
def AW(n:Nat)(at_:Int)(s:az):Nat→(List bo)→Int→Option (List bo)
 | 0=>λ_ _=>none
 |m+1=>Sp n at_ s (AW n at_ s m)
def Sq(s:az)(at_:Int):Option (List bo):=AW n at_ s n ([]:List bo) 0
def K0(s:az)(at_:Int):Option ((List bo)×Int):=(AD n s).bind λr1=>cond (!r1) ( some (([]:List bo),1)) ( cond (cond (decide (at_<s.cd)) true (decide (s.b2<at_))) ( some (([]:List bo),15)) ( (Sq n s at_).bind λbx=>some (bx,0)))
def K1(n:Nat)(nO:Expr→Int→auC)(v11:Int):auC:=some v11
def K2(nO:Expr→Int→auC)(bK:Int)(e:Expr)(al:Int→Int→auC)(v5:Int)(v6:Int):auC:=cond (cond (decide (v6<((e.ar.length:Nat):Int))) (decide (v5≤bK)) false) ( ax (aL v6 e.ar.length)<|(nO (auA e.ar v6) (auz (bK-v5))).bind λcW=>al (auz (v5+cW)) (auz (v6+1))) ( K1 n nO v5)
def AX(n:Nat)(nO:Expr→Int→auC)(bK:Int)(e:Expr):Nat→Int→Int→auC
 | 0=>λ_ _=>none
 |m+1=>K2 n nO bK e (AX n nO bK e m)
def K3(nO:Expr→Int→auC)(e:Expr)(bK:Int):auC:=AX n nO bK e n (auz (1+(auz (Int.tdiv ((e.S.length:Nat):Int) 64)))) 0
def rH:Nat→Expr→Int→auC
 | 0=>λ_ _=>none
 |m+1=>K3 m (rH m)
def Sr(n:Nat)(nd:(List Stmt)→Int→auC)(v25:Int):auC:=some v25
def Ss(nd:(List Stmt)→Int→auC)(l:List Stmt)(bK:Int)(al:Int→Int→auC)(v12:Int)(cw:Int):auC:=cond (cond (decide (cw<((l.length:Nat):Int))) (decide (v12≤bK)) false) ( ax (aL cw l.length)<|ax (aL cw l.length)<|(rH n ((auA l cw).A) (auz (bK-(auz ((auz (v12+1))+(auz (Int.tdiv ((((auA l cw).Name).length:Nat):Int) 64))))))).bind λeH=>ax (aL cw l.length)<|(rH n ((auA l cw).B) (auz (bK-(auz ((auz ((auz (v12+1))+(auz (Int.tdiv ((((auA l cw).Name).length:Nat):Int) 64))))+eH))))).bind λgt=>ax (aL cw l.length)<|(nd ((auA l cw).Body) (auz (bK-(auz ((auz ((auz ((auz (v12+1))+(auz (Int.tdiv ((((auA l cw).Name).length:Nat):Int) 64))))+eH))+gt))))).bind λeQ=>ax (aL cw l.length)<|(nd ((auA l cw).bz) (auz (bK-(auz ((auz ((auz ((auz ((auz (v12+1))+(auz (Int.tdiv ((((auA l cw).Name).length:Nat):Int) 64))))+eH))+gt))+eQ))))).bind λet=>al (auz ((auz ((auz ((auz ((auz ((auz (v12+1))+(auz (Int.tdiv ((((auA l cw).Name).length:Nat):Int) 64))))+eH))+gt))+eQ))+et)) (auz (cw+1))) ( Sr n nd v12)
def E4(n:Nat)(nd:(List Stmt)→Int→auC)(l:List Stmt)(bK:Int):Nat→Int→Int→auC
 | 0=>λ_ _=>none
 |m+1=>Ss n nd l bK (E4 n nd l bK m)
def St(nd:(List Stmt)→Int→auC)(l:List Stmt)(bK:Int):auC:=E4 n nd l bK n 0 0
def AY:Nat→(List Stmt)→Int→auC
 | 0=>λ_ _=>none
 |m+1=>St m (AY m)
def Su(bK:Int)(p:bb):auB:=(AY n p.Body bK).bind λcU=>some (decide (cU≤bK))
def Sv(bK:Int)(p:bb)(al:Int→auB)(v4:Int):auB:=cond (decide (v4<((p.Params.length:Nat):Int))) ( ax (aL v4 p.Params.length)<|cond (decide (200<((((auA p.Params v4).Name).length:Nat):Int))) ( some false) ( al (auz (v4+1)))) ( Su n bK p)
def E5(n:Nat)(bK:Int)(p:bb):Nat→Int→auB
 | 0=>λ_=>none
 |m+1=>Sv n bK p (E5 n bK p m)
def E6(p:bb)(bK:Int):auB:=cond (cond (decide (40<((p.Params.length:Nat):Int))) true (decide (200<((p.Name.length:Nat):Int)))) ( some false) ( E5 n bK p n 0)
def Sw(n:Nat):auB:=some true
def Sx(n:Nat)(al:Int→auB)(bE:Int)(s:az):auB:=al (auz (bE+1))
def K4(al:Int→auB)(bE:Int)(s:az)(ec:Int→auB)(v21:Int):auB:=ax (aL bE s.Rows.length)<|cond (decide (v21<((((auA s.Rows bE).bj).length:Nat):Int))) ( ax (aL bE s.Rows.length)<|ax (aL v21 ((auA s.Rows bE).bj).length)<|cond (decide (200<(((((((auA s.Rows bE).bj).getD (v21).toNat default).br).S).length:Nat):Int))) ( some false) ( ec (auz (v21+1)))) ( Sx n al bE s)
def AZ(n:Nat)(al:Int→auB)(bE:Int)(s:az):Nat→Int→auB
 | 0=>λ_=>none
 |m+1=>K4 n al bE s (AZ n al bE s m)
def K5(s:az)(al:Int→auB)(bE:Int):auB:=cond (decide (bE<((s.Rows.length:Nat):Int))) ( ax (aL bE s.Rows.length)<|ax ((decide (12<((((auA s.Rows bE).bj).length:Nat):Int)))||aL bE s.Rows.length)<|cond (cond (decide (12<((((auA s.Rows bE).bj).length:Nat):Int))) true (decide (200<((((auA s.Rows bE).Key).length:Nat):Int)))) ( some false) ( AZ n al bE s n 0)) ( Sw n)
def uV(n:Nat)(s:az):Nat→Int→auB
 | 0=>λ_=>none
 |m+1=>K5 n s (uV n s m)
def K6(s:az)(rows:Int):auB:=cond (decide (rows<((s.Rows.length:Nat):Int))) ( some false) ( uV n s n 0)
def Sy(n:Nat):auB:=some true
def K7(f:fc)(ef:Int→auB)(v9:Int):auB:=cond (decide (v9<((f.cm.length:Nat):Int))) ( ax (aL v9 f.cm.length)<|cond (decide (100<(((auA f.cm v9).length:Nat):Int))) ( some false) ( ef (auz (v9+1)))) ( Sy n)
def xr(n:Nat)(f:fc):Nat→Int→auB
 | 0=>λ_=>none
 |m+1=>K7 n f (xr n f m)
def Sz(f:fc):auB:=xr n f n 0
def K8(f:fc)(ec:Int→auB)(v4:Int):auB:=cond (decide (v4<((f.Reads.length:Nat):Int))) ( ax (aL v4 f.Reads.length)<|cond (decide (100<(((auA f.Reads v4).length:Nat):Int))) ( some false) ( ec (auz (v4+1)))) ( Sz n f)
def A0(n:Nat)(f:fc):Nat→Int→auB
 | 0=>λ_=>none
 |m+1=>K8 n f (A0 n f m)
def xt(f:fc)(bK:Int):auB:=cond (cond (decide (bK<((f.Reads.length:Nat):Int))) true (decide (bK<((f.cm.length:Nat):Int)))) ( some false) ( A0 n f n 0)
def SA(n:Nat):auB:=some true
def K9(ah:Request)(al:Int→auB)(v5:Int):auB:=cond (decide (v5<((ah.ar.length:Nat):Int))) ( ax (aL v5 ah.ar.length)<|cond (decide (300<((((auA ah.ar v5).S).length:Nat):Int))) ( some false) ( al (auz (v5+1)))) ( SA n)
def A1(n:Nat)(ah:Request):Nat→Int→auB
 | 0=>λ_=>none
 |m+1=>K9 n ah (A1 n ah m)
def E7(ah:Request):auB:=Option.bind (cond (!(cond (decide (300<((ah.bb.length:Nat):Int))) true (decide (40<((ah.ar.length:Nat):Int))))) (xt n ah.bk 100) (some default)) λr1=>cond (cond (cond (decide (300<((ah.bb.length:Nat):Int))) true (decide (40<((ah.ar.length:Nat):Int)))) true (!r1)) ( some false) ( A1 n ah n 0)
def K'(n:Nat)(hJ:List bh)(p:b7):auB:=some (cond (decide (((p.aD.length:Nat):Int)≤20)) (decide (((hJ.length:Nat):Int)≤40)) false)
def K_(hJ:List bh)(p:b7)(ef:Int→auB)(v10:Int):auB:=cond (cond (decide (v10<((hJ.length:Nat):Int))) (decide (v10<41)) false) ( ax (aL v10 hJ.length)<|cond (decide (200<((((auA hJ v10).Key).length:Nat):Int))) ( some false) ( ef (auz (v10+1)))) ( K' n hJ p)
def xu(n:Nat)(hJ:List bh)(p:b7):Nat→Int→auB
 | 0=>λ_=>none
 |m+1=>K_ n hJ p (xu n hJ p m)
def SB(hJ:List bh)(p:b7):auB:=xu n hJ p n 0
def La(hJ:List bh)(p:b7)(ec:Int→auB)(v4:Int):auB:=cond (cond (decide (v4<((p.aD.length:Nat):Int))) (decide (v4<21)) false) ( ax (aL v4 p.aD.length)<|ax ((decide (200<((((auA p.aD v4).dY).length:Nat):Int)))||aL v4 p.aD.length)<|cond (cond (decide (200<((((auA p.aD v4).dY).length:Nat):Int))) true (decide (200<((((auA p.aD v4).gI).length:Nat):Int)))) ( some false) ( ec (auz (v4+1)))) ( SB n hJ p)
def A2(n:Nat)(hJ:List bh)(p:b7):Nat→Int→auB
 | 0=>λ_=>none
 |m+1=>La n hJ p (A2 n hJ p m)
def E8(p:b7)(hJ:List bh):auB:=A2 n hJ p n 0
def Lb(n:Nat)(l:List bL):auB:=some (decide (((l.length:Nat):Int)≤6))
def SC(n:Nat)(al:Int→auB)(l:List bL)(c_:Int):auB:=al (auz (c_+1))
def SD(n:Nat)(ec:Int→auB)(al:Int→auB)(l:List bL)(c_:Int)(gZ:Int):auB:=ec (auz (gZ+1))
def Lc(ec:Int→auB)(al:Int→auB)(l:List bL)(c_:Int)(gZ:Int)(rx:Int→auB)(i':Int):auB:=cond (decide (i'<(((((((auA l c_).bJ).getD (gZ).toNat default).Outcome).Out).length:Nat):Int))) ( ax (aL i' (((((auA l c_).bJ).getD (gZ).toNat default).Outcome).Out).length)<|cond (decide (200<(((((((((auA l c_).bJ).getD (gZ).toNat default).Outcome).Out).getD (i').toNat default).S).length:Nat):Int))) ( some false) ( rx (auz (i'+1)))) ( SD n ec al l c_ gZ)
def A3(n:Nat)(ec:Int→auB)(al:Int→auB)(l:List bL)(c_:Int)(gZ:Int):Nat→Int→auB
 | 0=>λ_=>none
 |m+1=>Lc n ec al l c_ gZ (A3 n ec al l c_ gZ m)
def Ld(al:Int→auB)(l:List bL)(c_:Int)(ec:Int→auB)(gZ:Int):auB:=ax (aL c_ l.length)<|cond (decide (gZ<((((auA l c_).bJ).length:Nat):Int))) ( ax (aL c_ l.length)<|ax (aL gZ ((auA l c_).bJ).length)<|cond (decide (20<(((((((auA l c_).bJ).getD (gZ).toNat default).Outcome).Out).length:Nat):Int))) ( some false) ( A3 n ec al l c_ gZ n 0)) ( SC n al l c_)
def uW(n:Nat)(al:Int→auB)(l:List bL)(c_:Int):Nat→Int→auB
 | 0=>λ_=>none
 |m+1=>Ld n al l c_ (uW n al l c_ m)
def Le(l:List bL)(al:Int→auB)(c_:Int):auB:=cond (cond (decide (c_<((l.length:Nat):Int))) (decide (c_<7)) false) ( ax (aL c_ l.length)<|cond (decide (12<((((auA l c_).bJ).length:Nat):Int))) ( some false) ( uW n al l c_ n 0)) ( Lb n l)
def qs(n:Nat)(l:List bL):Nat→Int→auB
 | 0=>λ_=>none
 |m+1=>Le n l (qs n l m)
def E9(l:List bL):auB:=qs n l n 0
def SE(n:Nat):auB:=some true
def Lf(ah:bU)(ef:Int→auB)(bC:Int):auB:=cond (decide (bC<((ah.Queue.length:Nat):Int))) ( ax (aL bC ah.Queue.length)<|(E7 n (auA ah.Queue bC)).bind λe0=>cond (!e0) ( some false) ( ef (auz (bC+1)))) ( SE n)
def xv(n:Nat)(ah:bU):Nat→Int→auB
 | 0=>λ_=>none
 |m+1=>Lf n ah (xv n ah m)
def SF(ah:bU):auB:=xv n ah n 0
def Lg(ah:bU)(ec:Int→auB)(bv:Int):auB:=cond (decide (bv<((ah.cc.length:Nat):Int))) ( ax (aL bv ah.cc.length)<|(E6 n (auA ah.cc bv) 60).bind λdh=>cond (!dh) ( some false) ( ec (auz (bv+1)))) ( SF n ah)
def A4(n:Nat)(ah:bU):Nat→Int→auB
 | 0=>λ_=>none
 |m+1=>Lg n ah (A4 n ah m)
def A5(ah:bU):auB:=(K6 n ah.az 12).bind λr1=>Option.bind (cond (!(cond (cond (!r1) true (decide (4<((ah.cc.length:Nat):Int)))) true (decide (6<((ah.Queue.length:Nat):Int))))) (E9 n ah.cJ) (some default)) λr2=>Option.bind (cond (!(cond (cond (cond (!r1) true (decide (4<((ah.cc.length:Nat):Int)))) true (decide (6<((ah.Queue.length:Nat):Int)))) true (!r2))) (E8 n ah.Place ah.bh) (some default)) λr3=>cond (cond (cond (cond (cond (!r1) true (decide (4<((ah.cc.length:Nat):Int)))) true (decide (6<((ah.Queue.length:Nat):Int)))) true (!r2)) true (!r3)) ( some false) ( A4 n ah n 0)
def SG(n:Nat):auB:=some true
def Lh(l:List bo)(al:Int→auB)(v6:Int):auB:=cond (decide (v6<((l.length:Nat):Int))) ( ax (aL v6 l.length)<|(xk n ((auA l v6).Key)).bind λcW=>ax ((!cW)||(!(decide (0<v6))||aL v6 l.length))<|ax ((!cW)||(!(decide (0<v6))||aL (auz (v6-1)) l.length))<|cond (cond (!cW) true (cond (decide (0<v6)) ((Op.bytesLess ((auA l v6).Key) ((auA l (auz (v6-1))).Key))||(decide (((auA l v6).Key)=((auA l (auz (v6-1))).Key)))) false)) ( some false) ( al (auz (v6+1)))) ( SG n)
def A6(n:Nat)(l:List bo):Nat→Int→auB
 | 0=>λ_=>none
 |m+1=>Lh n l (A6 n l m)
def Li(l:List bo):auB:=A6 n l n 0
def SH(l:List bo):auB:=(Li n l).bind λcW=>some cW
def Lj(l:List bo)(al:Int→auB)(v4:Int):auB:=cond (decide (v4<((l.length:Nat):Int))) ( ax (aL v4 l.length)<|(uR n ((auA l v4).br)).bind λbO=>cond (!bO) ( some false) ( al (auz (v4+1)))) ( SH n l)
def A7(n:Nat)(l:List bo):Nat→Int→auB
 | 0=>λ_=>none
 |m+1=>Lj n l (A7 n l m)
def Lk(l:List bo):auB:=A7 n l n 0
def SI(l:List bo):auB:=(Lk n l).bind λbO=>some bO
def Ll(l:List bo)(al:Int→auB)(v3:Int):auB:=cond (decide (v3<((l.length:Nat):Int))) ( ax (aL v3 l.length)<|cond (decide (((auA l v3).br).Kind=0)) ( some false) ( al (auz (v3+1)))) ( SI n l)
def A8(n:Nat)(l:List bo):Nat→Int→auB
 | 0=>λ_=>none
 |m+1=>Ll n l (A8 n l m)
def Lm(l:List bo):auB:=A8 n l n 0
def SJ(n:Nat)(at_:Int)(bC:List Row):Option (az×Int):=some ((⟨at_,at_,bC⟩:az),0)
def Ln(l:List bo)(at_:Int)(al:(List Row)→Int→Option (az×Int))(bv:List Row)(v9:Int):Option (az×Int):=cond (decide (v9<((l.length:Nat):Int))) ( ax (aL v9 l.length)<|ax (aL v9 l.length)<|ax (room (bv.length+([(⟨(auA l v9).Key,[⟨at_,⟨((auA l v9).br).Kind,((auA l v9).br).N,((auA l v9).br).S⟩⟩]⟩:Row)]:List Row).length) 40)<|al (bv++([(⟨(auA l v9).Key,[⟨at_,⟨((auA l v9).br).Kind,((auA l v9).br).N,((auA l v9).br).S⟩⟩]⟩:Row)]:List Row)) (auz (v9+1))) ( SJ n at_ bv)
def A9(n:Nat)(l:List bo)(at_:Int):Nat→(List Row)→Int→Option (az×Int)
 | 0=>λ_ _=>none
 |m+1=>Ln n l at_ (A9 n l at_ m)
def E'(l:List bo)(at_:Int):Option (az×Int):=(Lm n l).bind λr1=>cond (cond (cond (!r1) true (decide (at_<0))) true (decide (1099511627776<at_))) ( some ((⟨0,0,[]⟩:az),1)) ( A9 n l at_ n ([]:List Row) 0)
def YL(n:Nat)(v11:Int):auC:=some v11
def SK(n:Nat)(al:Int→Int→auC)(s:aux)(at_:Int)(v6:Int)(bv:Int):auC:=al bv (auz (v6+1))
def YM(s:aux)(at_:Int)(al:Int→Int→auC)(v5:Int)(v6:Int):auC:=cond (decide (v6<at_)) ( ax (aL v6 s.length)<|cond (decide ((((s.getD (v6).toNat 0).toNat:Nat):Int)=10)) ( SK n al s at_ v6 (auz (v5+1))) ( SK n al s at_ v6 v5)) ( YL n v5)
def Lo(n:Nat)(s:aux)(at_:Int):Nat→Int→Int→auC
 | 0=>λ_ _=>none
 |m+1=>YM n s at_ (Lo n s at_ m)
def SL(s:aux)(at_:Int):auC:=Lo n s at_ n 0 0
def YN(n:Nat)(c_:Int):auC:=some c_
def YO(n:Nat)(al:Int→auC)(s:aux)(ef:Int→auC)(bC:Int):auC:=ax (!(decide (bC<((s.length:Nat):Int)))||aL bC s.length)<|cond (cond (decide (bC<((s.length:Nat):Int))) (!decide ((((s.getD (bC).toNat 0).toNat:Nat):Int)=10)) false) ( ef (auz (bC+1))) ( al bC)
def Lp(n:Nat)(al:Int→auC)(s:aux):Nat→Int→auC
 | 0=>λ_=>none
 |m+1=>YO n al s (Lp n al s m)
def YP(s:aux)(al:Int→auC)(v11:Int):auC:=cond (decide (v11<((s.length:Nat):Int))) ( ax (aL v11 s.length)<|cond (decide ((((s.getD (v11).toNat 0).toNat:Nat):Int)=35)) ( Lp n al s n v11) ( ax (aL v11 s.length)<|ax ((decide ((((s.getD (v11).toNat 0).toNat:Nat):Int)=32))||aL v11 s.length)<|ax ((cond (decide ((((s.getD (v11).toNat 0).toNat:Nat):Int)=32)) true (decide ((((s.getD (v11).toNat 0).toNat:Nat):Int)=9)))||aL v11 s.length)<|cond (cond (cond (decide ((((s.getD (v11).toNat 0).toNat:Nat):Int)=32)) true (decide ((((s.getD (v11).toNat 0).toNat:Nat):Int)=9))) true (decide ((((s.getD (v11).toNat 0).toNat:Nat):Int)=10))) ( al (auz (v11+1))) ( some v11))) ( YN n v11)
def Lq(n:Nat)(s:aux):Nat→Int→auC
 | 0=>λ_=>none
 |m+1=>YP n s (Lq n s m)
def Lr(s:aux)(at_:Int):auC:=Lq n s n at_
def YQ(n:Nat):Option (List aux):=some ([([61,61]:aux),([33,61]:aux),([60,61]:aux),([62,61]:aux),([43,43]:aux),([40]:aux),([41]:aux),([123]:aux),([125]:aux),([44]:aux),([59]:aux),([58]:aux),([61]:aux),([60]:aux),([62]:aux),([43]:aux),([45]:aux),([42]:aux),([47]:aux),([37]:aux)]:List aux)
def YR(n:Nat)(s:aux):auB:=ax (!(decide (0<((s.length:Nat):Int)))||aL 0 s.length)<|some (cond (decide (0<((s.length:Nat):Int))) (cond (!decide ((((s.getD 0 0).toNat:Nat):Int)=48)) true (decide (((s.length:Nat):Int)=1))) false)
def YS(s:aux)(al:Int→auB)(v4:Int):auB:=cond (decide (v4<((s.length:Nat):Int))) ( ax (aL v4 s.length)<|ax ((decide ((((s.getD (v4).toNat 0).toNat:Nat):Int)<48))||aL v4 s.length)<|cond (cond (decide ((((s.getD (v4).toNat 0).toNat:Nat):Int)<48)) true (decide (57<(((s.getD (v4).toNat 0).toNat:Nat):Int)))) ( some false) ( al (auz (v4+1)))) ( YR n s)
def E_(n:Nat)(s:aux):Nat→Int→auB
 | 0=>λ_=>none
 |m+1=>YS n s (E_ n s m)
def YT(s:aux):auB:=E_ n s n 0
def YU(n:Nat)(s:aux)(bC:Int):Option (Int×Int):=cond (cond (decide (0<((s.length:Nat):Int))) (decide ((((s.getD 0 0).toNat:Nat):Int)=45)) false) ( some ((auz (IntKind.u64.wrap (0-bC))),0)) ( some ((auz bC),0))
def YV(s:aux)(v3:aux)(v4:Int)(ef:Int→Int→Option (Int×Int))(v10:Int)(v11:Int):Option (Int×Int):=cond (decide (v11<((v3.length:Nat):Int))) ( ax (aL v11 v3.length)<|cond (decide ((IntKind.u64.wrap (Int.tdiv (IntKind.u64.wrap (v4-(IntKind.u64.wrap (IntKind.u8.wrap ((((v3.getD (v11).toNat 0).toNat:Nat):Int)-48))))) 10))<v10)) ( some (0,3)) ( ef (IntKind.u64.wrap ((IntKind.u64.wrap (v10*10))+(IntKind.u64.wrap (IntKind.u8.wrap ((((v3.getD (v11).toNat 0).toNat:Nat):Int)-48))))) (auz (v11+1)))) ( YU n s v10)
def Ls(n:Nat)(s:aux)(v3:aux)(v4:Int):Nat→Int→Int→Option (Int×Int)
 | 0=>λ_ _=>none
 |m+1=>YV n s v3 v4 (Ls n s v3 v4 m)
def SM(s:aux)(v3:aux)(v4:Int):Option (Int×Int):=(YT n v3).bind λb'=>cond (cond (!b') true (cond (cond (decide (0<((s.length:Nat):Int))) (decide ((((s.getD 0 0).toNat:Nat):Int)=45)) false) (decide (v3=([48]:aux))) false)) ( some (0,5)) ( Ls n s v3 v4 n 0 0)
def SN(s:aux):Option (Int×Int):=ax (!(decide (0<((s.length:Nat):Int)))||aL 0 s.length)<|cond (cond (decide (0<((s.length:Nat):Int))) (decide ((((s.getD 0 0).toNat:Nat):Int)=45)) false) ( ax (ho 1 s.length)<|SM n s (s.drop 1) 9223372036854775808) ( SM n s s 9223372036854775807)
def SO(w:aux):Option (Token×Int):=ax (aL 0 w.length)<|(AK n (((w.getD 0 0).toNat:Nat):Int)).bind λr2=>cond r2 ( (EK n w).bind λbx=>cond bx ( some ((⟨2,w,0,0⟩:Token),0)) ( (s' n w).bind λbO=>cond bO ( some ((⟨1,w,0,0⟩:Token),0)) ( some ((⟨0,[],0,0⟩:Token),2)))) ( (SN n w).bind λcW=>cond (!decide (cW.2=0)) ( some ((⟨0,[],0,0⟩:Token),cW.2)) ( some ((⟨3,[],cW.1,0⟩:Token),0)))
def YW(n:Nat)(cY:Int):Option (aux×Int×Int):=some (([]:aux),cY,6)
def SP(n:Nat)(al:Int→aux→Option (aux×Int×Int))(s:aux)(v10:aux)(bE:Int):Option (aux×Int×Int):=cond (decide (((v10.length:Nat):Int)=64)) ( some (([]:aux),bE,2)) ( ax (lW bE (auz (bE+1)) s.length)<|ax (b0 (v10.length+((s.take ((auz (bE+1))).toNat).drop (bE).toNat).length))<|al (auz (bE+1)) (v10++((s.take ((auz (bE+1))).toNat).drop (bE).toNat)))
def YX(s:aux)(al:Int→aux→Option (aux×Int×Int))(v9:Int)(v10:aux):Option (aux×Int×Int):=cond (decide (v9<((s.length:Nat):Int))) ( ax (aL v9 s.length)<|cond (decide ((((s.getD (v9).toNat 0).toNat:Nat):Int)=34)) ( some (v10,(auz (v9+1)),0)) ( cond (decide ((((s.getD (v9).toNat 0).toNat:Nat):Int)=92)) ( cond (decide ((auz (v9+1))=((s.length:Nat):Int))) ( some (([]:aux),(auz (v9+1)),6)) ( ax (aL (auz (v9+1)) s.length)<|ax (!(!decide ((((s.getD ((auz (v9+1))).toNat 0).toNat:Nat):Int)=34))||aL (auz (v9+1)) s.length)<|cond (cond (!decide ((((s.getD ((auz (v9+1))).toNat 0).toNat:Nat):Int)=34)) (!decide ((((s.getD ((auz (v9+1))).toNat 0).toNat:Nat):Int)=92)) false) ( some (([]:aux),(auz (v9+1)),5)) ( SP n al s v10 (auz (v9+1))))) ( cond (cond (decide ((((s.getD (v9).toNat 0).toNat:Nat):Int)<32)) true (decide (126<(((s.getD (v9).toNat 0).toNat:Nat):Int)))) ( some (([]:aux),v9,5)) ( SP n al s v10 v9)))) ( YW n v9)
def Lt(n:Nat)(s:aux):Nat→Int→aux→Option (aux×Int×Int)
 | 0=>λ_ _=>none
 |m+1=>YX n s (Lt n s m)
def YY(s:aux)(at_:Int):Option (aux×Int×Int):=Lt n s n (auz (at_+1)) ([]:aux)
def YZ(n:Nat)(at_:Int):Option (Token×Int×Int):=some ((⟨0,[],0,0⟩:Token),at_,5)
def Y0(s:aux)(at_:Int)(dh:(List aux))(al:Int→Option (Token×Int×Int))(co:Int):Option (Token×Int×Int):=cond (decide (co<((dh.length:Nat):Int))) ( ax (aL co dh.length)<|ax (!(decide ((auz (at_+(((auA dh co).length:Nat):Int)))≤((s.length:Nat):Int)))||aL co dh.length)<|ax (!(decide ((auz (at_+(((auA dh co).length:Nat):Int)))≤((s.length:Nat):Int)))||lW at_ (auz (at_+(((auA dh co).length:Nat):Int))) s.length)<|ax (!(decide ((auz (at_+(((auA dh co).length:Nat):Int)))≤((s.length:Nat):Int)))||aL co dh.length)<|cond (cond (decide ((auz (at_+(((auA dh co).length:Nat):Int)))≤((s.length:Nat):Int))) (decide (((s.take ((auz (at_+(((auA dh co).length:Nat):Int)))).toNat).drop (at_).toNat)=(auA dh co))) false) ( ax (aL co dh.length)<|ax (aL co dh.length)<|some ((⟨5,(auA dh co),0,0⟩:Token),(auz (at_+(((auA dh co).length:Nat):Int))),0)) ( al (auz (co+1)))) ( YZ n at_)
def Fa(n:Nat)(s:aux)(at_:Int)(dh:(List aux)):Nat→Int→Option (Token×Int×Int)
 | 0=>λ_=>none
 |m+1=>Y0 n s at_ dh (Fa n s at_ dh m)
def SQ(s:aux)(at_:Int):Option (Token×Int×Int):=ax (aL at_ s.length)<|cond (decide ((((s.getD (at_).toNat 0).toNat:Nat):Int)=34)) ( (YY n s at_).bind λr3=>some ((⟨4,r3.1,0,0⟩:Token),r3.2.1,r3.2.2)) ( ax (aL at_ s.length)<|(EL n (((s.getD (at_).toNat 0).toNat:Nat):Int)).bind λb'=>cond b' ( (Kr n s at_).bind λcU=>ax (lW at_ cU s.length)<|(SO n ((s.take (cU).toNat).drop (at_).toNat)).bind λcR=>some (cR.1,cU,cR.2)) ( (YQ n).bind λdh=>Fa n s at_ dh n 0))
def Y1(n:Nat)(a1:List Token):Option ((List Token)×Int×Int):=some (a1,0,0)
def SR(src:aux)(al:(List Token)→Int→Option ((List Token)×Int×Int))(v9:List Token)(v10:Int):Option ((List Token)×Int×Int):=cond (decide (v10<((src.length:Nat):Int))) ( (SL n src v10).bind λb5=>(SQ n src v10).bind λeV=>cond (!decide (eV.2.2=0)) ( some (([]:List Token),(auz (b5+1)),eV.2.2)) ( ax (room (v9.length+([(⟨eV.1.Kind,eV.1.Text,eV.1.N,(auz (b5+1))⟩:Token)]:List Token).length) 40)<|(Lr n src eV.2.1).bind λeZ=>al (v9++([(⟨eV.1.Kind,eV.1.Text,eV.1.N,(auz (b5+1))⟩:Token)]:List Token)) eZ)) ( Y1 n v9)
def Fb(n:Nat)(src:aux):Nat→(List Token)→Int→Option ((List Token)×Int×Int)
 | 0=>λ_ _=>none
 |m+1=>SR n src (Fb n src m)
def Y2(src:aux):Option ((List Token)×Int×Int):=cond (decide (16384<((src.length:Nat):Int))) ( some (([]:List Token),0,2)) ( (Lr n src 0).bind λr2=>Fb n src n ([]:List Token) r2)
def Fc(ah:bU):Option (bU×Int):=(KX n ah).bind λr1=>cond (!r1) ( some ((⟨0,⟨0,0,[]⟩,[],[],⟨0,[]⟩,[],[],0⟩:bU),1)) ( (K0 n ah.az ah.Pos).bind λr3=>(E' n r3.1 ah.Pos).bind λbx=>some ((⟨ah.Pos,bx.1,ah.cc,ah.cJ,ah.Place,ah.bh,ah.Queue,ah.de⟩:bU),0))
def Lu(a:bU)(b:bU):auB:=(Fc n a).bind λr1=>(Fc n b).bind λr2=>Option.bind (cond (cond (decide (r1.2=0)) (decide (r2.2=0)) false) (s9 n r1.1 r2.1) (some default)) λr3=>some (cond (cond (decide (r1.2=0)) (decide (r2.2=0)) false) r3 false)
def SS(a:bU)(b:bU):auB:=(A5 n a).bind λr1=>Option.bind (cond (!(!r1)) (A5 n b) (some default)) λr2=>cond (cond (!r1) true (!r2)) ( (J_ n).bind λbx=>some bx) ( (Ag n a b).bind λb'=>(Lu n a b).bind λbO=>Option.bind (cond (b' == bO) (J_ n) (some default)) λcU=>some (cond (b' == bO) cU false))
def Y3(ah:bU):Option (bU×Int):=(rz n ah).bind λr1=>cond (!r1) ( some ((⟨0,⟨0,0,[]⟩,[],[],⟨0,[]⟩,[],[],0⟩:bU),1)) ( (sU n ah).bind λr3=>(Ez n r3).bind λbx=>some (bx.1,bx.2))
end Go.Ab.Y

/- What each function computes, over plain data, with fuel. Printed by a program. -/
import Derived.Test.YtcjbfnojhpfchaaGreatDoorHand
set_option linter.all false
namespace Go.Ab.Y
open Go Go.Ab Go.Proofs
variable (n:Nat)
def Pc(n:Nat)(c:Int):ar2:=some (cond (cond (cond (cond (cond (cond (decide (97≤c)) (decide (c≤122)) false) true (cond (decide (48≤c)) (decide (c≤57)) false)) true (decide (c=47))) true (decide (c=46))) true (decide (c=95))) true (decide (c=45)))
def Pd(n:Nat):ar2:=some true
def HY(s:arY)(am:Int→ar2)(v5:Int):ar2:=cond (decide (v5<((s.length:Nat):Int))) ( av (aM v5 s.length)<|(Pc n (((s.getD (v5).toNat 0).toNat:Nat):Int)).bind λbC=>cond (!bC) ( some false) ( am (ar0 (v5+1)))) ( Pd n)
def y0(n:Nat)(s:arY):Nat→Int→ar2
 | 0=>λ_=>none
 |m+1=>HY n s (y0 n s m)
def HZ(s:arY):ar2:=cond (decide (24<((s.length:Nat):Int))) ( some false) ( y0 n s n 0)
def wz(k:arY):ar2:=Option.bind (cond (!(decide (k=([]:arY)))) (HZ n k) (some default)) λr1=>some (cond (!(decide (k=([]:arY)))) r1 false)
def Pe(n:Nat)(l:List arY):ar2:=some (decide (((l.length:Nat):Int)≤64))
def H0(l:List arY)(am:Int→ar2)(v5:Int):ar2:=cond (decide (v5<((l.length:Nat):Int))) ( av (aM v5 l.length)<|(wz n (ar1 l v5)).bind λbC=>av ((!bC)||(!(decide (0<v5))||aM (ar0 (v5-1)) l.length))<|cond (cond (!bC) true (cond (decide (0<v5)) ((Op.bytesLess (ar1 l v5) (ar1 l (ar0 (v5-1))))||(decide ((ar1 l v5)=(ar1 l (ar0 (v5-1)))))) false)) ( some false) ( am (ar0 (v5+1)))) ( Pe n l)
def y1(n:Nat)(l:List arY):Nat→Int→ar2
 | 0=>λ_=>none
 |m+1=>H0 n l (y1 n l m)
def CO(l:List arY):ar2:=y1 n l n 0
def CP(f:eT):ar2:=cond f.eg ( some (cond (decide (((f.Reads.length:Nat):Int)=0)) (decide (((f.dw.length:Nat):Int)=0)) false)) ( (CO n f.Reads).bind λr2=>Option.bind (cond r2 (CO n f.dw) (some default)) λr3=>some (cond r2 r3 false))
def Pf(n:Nat):ar2:=some false
def iy(v1:Bool):ar2:=cond v1 ( some true) ( Pf n)
def CQ(s:arY):ar2:=cond (decide (s=([112,114,111,99]:arY))) ( iy n (decide (s=([112,114,111,99]:arY)))) ( cond (decide (s=([108,101,116]:arY))) ( iy n (decide (s=([108,101,116]:arY)))) ( cond (decide (s=([112,117,116]:arY))) ( iy n (decide (s=([112,117,116]:arY)))) ( cond (decide (s=([100,101,108,101,116,101]:arY))) ( iy n (decide (s=([100,101,108,101,116,101]:arY)))) ( cond (decide (s=([105,102]:arY))) ( iy n (decide (s=([105,102]:arY)))) ( cond (decide (s=([101,108,115,101]:arY))) ( iy n (decide (s=([101,108,115,101]:arY)))) ( cond (decide (s=([102,111,114]:arY))) ( iy n (decide (s=([102,111,114]:arY)))) ( cond (decide (s=([116,111]:arY))) ( iy n (decide (s=([116,111]:arY)))) ( cond (decide (s=([109,97,120]:arY))) ( iy n (decide (s=([109,97,120]:arY)))) ( cond (decide (s=([101,109,105,116]:arY))) ( iy n (decide (s=([101,109,105,116]:arY)))) ( cond (decide (s=([97,98,111,114,116]:arY))) ( iy n (decide (s=([97,98,111,114,116]:arY)))) ( cond (decide (s=([110,111,116]:arY))) ( iy n (decide (s=([110,111,116]:arY)))) ( cond (decide (s=([97,110,100]:arY))) ( iy n (decide (s=([97,110,100]:arY)))) ( cond (decide (s=([111,114]:arY))) ( iy n (decide (s=([111,114]:arY)))) ( cond (decide (s=([105,110,116]:arY))) ( iy n (decide (s=([105,110,116]:arY)))) ( cond (decide (s=([115,116,114]:arY))) ( iy n (decide (s=([115,116,114]:arY)))) ( cond (decide (s=([98,111,111,108]:arY))) ( iy n (decide (s=([98,111,111,108]:arY)))) ( cond (decide (s=([116,101,120,116]:arY))) ( iy n (decide (s=([116,101,120,116]:arY)))) ( cond (decide (s=([108,101,110]:arY))) ( iy n (decide (s=([108,101,110]:arY)))) ( cond (decide (s=([103,101,116,105,110,116]:arY))) ( iy n (decide (s=([103,101,116,105,110,116]:arY)))) ( cond (decide (s=([103,101,116,115,116,114]:arY))) ( iy n (decide (s=([103,101,116,115,116,114]:arY)))) ( cond (decide (s=([104,97,115]:arY))) ( iy n (decide (s=([104,97,115]:arY)))) ( cond (decide (s=([110,111,119]:arY))) ( iy n (decide (s=([110,111,119]:arY)))) ( cond (decide (s=([114,97,110,100,111,109]:arY))) ( iy n (decide (s=([114,97,110,100,111,109]:arY)))) ( iy n (decide (s=([110,111,100,101]:arY)))))))))))))))))))))))))))
def CR(n:Nat)(c:Int):ar2:=some (cond (decide (97≤c)) (decide (c≤122)) false)
def so(s:arY):ar2:=av (!(cond (!(decide (s=([]:arY)))) (decide (((s.length:Nat):Int)≤16)) false)||aM 0 s.length)<|Option.bind (cond (cond (!(decide (s=([]:arY)))) (decide (((s.length:Nat):Int)≤16)) false) (CR n (IntKind.i32.wrap (((s.getD 0 0).toNat:Nat):Int))) (some default)) λr2=>Option.bind (cond (cond (cond (!(decide (s=([]:arY)))) (decide (((s.length:Nat):Int)≤16)) false) r2 false) (yX n s) (some default)) λr3=>Option.bind (cond (cond (cond (cond (!(decide (s=([]:arY)))) (decide (((s.length:Nat):Int)≤16)) false) r2 false) (decide (r3=((s.length:Nat):Int))) false) (CQ n s) (some default)) λbh=>some (cond (cond (cond (cond (!(decide (s=([]:arY)))) (decide (((s.length:Nat):Int)≤16)) false) r2 false) (decide (r3=((s.length:Nat):Int))) false) (!bh) false)
def Yg(n:Nat)(s:arY):ar2:=some (decide (((s.length:Nat):Int)≤64))
def Pg(s:arY)(am:Int→ar2)(v4:Int):ar2:=cond (decide (v4<((s.length:Nat):Int))) ( av (aM v4 s.length)<|av ((decide ((((s.getD (v4).toNat 0).toNat:Nat):Int)<32))||aM v4 s.length)<|cond (cond (decide ((((s.getD (v4).toNat 0).toNat:Nat):Int)<32)) true (decide (126<(((s.getD (v4).toNat 0).toNat:Nat):Int)))) ( some false) ( am (ar0 (v4+1)))) ( Yg n s)
def CS(n:Nat)(s:arY):Nat→Int→ar2
 | 0=>λ_=>none
 |m+1=>Pg n s (CS n s m)
def CT(s:arY):ar2:=CS n s n 0
def sq(v:bk):ar2:=cond (decide (v.Kind=0)) ( some ((decide (v.Kind=0))&&((decide (v.N=0))&&((decide (v.S=([]:arY)))&&true)))) ( cond (decide (v.Kind=1)) ( some (decide (v.S=([]:arY)))) ( cond (decide (v.Kind=2)) ( Option.bind (cond (decide (v.N=0)) (CT n v.S) (some default)) λbh=>some (cond (decide (v.N=0)) bh false)) ( some false)))
def Ph(v:bk):ar2:=Option.bind (cond (!(decide (v.Kind=0))) (sq n v) (some default)) λr1=>some (cond (decide (v.Kind=0)) true (!r1))
def Pi(n:Nat):ar3:=some (-1)
def H2(s:List bk)(am:Int→ar3)(v4:Int):ar3:=cond (decide (v4<((s.length:Nat):Int))) ( av (aM v4 s.length)<|(Ph n (ar1 s v4)).bind λbr=>cond br ( some v4) ( am (ar0 (v4+1)))) ( Pi n)
def y2(n:Nat)(s:List bk):Nat→Int→ar3
 | 0=>λ_=>none
 |m+1=>H2 n s (y2 n s m)
def Pj(s:List bk):ar3:=y2 n s n 0
def Pk(s:List bk):ar2:=(Pj n s).bind λr1=>some (decide (0≤r1))
def ug(ar:Request):ar3:=cond (cond (cond (cond (decide (ar.Client<1)) true (decide (32<ar.Client))) true (decide (ar.Seq<1))) true (decide (1099511627776<ar.Seq))) ( some 1) ( (so n ar.a_).bind λr2=>cond (!r2) ( some 7) ( cond (decide (6<((ar.au.length:Nat):Int))) ( some 2) ( (Pk n ar.au).bind λbu=>cond bu ( some 1) ( (CP n ar.bD).bind λbC=>cond (cond (cond (!bC) true ar.bD.eg) true (cond (!ar.ff) (decide (0<(ar0 (((ar.bD.Reads.length:Nat):Int)+((ar.bD.dw.length:Nat):Int))))) false)) ( some 1) ( some 0)))))
def Pl(n:Nat)(b:List Int)(c:Int):Option (List Int):=av (room (b.length+([c]:List Int).length) 1)<|some (b++([c]:List Int))
def Yh(v9:Int)(v10:List Int):Option arY:=(Pl n v10 (IntKind.u8.wrap v9)).bind λbc=>av (ns bc)<|some (kd bc)
def Yi(am:Int→(List Int)→Option arY)(v4:Int)(v5:List Int):Option arY:=cond (decide (128≤v4)) ( (Pl n v5 (rT .u8 (IntKind.u8.wrap v4) 128)).bind λbr=>am (rV .u64 v4 7) br) ( Yh n v4 v5)
def Pm(n:Nat):Nat→Int→(List Int)→Option arY
 | 0=>λ_ _=>none
 |m+1=>Yi n (Pm n m)
def ke(u:Int):Option arY:=Pm n n u ([]:List Int)
def sr(s:arY):Option arY:=(ke n (IntKind.u64.wrap ((s.length:Nat):Int))).bind λr1=>av (b' (r1.length+s.length))<|some (r1++s)
def Yj(n:Nat)(bP:arY):Option arY:=some bP
def Yk(l:List arY)(am:Int→arY→Option arY)(bw:Int)(ba:arY):Option arY:=cond (decide (bw<((l.length:Nat):Int))) ( av (aM bw l.length)<|(sr n (ar1 l bw)).bind λcP=>av (b' (ba.length+cP.length))<|am (ar0 (bw+1)) (ba++cP)) ( Yj n ba)
def Pn(n:Nat)(l:List arY):Nat→Int→arY→Option arY
 | 0=>λ_ _=>none
 |m+1=>Yk n l (Pn n l m)
def Po(l:List arY):Option arY:=(ke n (IntKind.u64.wrap ((l.length:Nat):Int))).bind λr1=>Pn n l n 0 r1
def uh(c6:Int):Option arY:=(ke n (oY .u64 (rU .u64 (IntKind.u64.wrap c6) 1) (IntKind.u64.wrap (rV .i64 c6 63)))).bind λr1=>some r1
def H3(v:bk):Option arY:=cond (decide (v.Kind=1)) ( (ke n 1).bind λr2=>(uh n v.N).bind λr3=>av (b' (r2.length+r3.length))<|some (r2++r3)) ( cond (decide (v.Kind=2)) ( (ke n 2).bind λbr=>(sr n v.S).bind λbC=>av (b' (br.length+bC.length))<|some (br++bC)) ( (ke n 0).bind λb7=>some b7))
def Yl(n:Nat)(b:Bool):Option arY:=cond b ( some ([1]:arY)) ( some ([0]:arY))
def Pp(n:Nat)(hR:arY):Option arY:=some hR
def Ym(ar:Request)(e_:arY):Option arY:=(Yl n ar.ff).bind λea=>av (b' (e_.length+ea.length))<|cond ar.ff ( (Po n ar.bD.Reads).bind λft=>(Po n ar.bD.dw).bind λr26=>av (b' (ft.length+r26.length))<|av (b' ((e_++ea).length+(ft++r26).length))<|Pp n ((e_++ea)++(ft++r26))) ( Pp n (e_++ea))
def Yn(ar:Request)(fj:arY→Int→Option arY)(bA:arY)(ct:Int):Option arY:=cond (decide (ct<((ar.au.length:Nat):Int))) ( av (aM ct ar.au.length)<|(H3 n (ar1 ar.au ct)).bind λen=>av (b' (bA.length+en.length))<|fj (bA++en) (ar0 (ct+1))) ( Ym n ar bA)
def Pq(n:Nat)(ar:Request):Nat→arY→Int→Option arY
 | 0=>λ_ _=>none
 |m+1=>Yn n ar (Pq n ar m)
def Yo(ar:Request):Option arY:=(ug n ar).bind λr1=>cond (!decide (r1=0)) ( some ([]:arY)) ( (ke n (IntKind.u64.wrap ar.Client)).bind λr3=>(ke n (IntKind.u64.wrap ar.Seq)).bind λbh=>av (b' (r3.length+bh.length))<|(sr n ar.a_).bind λbr=>av (b' ((r3++bh).length+br.length))<|(ke n (IntKind.u64.wrap ((ar.au.length:Nat):Int))).bind λcn=>av (b' (((r3++bh)++br).length+cn.length))<|Pq n ar n (((r3++bh)++br)++cn) 0)
def Yp(n:Nat)(aQ:arY):Option arY:=some aQ
def Yq(l:List Request)(am:Int→arY→Option arY)(v9:Int)(v10:arY):Option arY:=cond (decide (v9<((l.length:Nat):Int))) ( av (aM v9 l.length)<|(ug n (⟨(ar1 l v9).Client,(ar1 l v9).Seq,(ar1 l v9).a_,(ar1 l v9).au,(ar1 l v9).ff,⟨((ar1 l v9).bD).eg,((ar1 l v9).bD).Reads,((ar1 l v9).bD).dw⟩⟩:Request)).bind λaS=>cond (!decide (aS=0)) ( some ([]:arY)) ( (Yo n (⟨(ar1 l v9).Client,(ar1 l v9).Seq,(ar1 l v9).a_,(ar1 l v9).au,(ar1 l v9).ff,⟨((ar1 l v9).bD).eg,((ar1 l v9).bD).Reads,((ar1 l v9).bD).dw⟩⟩:Request)).bind λcb=>av (b' (v10.length+cb.length))<|am (ar0 (v9+1)) (v10++cb))) ( Yp n v10)
def Pr(n:Nat)(l:List Request):Nat→Int→arY→Option arY
 | 0=>λ_ _=>none
 |m+1=>Yq n l (Pr n l m)
def Yr(l:List Request):Option arY:=cond (decide (64<((l.length:Nat):Int))) ( some ([]:arY)) ( (ke n (IntKind.u64.wrap ((l.length:Nat):Int))).bind λr2=>Pr n l n 0 r2)
def Ps(n:Nat):ar2:=some true
def H4(floor:Int)(last:Int)(ar:Row)(am:Int→ar2)(ba:Int):ar2:=cond (decide (ba<((ar.ce.length:Nat):Int))) ( av (aM ba ar.ce.length)<|Option.bind (cond (!(cond (decide ((ar1 ar.ce ba).fY<floor)) true (decide (last<(ar1 ar.ce ba).fY)))) (sq n (⟨((ar1 ar.ce ba).bY).Kind,((ar1 ar.ce ba).bY).N,((ar1 ar.ce ba).bY).S⟩:bk)) (some default)) λcP=>cond (cond (cond (decide ((ar1 ar.ce ba).fY<floor)) true (decide (last<(ar1 ar.ce ba).fY))) true (!cP)) ( some false) ( av (!(decide (0<ba))||aM (ar0 (ba-1)) ar.ce.length)<|av (!(decide (0<ba))||((decide ((ar1 ar.ce ba).fY≤(ar1 ar.ce (ar0 (ba-1))).fY))||aM (ar0 (ba-1)) ar.ce.length))<|cond (cond (decide (0<ba)) (cond (decide ((ar1 ar.ce ba).fY≤(ar1 ar.ce (ar0 (ba-1))).fY)) true ((decide (((ar1 ar.ce ba).bY).Kind=((ar1 ar.ce (ar0 (ba-1))).bY).Kind))&&((decide (((ar1 ar.ce ba).bY).N=((ar1 ar.ce (ar0 (ba-1))).bY).N))&&((decide (((ar1 ar.ce ba).bY).S=((ar1 ar.ce (ar0 (ba-1))).bY).S))&&true)))) false) ( some false) ( am (ar0 (ba+1))))) ( Ps n)
def y3(n:Nat)(floor:Int)(last:Int)(ar:Row):Nat→Int→ar2
 | 0=>λ_=>none
 |m+1=>H4 n floor last ar (y3 n floor last ar m)
def H5(ar:Row)(floor:Int)(last:Int):ar2:=av ((decide (((ar.ce.length:Nat):Int)=0))||aM 0 ar.ce.length)<|cond (cond (decide (((ar.ce.length:Nat):Int)=0)) true (decide (((ar.ce.getD 0 default).bY).Kind=0))) ( some false) ( y3 n floor last ar n 0)
def Pt(n:Nat):ar2:=some true
def H6(s:be)(am:Int→ar2)(bw:Int):ar2:=cond (decide (bw<((s.Rows.length:Nat):Int))) ( av (aM bw s.Rows.length)<|(wz n ((ar1 s.Rows bw).Key)).bind λb7=>av ((!b7)||(!(decide (0<bw))||aM (ar0 (bw-1)) s.Rows.length))<|Option.bind (cond (!(cond (!b7) true (cond (decide (0<bw)) ((Op.bytesLess ((ar1 s.Rows bw).Key) ((ar1 s.Rows (ar0 (bw-1))).Key))||(decide (((ar1 s.Rows bw).Key)=((ar1 s.Rows (ar0 (bw-1))).Key)))) false))) (H5 n (ar1 s.Rows bw) s.dI s.c_) (some default)) λbc=>cond (cond (cond (!b7) true (cond (decide (0<bw)) ((Op.bytesLess ((ar1 s.Rows bw).Key) ((ar1 s.Rows (ar0 (bw-1))).Key))||(decide (((ar1 s.Rows bw).Key)=((ar1 s.Rows (ar0 (bw-1))).Key)))) false)) true (!bc)) ( some false) ( am (ar0 (bw+1)))) ( Pt n)
def y4(n:Nat)(s:be):Nat→Int→ar2
 | 0=>λ_=>none
 |m+1=>H6 n s (y4 n s m)
def CU(s:be):ar2:=cond (cond (cond (decide (s.dI<0)) true (decide (s.c_<s.dI))) true (decide (1099511627776<s.c_))) ( some false) ( y4 n s n 0)
def Ys(n:Nat)(s:be)(at_:Int):ar3:=cond (cond (decide (at_<s.dI)) true (decide (s.c_<at_))) ( some 15) ( some 0)
def Yt(n:Nat)(v6:Int):ar3:=some v6
def Yu(at_:Int)(ar:Row)(am:Int→ar3)(v3:Int):ar3:=av (!(decide (v3<((ar.ce.length:Nat):Int)))||aM v3 ar.ce.length)<|cond (cond (decide (v3<((ar.ce.length:Nat):Int))) (decide ((ar1 ar.ce v3).fY≤at_)) false) ( am (ar0 (v3+1))) ( Yt n v3)
def Pu(n:Nat)(at_:Int)(ar:Row):Nat→Int→ar3
 | 0=>λ_=>none
 |m+1=>Yu n at_ ar (Pu n at_ ar m)
def Yv(ar:Row)(at_:Int):ar3:=Pu n at_ ar n 0
def Yw(ar:Row)(at_:Int):Option bk:=(Yv n ar at_).bind λr1=>cond (decide (r1=0)) ( some (⟨0,0,[]⟩:bk)) ( av (aM (ar0 (r1-1)) ar.ce.length)<|some (⟨((ar1 ar.ce (ar0 (r1-1))).bY).Kind,((ar1 ar.ce (ar0 (r1-1))).bY).N,((ar1 ar.ce (ar0 (r1-1))).bY).S⟩:bk))
def Yx(n:Nat)(b4:List bG):Option ((List bG)×Int):=some (b4,0)
def Pv(n:Nat)(am:Int→(List bG)→Option ((List bG)×Int))(at_:Int)(s:be)(v11:Int)(ct:List bG):Option ((List bG)×Int):=am (ar0 (v11+1)) ct
def Yy(at_:Int)(s:be)(am:Int→(List bG)→Option ((List bG)×Int))(v11:Int)(v12:List bG):Option ((List bG)×Int):=cond (decide (v11<((s.Rows.length:Nat):Int))) ( av (aM v11 s.Rows.length)<|(Yw n (ar1 s.Rows v11) at_).bind λdK=>cond (!decide (dK.Kind=0)) ( av (room (v12.length+([(⟨(ar1 s.Rows v11).Key,dK⟩:bG)]:List bG).length) 48)<|Pv n am at_ s v11 (v12++([(⟨(ar1 s.Rows v11).Key,dK⟩:bG)]:List bG))) ( Pv n am at_ s v11 v12)) ( Yx n v12)
def Pw(n:Nat)(at_:Int)(s:be):Nat→Int→(List bG)→Option ((List bG)×Int)
 | 0=>λ_ _=>none
 |m+1=>Yy n at_ s (Pw n at_ s m)
def Yz(s:be)(at_:Int):Option ((List bG)×Int):=(CU n s).bind λr1=>cond (!r1) ( some (([]:List bG),1)) ( (Ys n s at_).bind λr3=>cond (!decide (r3=0)) ( some (([]:List bG),r3)) ( Pw n at_ s n 0 ([]:List bG)))
def YA(n:Nat)(m5:arY):Option arY:=some m5
def YB(p:cp)(am:Int→arY→Option arY)(aQ:Int)(bQ:arY):Option arY:=cond (decide (aQ<((p.aV.length:Nat):Int))) ( av (aM aQ p.aV.length)<|(uh n ((ar1 p.aV aQ).Id)).bind λdZ=>(sr n ((ar1 p.aV aQ).eJ)).bind λe0=>av (b' (dZ.length+e0.length))<|(uh n ((ar1 p.aV aQ).Node)).bind λea=>av (b' ((dZ++e0).length+ea.length))<|(uh n ((ar1 p.aV aQ).fN)).bind λft=>av (b' (((dZ++e0)++ea).length+ft.length))<|(sr n ((ar1 p.aV aQ).ii)).bind λr27=>av (b' ((((dZ++e0)++ea)++ft).length+r27.length))<|av (b' (bQ.length+((((dZ++e0)++ea)++ft)++r27).length))<|am (ar0 (aQ+1)) (bQ++((((dZ++e0)++ea)++ft)++r27))) ( YA n bQ)
def Px(n:Nat)(p:cp):Nat→Int→arY→Option arY
 | 0=>λ_ _=>none
 |m+1=>YB n p (Px n p m)
def YC(p:cp):Option arY:=(uh n p.Version).bind λr1=>(ke n (IntKind.u64.wrap ((p.aV.length:Nat):Int))).bind λr2=>av (b' (r1.length+r2.length))<|Px n p n 0 (r1++r2)
def Py(n:Nat)(y:Param)(af:Param):ar2:=some (decide (y.Name=af.Name))
def Pz(n:Nat)(af:Param):ar3:=some (-1)
def PA(s:List Param)(af:Param)(am:Int→ar3)(v4:Int):ar3:=cond (decide (v4<((s.length:Nat):Int))) ( av (aM v4 s.length)<|(Py n (ar1 s v4) af).bind λbr=>cond br ( some v4) ( am (ar0 (v4+1)))) ( Pz n af)
def y5(n:Nat)(s:List Param)(af:Param):Nat→Int→ar3
 | 0=>λ_=>none
 |m+1=>PA n s af (y5 n s af m)
def PB(s:List Param)(af:Param):ar3:=y5 n s af n 0
def H7(s:List Param)(af:Param):ar2:=(PB n s af).bind λr1=>some (decide (0≤r1))
def PC(n:Nat):ar3:=some 0
def PD(l:List Param)(am:Int→ar3)(bw:Int):ar3:=cond (decide (bw<((l.length:Nat):Int))) ( av (aM bw l.length)<|(so n ((ar1 l bw).Name)).bind λb7=>cond (!b7) ( some 7) ( cond (cond (decide ((ar1 l bw).fS<1)) true (decide (3<(ar1 l bw).fS))) ( some 10) ( av (hv bw l.length)<|(H7 n (l.take (bw).toNat) (ar1 l bw)).bind λbc=>cond bc ( some 8) ( am (ar0 (bw+1)))))) ( PC n)
def y6(n:Nat)(l:List Param):Nat→Int→ar3
 | 0=>λ_=>none
 |m+1=>PD n l (y6 n l m)
def H8(l:List Param):ar3:=cond (decide (6<((l.length:Nat):Int))) ( some 2) ( y6 n l n 0)
def H9(n:Nat)(op:Int):ar3:=cond (cond (decide (op<1)) true (decide (27<op))) ( some (-1)) ( cond (cond (decide (op≤3)) true (decide (25≤op))) ( some 0) ( cond (cond (cond (decide (op=9)) true (decide (op=18))) true (decide (20≤op))) ( some 1) ( some 2)))
def PE(n:Nat)(s:arY):ar2:=some (decide (((s.length:Nat):Int)≤64))
def PF(s:arY)(am:Int→ar2)(v4:Int):ar2:=cond (decide (v4<((s.length:Nat):Int))) ( av (aM v4 s.length)<|av ((decide ((((s.getD (v4).toNat 0).toNat:Nat):Int)<32))||aM v4 s.length)<|cond (cond (decide ((((s.getD (v4).toNat 0).toNat:Nat):Int)<32)) true (decide (126<(((s.getD (v4).toNat 0).toNat:Nat):Int)))) ( some false) ( am (ar0 (v4+1)))) ( PE n s)
def y7(n:Nat)(s:arY):Nat→Int→ar2
 | 0=>λ_=>none
 |m+1=>PF n s (y7 n s m)
def PG(s:arY):ar2:=y7 n s n 0
def H'(e:Expr)(depth:Int):ar3:=(H9 n e.Op).bind λr1=>cond (cond (cond (decide (r1<0)) true (cond (!decide (e.Op=1)) (!decide (e.N=0)) false)) true (cond (cond (!decide (e.Op=2)) (!decide (e.Op=3)) false) (!(decide (e.S=([]:arY)))) false)) ( some 1) ( Option.bind (cond (decide (e.Op=3)) (so n e.S) (some default)) λr3=>cond (cond (decide (e.Op=3)) (!r3) false) ( some 7) ( Option.bind (cond ((!(cond (decide (e.Op=1)) (decide (e.N<0)) false))&&(decide (e.Op=2))) (PG n e.S) (some default)) λbu=>cond (cond (cond (cond (decide (e.Op=1)) (decide (e.N<0)) false) true (cond (decide (e.Op=2)) (!bu) false)) true (!decide (((e.au.length:Nat):Int)=r1))) ( some 1) ( cond (decide (12<depth)) ( some 2) ( some 0))))
def PH(n:Nat)(nw:Expr→Int→ar3):ar3:=some 0
def PI(nw:Expr→Int→ar3)(depth:Int)(e:Expr)(am:Int→ar3)(v6:Int):ar3:=cond (decide (v6<((e.au.length:Nat):Int))) ( av (aM v6 e.au.length)<|(nw (ar1 e.au v6) (ar0 (depth+1))).bind λcn=>cond (!decide (cn=0)) ( some cn) ( am (ar0 (v6+1)))) ( PH n nw)
def CV(n:Nat)(nw:Expr→Int→ar3)(depth:Int)(e:Expr):Nat→Int→ar3
 | 0=>λ_=>none
 |m+1=>PI n nw depth e (CV n nw depth e m)
def PJ(nw:Expr→Int→ar3)(e:Expr)(depth:Int):ar3:=(H' n e depth).bind λr1=>cond (!decide (r1=0)) ( some r1) ( CV n nw depth e n 0)
def y8:Nat→Expr→Int→ar3
 | 0=>λ_ _=>none
 |m+1=>PJ m (y8 m)
def CW(e:Expr):ar3:=(y8 n e 1).bind λr1=>some r1
def y9(n:Nat)(e:Expr):ar2:=some (cond (cond (cond (decide (e.Op=0)) (decide (e.N=0)) false) (decide (e.S=([]:arY))) false) (decide (((e.au.length:Nat):Int)=0)) false)
def H_(s:Stmt)(u:lr):ar2:=Option.bind (cond ((!(cond (!u.name) (!(decide (s.Name=([]:arY)))) false))&&(!u.a)) (y9 n (⟨s.A.Op,s.A.N,s.A.S,s.A.au⟩:Expr)) (some default)) λr1=>Option.bind (cond ((!(cond (cond (!u.name) (!(decide (s.Name=([]:arY)))) false) true (cond (!u.a) (!r1) false)))&&(!u.b)) (y9 n (⟨s.B.Op,s.B.N,s.B.S,s.B.au⟩:Expr)) (some default)) λr2=>cond (cond (cond (cond (cond (cond (cond (!u.name) (!(decide (s.Name=([]:arY)))) false) true (cond (!u.a) (!r1) false)) true (cond (!u.b) (!r2) false)) true (cond (!u.max) (!decide (s.Max=0)) false)) true (cond (!u.body) (decide (0<((s.Body.length:Nat):Int))) false)) true (cond (!u.other) (decide (0<((s.bK.length:Nat):Int))) false)) ( some false) ( cond (decide (s.Op=6)) ( some (cond (decide (1≤s.Max)) (decide (s.Max≤16)) false)) ( cond (decide (s.Op=8)) ( some (cond (decide (0≤s.Max)) (decide (s.Max≤999)) false)) ( some true)))
def PK(n:Nat):Option (lr×Bool):=some ((⟨false,false,false,false,false,false⟩:lr),false)
def Ia(op:Int)(v2:Bool):Option (lr×Bool):=cond v2 ( some ((⟨false,true,false,false,false,false⟩:lr),true)) ( cond (decide (op=5)) ( some ((⟨false,true,false,false,true,true⟩:lr),true)) ( cond (decide (op=6)) ( some ((⟨true,true,true,true,true,false⟩:lr),true)) ( cond (decide (op=8)) ( some ((⟨false,false,false,true,false,false⟩:lr),true)) ( PK n))))
def Ib(op:Int)(v1:Bool):Option (lr×Bool):=cond v1 ( some ((⟨true,true,false,false,false,false⟩:lr),true)) ( cond (decide (op=3)) ( some ((⟨false,true,true,false,false,false⟩:lr),true)) ( cond (decide (op=4)) ( Ia n op (decide (op=4))) ( Ia n op (decide (op=7)))))
def Ic(op:Int):Option (lr×Bool):=cond (decide (op=1)) ( Ib n op (decide (op=1))) ( Ib n op (decide (op=2)))
def Ie(n:Nat)(depth:Int):ar3:=cond (decide (12<depth)) ( some 2) ( some 0)
def If(depth:Int)(s:Stmt)(r1:lr×Bool):ar3:=cond r1.1.b ( (CW n (⟨s.B.Op,s.B.N,s.B.S,s.B.au⟩:Expr)).bind λbC=>cond (!decide (bC=0)) ( some bC) ( Ie n depth)) ( Ie n depth)
def Ig(s:Stmt)(depth:Int):ar3:=(Ic n s.Op).bind λr1=>Option.bind (cond (!(!r1.2)) (H_ n (⟨s.Op,s.Name,s.Max,⟨s.A.Op,s.A.N,s.A.S,s.A.au⟩,⟨s.B.Op,s.B.N,s.B.S,s.B.au⟩,s.Body,s.bK⟩:Stmt) r1.1) (some default)) λr2=>cond (cond (!r1.2) true (!r2)) ( some 1) ( Option.bind (cond r1.1.name (so n s.Name) (some default)) λbh=>cond (cond r1.1.name (!bh) false) ( some 7) ( cond r1.1.a ( (CW n (⟨s.A.Op,s.A.N,s.A.S,s.A.au⟩:Expr)).bind λbr=>cond (!decide (br=0)) ( some br) ( If n depth s r1)) ( If n depth s r1)))
def Ih(s:Stmt)(depth:Int)(af:Int):ar3:=cond (decide (af=0)) ( (Ig n (⟨s.Op,s.Name,s.Max,⟨s.A.Op,s.A.N,s.A.S,s.A.au⟩,⟨s.B.Op,s.B.N,s.B.S,s.B.au⟩,s.Body,s.bK⟩:Stmt) depth).bind λr2=>some r2) ( some af)
def PL(n:Nat)(a0:Expr):Option Unit:=some ()
def PM(n:Nat)(qc:Expr→Int→Int→ar3)(e:Expr)(gI:Int)(dM:Int→Int→ar3)(v6:Int)(bw:Int):ar3:=cond (decide (bw<((e.au.length:Nat):Int))) ( av (aM bw e.au.length)<|(qc (ar1 e.au bw) v6 gI).bind λb7=>dM b7 (ar0 (bw+1))) ( some v6)
def CX(n:Nat)(qc:Expr→Int→Int→ar3)(e:Expr)(gI:Int):Nat→Int→Int→ar3
 | 0=>λ_ _=>none
 |m+1=>PM n qc e gI (CX n qc e gI m)
def PN(qc:Expr→Int→Int→ar3)(e:Expr)(jL:Int)(gI:Int):ar3:=cond (decide (jL=0)) ( some jL) ( CX n qc e gI n (ar0 (jL-1)) 0)
def y':Nat→Expr→Int→Int→ar3
 | 0=>λ_ _ _=>none
 |m+1=>PN m (y' m)
def CY(e:Expr)(jL:Int)(gI:Int):ar3:=Option.bind (cond (!(decide (jL=0))) (y9 n e) (some default)) λr1=>cond (cond (decide (jL=0)) true r1) ( some jL) ( (PL n e).bind λr3=>(y' n e jL gI).bind λbh=>some bh)
def PO(pi:(List Stmt)→Int→Int→Int→Option (Int×Int))(depth:Int)(l:List Stmt)(dM:Int→Int→Int→Option (Int×Int))(v10:Int)(v11:Int)(v12:Int):Option (Int×Int):=cond (decide (v12<((l.length:Nat):Int))) ( av (aM v12 l.length)<|cond (decide (v10=0)) ( some (v10,v11)) ( (Ih n (⟨(ar1 l v12).Op,(ar1 l v12).Name,(ar1 l v12).Max,⟨((ar1 l v12).A).Op,((ar1 l v12).A).N,((ar1 l v12).A).S,((ar1 l v12).A).au⟩,⟨((ar1 l v12).B).Op,((ar1 l v12).B).N,((ar1 l v12).B).S,((ar1 l v12).B).au⟩,(ar1 l v12).Body,(ar1 l v12).bK⟩:Stmt) depth v11).bind λdK=>(CY n (⟨((ar1 l v12).A).Op,((ar1 l v12).A).N,((ar1 l v12).A).S,((ar1 l v12).A).au⟩:Expr) (ar0 (v10-1)) dK).bind λcY=>(CY n (⟨((ar1 l v12).B).Op,((ar1 l v12).B).N,((ar1 l v12).B).S,((ar1 l v12).B).au⟩:Expr) cY dK).bind λcj=>(pi ((ar1 l v12).Body) (ar0 (depth+1)) cj dK).bind λcV=>(pi ((ar1 l v12).bK) (ar0 (depth+1)) cV.1 cV.2).bind λen=>dM en.1 en.2 (ar0 (v12+1)))) ( some (v10,v11))
def CZ(n:Nat)(pi:(List Stmt)→Int→Int→Int→Option (Int×Int))(depth:Int)(l:List Stmt):Nat→Int→Int→Int→Option (Int×Int)
 | 0=>λ_ _ _=>none
 |m+1=>PO n pi depth l (CZ n pi depth l m)
def PP(pi:(List Stmt)→Int→Int→Int→Option (Int×Int))(l:List Stmt)(depth:Int)(jL:Int)(gI:Int):Option (Int×Int):=CZ n pi depth l n jL gI 0
def wA:Nat→(List Stmt)→Int→Int→Int→Option (Int×Int)
 | 0=>λ_ _ _ _=>none
 |m+1=>PP m (wA m)
def PQ(p:a_)(af:Int):Option (Int×Int):=(wA n p.Body 1 401 af).bind λr1=>some ((ar0 (401-r1.1)),r1.2)
def C0(p:a_):ar3:=(so n p.Name).bind λr1=>cond (!r1) ( some 7) ( (H8 n p.Params).bind λr3=>cond (!decide (r3=0)) ( some r3) ( (PQ n p r3).bind λbu=>cond (cond (decide (bu.2=0)) (decide (400<bu.1)) false) ( some 2) ( some bu.2)))
def Ii(n:Nat)(ty:Int):Option arY:=cond (decide (ty=1)) ( some ([105,110,116]:arY)) ( cond (decide (ty=2)) ( some ([115,116,114]:arY)) ( some ([98,111,111,108]:arY)))
def re(n:Nat)(op:Int):Option (Unit ⊕ Unit ⊕ Unit ⊕ Unit ⊕ Unit ⊕ Unit ⊕ Unit ⊕ Unit):=cond (decide (op=1)) ( some (.inl ())) ( cond (decide (op=2)) ( some (.inr (.inl ()))) ( cond (decide (op=3)) ( some (.inr (.inr (.inl ())))) ( cond (decide (op=4)) ( some (.inr (.inr (.inr (.inl ()))))) ( cond (decide (op=5)) ( some (.inr (.inr (.inr (.inr (.inl ())))))) ( cond (decide (op=6)) ( some (.inr (.inr (.inr (.inr (.inr (.inl ()))))))) ( cond (decide (op=7)) ( some (.inr (.inr (.inr (.inr (.inr (.inr (.inl ())))))))) ( some (.inr (.inr (.inr (.inr (.inr (.inr (.inr ()))))))))))))))
def wB(c6:Int):Option arY:=(HV n c6 10).bind λr1=>some r1
def y_(n:Nat)(cg:List Int)(cl:Int):Option Unit:=some ()
def Ij(c:Int)(cg:List Int)(cl:Int):Option (List Int):=(y_ n cg cl).bind λr1=>av (room (cg.length+([c]:List Int).length) 1)<|some (cg++([c]:List Int))
def C1(s:arY)(cg:List Int)(cl:Int):Option (Int×(List Int)):=(y_ n cg cl).bind λr1=>av (room (cg.length+s.length) 1)<|some (((s.length:Nat):Int),(cg++s.map λb=>(b.toNat:Int)))
def PR(cl:Int)(v20:List Int):Option (List Int):=(Ij n 10 v20 cl).bind λe0=>some e0
def PS(parts:List arY)(cl:Int)(fj:(List Int)→Int→Option (List Int))(bP:List Int)(bA:Int):Option (List Int):=cond (decide (bA<((parts.length:Nat):Int))) ( av (aM bA parts.length)<|(C1 n (ar1 parts bA) bP cl).bind λcV=>fj cV.2 (ar0 (bA+1))) ( PR n cl bP)
def C2(n:Nat)(parts:List arY)(cl:Int):Nat→(List Int)→Int→Option (List Int)
 | 0=>λ_ _=>none
 |m+1=>PS n parts cl (C2 n parts cl m)
def PT(parts:List arY)(cl:Int)(v9:List Int):Option (List Int):=C2 n parts cl n v9 0
def PU(parts:List arY)(cl:Int)(hy:(List Int)→Int→Option (List Int))(v4:List Int)(v5:Int):Option (List Int):=cond (decide (v5<cl)) ( (C1 n ([32,32,32,32]:arY) v4 cl).bind λbr=>hy br.2 (ar0 (v5+1))) ( PT n parts cl v4)
def C3(n:Nat)(parts:List arY)(cl:Int):Nat→(List Int)→Int→Option (List Int)
 | 0=>λ_ _=>none
 |m+1=>PU n parts cl (C3 n parts cl m)
def mC(parts:List arY)(cg:List Int)(cl:Int):Option (List Int):=C3 n parts cl n cg 0
def PV(s:Stmt)(cg:List Int)(cl:Int):Option (List Int):=(wB n s.Max).bind λr1=>(mC n ([([97,98,111,114,116,32]:arY),r1,([59]:arY)]:List arY) cg cl).bind λr2=>some r2
def PW(n:Nat):ar2:=some true
def PX(s:arY)(am:Int→ar2)(v4:Int):ar2:=cond (decide (v4<((s.length:Nat):Int))) ( av (aM v4 s.length)<|av ((decide ((((s.getD (v4).toNat 0).toNat:Nat):Int)<32))||aM v4 s.length)<|cond (cond (decide ((((s.getD (v4).toNat 0).toNat:Nat):Int)<32)) true (decide (126<(((s.getD (v4).toNat 0).toNat:Nat):Int)))) ( some false) ( am (ar0 (v4+1)))) ( PW n)
def C4(n:Nat)(s:arY):Nat→Int→ar2
 | 0=>λ_=>none
 |m+1=>PX n s (C4 n s m)
def PY(s:arY):ar2:=C4 n s n 0
def wC(n:Nat)(cg:List Int):Option (arY×(List Int)):=av (ns cg&&decide (cg.length≤9223372036854775807))<|some (kd cg,cg)
def C5(n:Nat)(cg:List Int):Option Unit:=some ()
def rf(c:Int)(cg:List Int):Option (List Int):=(C5 n cg).bind λr1=>av (room (cg.length+([c]:List Int).length) 1)<|some (cg++([c]:List Int))
def PZ(v25:List Int):Option (arY×Int):=(rf n 34 v25).bind λr26=>(wC n r26).bind λr27=>some (r27.1,0)
def P0(n:Nat)(am:(List Int)→Int→Option (arY×Int))(s:arY)(bA:Int)(e_:List Int):Option (arY×Int):=am e_ (ar0 (bA+1))
def Ik(am:(List Int)→Int→Option (arY×Int))(s:arY)(bA:Int)(b4:List Int):Option (arY×Int):=av (aM bA s.length)<|(rf n (((s.getD (bA).toNat 0).toNat:Nat):Int) b4).bind λe0=>P0 n am s bA e0
def P1(s:arY)(am:(List Int)→Int→Option (arY×Int))(bP:List Int)(bA:Int):Option (arY×Int):=cond (decide (bA<((s.length:Nat):Int))) ( av (aM bA s.length)<|av ((decide ((((s.getD (bA).toNat 0).toNat:Nat):Int)=34))||aM bA s.length)<|cond (cond (decide ((((s.getD (bA).toNat 0).toNat:Nat):Int)=34)) true (decide ((((s.getD (bA).toNat 0).toNat:Nat):Int)=92))) ( (rf n 92 bP).bind λen=>Ik n am s bA en) ( Ik n am s bA bP)) ( PZ n bP)
def C6(n:Nat)(s:arY):Nat→(List Int)→Int→Option (arY×Int)
 | 0=>λ_ _=>none
 |m+1=>P1 n s (C6 n s m)
def Il(s:arY):Option (arY×Int):=cond (decide (64<((s.length:Nat):Int))) ( some (([]:arY),2)) ( (PY n s).bind λr2=>cond (!r2) ( some (([]:arY),1)) ( (rf n 34 ([]:List Int)).bind λbh=>C6 n s n bh 0))
def P2(n:Nat):ar3:=some 9
def C7(op:Int)(v3:Bool):ar3:=cond v3 ( some 7) ( cond (decide (op=9)) ( some 8) ( P2 n))
def Im(op:Int)(v2:Bool):ar3:=cond v2 ( some 6) ( cond (decide (op=6)) ( C7 n op (decide (op=6))) ( cond (decide (op=7)) ( C7 n op (decide (op=7))) ( C7 n op (decide (op=8)))))
def ui(op:Int)(v1:Bool):ar3:=cond v1 ( some 4) ( cond (decide (op=19)) ( some 5) ( cond (decide (op=4)) ( Im n op (decide (op=4))) ( Im n op (decide (op=5)))))
def C8(op:Int):ar3:=cond (decide (op=17)) ( some 1) ( cond (decide (op=16)) ( some 2) ( cond (decide (op=18)) ( some 3) ( cond (decide (op=10)) ( ui n op (decide (op=10))) ( cond (decide (op=11)) ( ui n op (decide (op=11))) ( cond (decide (op=12)) ( ui n op (decide (op=12))) ( cond (decide (op=13)) ( ui n op (decide (op=13))) ( cond (decide (op=14)) ( ui n op (decide (op=14))) ( ui n op (decide (op=15))))))))))
def In(n:Nat)(op:Int):Option arY:=cond (decide (op=17)) ( some ([111,114]:arY)) ( cond (decide (op=16)) ( some ([97,110,100]:arY)) ( cond (decide (op=10)) ( some ([61,61]:arY)) ( cond (decide (op=11)) ( some ([33,61]:arY)) ( cond (decide (op=12)) ( some ([60]:arY)) ( cond (decide (op=13)) ( some ([60,61]:arY)) ( cond (decide (op=14)) ( some ([62]:arY)) ( cond (decide (op=15)) ( some ([62,61]:arY)) ( cond (decide (op=19)) ( some ([43,43]:arY)) ( cond (decide (op=4)) ( some ([43]:arY)) ( cond (decide (op=5)) ( some ([45]:arY)) ( cond (decide (op=6)) ( some ([42]:arY)) ( cond (decide (op=7)) ( some ([47]:arY)) ( some ([37]:arY))))))))))))))
def Io(n:Nat)(op:Int):Option arY:=cond (decide (op=20)) ( some ([116,101,120,116]:arY)) ( cond (decide (op=21)) ( some ([108,101,110]:arY)) ( cond (decide (op=22)) ( some ([103,101,116,105,110,116]:arY)) ( cond (decide (op=23)) ( some ([103,101,116,115,116,114]:arY)) ( cond (decide (op=24)) ( some ([104,97,115]:arY)) ( cond (decide (op=25)) ( some ([110,111,119]:arY)) ( cond (decide (op=26)) ( some ([114,97,110,100,111,109]:arY)) ( cond (decide (op=27)) ( some ([110,111,100,101]:arY)) ( some ([]:arY)))))))))
def Ip(rh:Expr→Option arY)(ot:Expr→Int→Option arY)(e:Expr):Option arY:=(C8 n e.Op).bind λr1=>cond (decide (e.Op=1)) ( (wB n e.N).bind λr3=>some r3) ( cond (decide (e.Op=2)) ( (Il n e.S).bind λbu=>some bu.1) ( cond (decide (e.Op=3)) ( some e.S) ( cond (decide (e.Op=18)) ( av (aM 0 e.au.length)<|(ot (e.au.getD 0 default) r1).bind λb7=>av (b' (([110,111,116,32]:arY).length+b7.length))<|some (([110,111,116,32]:arY)++b7)) ( cond (decide (e.Op=9)) ( av (aM 0 e.au.length)<|(ot (e.au.getD 0 default) r1).bind λcb=>av (b' (([45]:arY).length+cb.length))<|some (([45]:arY)++cb)) ( cond (cond (decide (r1=9)) (decide (((e.au.length:Nat):Int)=0)) false) ( (Io n e.Op).bind λcj=>av (b' (cj.length+([40,41]:arY).length))<|some (cj++([40,41]:arY))) ( cond (decide (r1=9)) ( (Io n e.Op).bind λe9=>av (b' (e9.length+([40]:arY).length))<|av (aM 0 e.au.length)<|(rh (e.au.getD 0 default)).bind λde=>av (b' ((e9++([40]:arY)).length+de.length))<|av (b' (((e9++([40]:arY))++de).length+([41]:arY).length))<|some (((e9++([40]:arY))++de)++([41]:arY))) ( cond (decide (r1=4)) ( av (aM 0 e.au.length)<|(ot (e.au.getD 0 default) 5).bind λr27=>av (b' (r27.length+([32]:arY).length))<|(In n e.Op).bind λfD=>av (b' ((r27++([32]:arY)).length+fD.length))<|av (b' (((r27++([32]:arY))++fD).length+([32]:arY).length))<|av (aM 1 e.au.length)<|(ot (e.au.getD 1 default) 5).bind λny=>av (b' ((((r27++([32]:arY))++fD)++([32]:arY)).length+ny.length))<|some ((((r27++([32]:arY))++fD)++([32]:arY))++ny)) ( av (aM 0 e.au.length)<|(ot (e.au.getD 0 default) r1).bind λou=>av (b' (ou.length+([32]:arY).length))<|(In n e.Op).bind λqd=>av (b' ((ou++([32]:arY)).length+qd.length))<|av (b' (((ou++([32]:arY))++qd).length+([32]:arY).length))<|av (aM 1 e.au.length)<|(ot (e.au.getD 1 default) (ar0 (r1+1))).bind λhS=>av (b' ((((ou++([32]:arY))++qd)++([32]:arY)).length+hS.length))<|some ((((ou++([32]:arY))++qd)++([32]:arY))++hS)))))))))
def Iq(rh:Expr→Option arY)(ot:Expr→Int→Option arY)(e:Expr)(least:Int):Option arY:=(C8 n e.Op).bind λr1=>cond (decide (r1<least)) ( (rh e).bind λr3=>av (b' (([40]:arY).length+r3.length))<|av (b' ((([40]:arY)++r3).length+([41]:arY).length))<|some ((([40]:arY)++r3)++([41]:arY))) ( (rh e).bind λbr=>some br)
def za:Nat→(Expr→Option arY)×(Expr→Int→Option arY)
 | 0=>(λ_=>none,λ_ _=>none)
 |m+1=>(Ip m ((za m).1) ((za m).2),Iq m ((za m).1) ((za m).2))
def md:Expr→Option arY:=(za n).1
def wD:Expr→Int→Option arY:=(za n).2
def P3(s:Stmt)(cg:List Int)(cl:Int):Option (List Int):=(md n (⟨s.A.Op,s.A.N,s.A.S,s.A.au⟩:Expr)).bind λr1=>(mC n ([s.Name,([32,61,32]:arY),r1,([59]:arY)]:List arY) cg cl).bind λr2=>some r2
def P4(s:Stmt)(cg:List Int)(cl:Int):Option (List Int):=(md n (⟨s.A.Op,s.A.N,s.A.S,s.A.au⟩:Expr)).bind λr1=>(mC n ([([108,101,116,32]:arY),s.Name,([32,61,32]:arY),r1,([59]:arY)]:List arY) cg cl).bind λr2=>some r2
def P5(s:Stmt)(cg:List Int)(cl:Int):Option (List Int):=(md n (⟨s.A.Op,s.A.N,s.A.S,s.A.au⟩:Expr)).bind λr1=>(mC n ([([101,109,105,116,32]:arY),r1,([59]:arY)]:List arY) cg cl).bind λr2=>some r2
def P6(s:Stmt)(cg:List Int)(cl:Int):Option (List Int):=(md n (⟨s.A.Op,s.A.N,s.A.S,s.A.au⟩:Expr)).bind λr1=>(md n (⟨s.B.Op,s.B.N,s.B.S,s.B.au⟩:Expr)).bind λr2=>(mC n ([([112,117,116,32]:arY),r1,([32,61,32]:arY),r2,([59]:arY)]:List arY) cg cl).bind λr3=>some r3
def P7(s:Stmt)(cg:List Int)(cl:Int):Option (List Int):=(md n (⟨s.A.Op,s.A.N,s.A.S,s.A.au⟩:Expr)).bind λr1=>(mC n ([([100,101,108,101,116,101,32]:arY),r1,([59]:arY)]:List arY) cg cl).bind λr2=>some r2
def P8(n:Nat)(ij:(List Stmt)→(List Int)→Int→Option ((List Int)×Int))(iM:Stmt→(List Int)→Int→Option ((List Int)×Int))(iN:Stmt→(List Int)→Int→Option ((List Int)×Int))(m5:List Int)(ss:Int):Option ((List Int)×Int):=some (m5,(ar0 (ss-1)))
def P9(ij:(List Stmt)→(List Int)→Int→Option ((List Int)×Int))(iM:Stmt→(List Int)→Int→Option ((List Int)×Int))(iN:Stmt→(List Int)→Int→Option ((List Int)×Int))(l:List Stmt)(am:(List Int)→Int→Int→Option ((List Int)×Int))(bA:List Int)(ct:Int)(aQ:Int):Option ((List Int)×Int):=cond (decide (aQ<((l.length:Nat):Int))) ( av (aM aQ l.length)<|(re n ((ar1 l aQ).Op)).bind λe9=>iw.on e9 (λahx=>(P4 n (⟨(ar1 l aQ).Op,(ar1 l aQ).Name,(ar1 l aQ).Max,⟨((ar1 l aQ).A).Op,((ar1 l aQ).A).N,((ar1 l aQ).A).S,((ar1 l aQ).A).au⟩,⟨((ar1 l aQ).B).Op,((ar1 l aQ).B).N,((ar1 l aQ).B).S,((ar1 l aQ).B).au⟩,(ar1 l aQ).Body,(ar1 l aQ).bK⟩:Stmt) bA ct).bind λe0=>am e0 ct (ar0 (aQ+1))) (λYD=>iw.on YD (λahy=>(P3 n (⟨(ar1 l aQ).Op,(ar1 l aQ).Name,(ar1 l aQ).Max,⟨((ar1 l aQ).A).Op,((ar1 l aQ).A).N,((ar1 l aQ).A).S,((ar1 l aQ).A).au⟩,⟨((ar1 l aQ).B).Op,((ar1 l aQ).B).N,((ar1 l aQ).B).S,((ar1 l aQ).B).au⟩,(ar1 l aQ).Body,(ar1 l aQ).bK⟩:Stmt) bA ct).bind λde=>am de ct (ar0 (aQ+1))) (λYE=>iw.on YE (λahz=>(P6 n (⟨(ar1 l aQ).Op,(ar1 l aQ).Name,(ar1 l aQ).Max,⟨((ar1 l aQ).A).Op,((ar1 l aQ).A).N,((ar1 l aQ).A).S,((ar1 l aQ).A).au⟩,⟨((ar1 l aQ).B).Op,((ar1 l aQ).B).N,((ar1 l aQ).B).S,((ar1 l aQ).B).au⟩,(ar1 l aQ).Body,(ar1 l aQ).bK⟩:Stmt) bA ct).bind λea=>am ea ct (ar0 (aQ+1))) (λYF=>iw.on YF (λahA=>(P7 n (⟨(ar1 l aQ).Op,(ar1 l aQ).Name,(ar1 l aQ).Max,⟨((ar1 l aQ).A).Op,((ar1 l aQ).A).N,((ar1 l aQ).A).S,((ar1 l aQ).A).au⟩,⟨((ar1 l aQ).B).Op,((ar1 l aQ).B).N,((ar1 l aQ).B).S,((ar1 l aQ).B).au⟩,(ar1 l aQ).Body,(ar1 l aQ).bK⟩:Stmt) bA ct).bind λr24=>am r24 ct (ar0 (aQ+1))) (λYG=>iw.on YG (λahB=>(iM (⟨(ar1 l aQ).Op,(ar1 l aQ).Name,(ar1 l aQ).Max,⟨((ar1 l aQ).A).Op,((ar1 l aQ).A).N,((ar1 l aQ).A).S,((ar1 l aQ).A).au⟩,⟨((ar1 l aQ).B).Op,((ar1 l aQ).B).N,((ar1 l aQ).B).S,((ar1 l aQ).B).au⟩,(ar1 l aQ).Body,(ar1 l aQ).bK⟩:Stmt) bA ct).bind λft=>am ft.1 ft.2 (ar0 (aQ+1))) (λYH=>iw.on YH (λahC=>(iN (⟨(ar1 l aQ).Op,(ar1 l aQ).Name,(ar1 l aQ).Max,⟨((ar1 l aQ).A).Op,((ar1 l aQ).A).N,((ar1 l aQ).A).S,((ar1 l aQ).A).au⟩,⟨((ar1 l aQ).B).Op,((ar1 l aQ).B).N,((ar1 l aQ).B).S,((ar1 l aQ).B).au⟩,(ar1 l aQ).Body,(ar1 l aQ).bK⟩:Stmt) bA ct).bind λr26=>am r26.1 r26.2 (ar0 (aQ+1))) (λYI=>iw.on YI (λahD=>(P5 n (⟨(ar1 l aQ).Op,(ar1 l aQ).Name,(ar1 l aQ).Max,⟨((ar1 l aQ).A).Op,((ar1 l aQ).A).N,((ar1 l aQ).A).S,((ar1 l aQ).A).au⟩,⟨((ar1 l aQ).B).Op,((ar1 l aQ).B).N,((ar1 l aQ).B).S,((ar1 l aQ).B).au⟩,(ar1 l aQ).Body,(ar1 l aQ).bK⟩:Stmt) bA ct).bind λr27=>am r27 ct (ar0 (aQ+1))) (λahE=>(PV n (⟨(ar1 l aQ).Op,(ar1 l aQ).Name,(ar1 l aQ).Max,⟨((ar1 l aQ).A).Op,((ar1 l aQ).A).N,((ar1 l aQ).A).S,((ar1 l aQ).A).au⟩,⟨((ar1 l aQ).B).Op,((ar1 l aQ).B).N,((ar1 l aQ).B).S,((ar1 l aQ).B).au⟩,(ar1 l aQ).Body,(ar1 l aQ).bK⟩:Stmt) bA ct).bind λnz=>am nz ct (ar0 (aQ+1)))))))))) ( P8 n ij iM iN bA ct)
def C9(n:Nat)(ij:(List Stmt)→(List Int)→Int→Option ((List Int)×Int))(iM:Stmt→(List Int)→Int→Option ((List Int)×Int))(iN:Stmt→(List Int)→Int→Option ((List Int)×Int))(l:List Stmt):Nat→(List Int)→Int→Int→Option ((List Int)×Int)
 | 0=>λ_ _ _=>none
 |m+1=>P9 n ij iM iN l (C9 n ij iM iN l m)
def Ir(ij:(List Stmt)→(List Int)→Int→Option ((List Int)×Int))(iM:Stmt→(List Int)→Int→Option ((List Int)×Int))(iN:Stmt→(List Int)→Int→Option ((List Int)×Int))(l:List Stmt)(cg:List Int)(cl:Int):Option ((List Int)×Int):=C9 n ij iM iN l n cg (ar0 (cl+1)) 0
def Is(ij:(List Stmt)→(List Int)→Int→Option ((List Int)×Int))(iM:Stmt→(List Int)→Int→Option ((List Int)×Int))(iN:Stmt→(List Int)→Int→Option ((List Int)×Int))(v6:List Int)(bw:Int):Option ((List Int)×Int):=(mC n ([([125]:arY)]:List arY) v6 bw).bind λcn=>some (cn,bw)
def It(ij:(List Stmt)→(List Int)→Int→Option ((List Int)×Int))(iM:Stmt→(List Int)→Int→Option ((List Int)×Int))(iN:Stmt→(List Int)→Int→Option ((List Int)×Int))(s:Stmt)(cg:List Int)(cl:Int):Option ((List Int)×Int):=(md n (⟨s.A.Op,s.A.N,s.A.S,s.A.au⟩:Expr)).bind λr1=>(mC n ([([105,102,32]:arY),r1,([32,123]:arY)]:List arY) cg cl).bind λr2=>(ij s.Body r2 cl).bind λr3=>cond (decide (0<((s.bK.length:Nat):Int))) ( (mC n ([([125,32,101,108,115,101,32,123]:arY)]:List arY) r3.1 r3.2).bind λbh=>(ij s.bK bh r3.2).bind λbu=>Is n ij iM iN bu.1 bu.2) ( Is n ij iM iN r3.1 r3.2)
def Iu(ij:(List Stmt)→(List Int)→Int→Option ((List Int)×Int))(iM:Stmt→(List Int)→Int→Option ((List Int)×Int))(iN:Stmt→(List Int)→Int→Option ((List Int)×Int))(s:Stmt)(cg:List Int)(cl:Int):Option ((List Int)×Int):=(md n (⟨s.A.Op,s.A.N,s.A.S,s.A.au⟩:Expr)).bind λr1=>(md n (⟨s.B.Op,s.B.N,s.B.S,s.B.au⟩:Expr)).bind λr2=>(wB n s.Max).bind λr3=>(mC n ([([102,111,114,32]:arY),s.Name,([32,61,32]:arY),r1,([32,116,111,32]:arY),r2,([32,109,97,120,32]:arY),r3,([32,123]:arY)]:List arY) cg cl).bind λbh=>(ij s.Body bh cl).bind λbu=>(mC n ([([125]:arY)]:List arY) bu.1 bu.2).bind λbr=>some (br,bu.2)
def pj:Nat→((List Stmt)→(List Int)→Int→Option ((List Int)×Int))×(Stmt→(List Int)→Int→Option ((List Int)×Int))×(Stmt→(List Int)→Int→Option ((List Int)×Int))
 | 0=>(λ_ _ _=>none,λ_ _ _=>none,λ_ _ _=>none)
 |m+1=>(Ir m ((pj m).1) ((pj m).2.1) ((pj m).2.2),It m ((pj m).1) ((pj m).2.1) ((pj m).2.2),Iu m ((pj m).1) ((pj m).2.1) ((pj m).2.2))
def ri:(List Stmt)→(List Int)→Int→Option ((List Int)×Int):=(pj n).1
def wE:Stmt→(List Int)→Int→Option ((List Int)×Int):=(pj n).2.1
def wF:Stmt→(List Int)→Int→Option ((List Int)×Int):=(pj n).2.2
def Iv(n:Nat)(cg:List Int)(cl:Int):Option (arY×(List Int)):=av (ns cg&&decide (cg.length≤9223372036854775807))<|some (kd cg,cg)
def P'(p:a_)(b4:List arY):Option arY:=(HW n b4 ([44,32]:arY)).bind λdZ=>(mC n ([([112,114,111,99,32]:arY),p.Name,([40]:arY),dZ,([41,32,123]:arY)]:List arY) ([]:List Int) 0).bind λe0=>(ri n p.Body e0 0).bind λde=>(mC n ([([125]:arY)]:List arY) de.1 de.2).bind λea=>(Iv n ea de.2).bind λr24=>some r24.1
def P_(p:a_)(am:Int→(List arY)→Option arY)(v10:Int)(v11:List arY):Option arY:=cond (decide (v10<((p.Params.length:Nat):Int))) ( av (aM v10 p.Params.length)<|av (b' (((ar1 p.Params v10).Name).length+([58,32]:arY).length))<|(Ii n ((ar1 p.Params v10).fS)).bind λdK=>av (b' ((((ar1 p.Params v10).Name)++([58,32]:arY)).length+dK.length))<|av (room (v11.length+([((((ar1 p.Params v10).Name)++([58,32]:arY))++dK)]:List arY).length) 16)<|am (ar0 (v10+1)) (v11++([((((ar1 p.Params v10).Name)++([58,32]:arY))++dK)]:List arY))) ( P' n p v11)
def C'(n:Nat)(p:a_):Nat→Int→(List arY)→Option arY
 | 0=>λ_ _=>none
 |m+1=>P_ n p (C' n p m)
def uj(p:a_):Option arY:=(C0 n p).bind λr1=>cond (!decide (r1=0)) ( some ([]:arY)) ( C' n p n 0 ([]:List arY))
def C_(n:Nat)(next:Int):ar3:=some (cond (decide ((ar0 (next-1))<8)) (ar0 (next-1)) 8)
def Qa(n:Nat):ar2:=some false
def Qb(n:Nat):ar2:=some true
def Iw(o:Outcome)(fj:Int→ar2)(v4:Int):ar2:=cond (decide (v4<((o.Out.length:Nat):Int))) ( av (aM v4 o.Out.length)<|(sq n (ar1 o.Out v4)).bind λbr=>cond (cond (!br) true (decide ((ar1 o.Out v4).Kind=0))) ( some false) ( fj (ar0 (v4+1)))) ( Qb n)
def wG(n:Nat)(o:Outcome):Nat→Int→ar2
 | 0=>λ_=>none
 |m+1=>Iw n o (wG n o m)
def Da(o:Outcome):ar2:=cond (decide (o.Status=1)) ( cond (cond (!decide (o.Code=0)) true (decide (16<((o.Out.length:Nat):Int)))) ( some false) ( wG n o n 0)) ( cond (decide (o.Status=2)) ( some (cond (cond (decide (0≤o.Code)) (decide (o.Code≤1009)) false) (decide (((o.Out.length:Nat):Int)=0)) false)) ( Qa n))
def Qc(n:Nat):ar2:=some true
def Ix(s:bH)(am:Int→ar2)(v6:Int):ar2:=cond (decide (v6<((s.cK.length:Nat):Int))) ( av (aM v6 s.cK.length)<|Option.bind (cond (!(!((decide ((ar1 s.cK v6).Client=s.Client))&&((decide ((ar1 s.cK v6).Seq=(ar0 ((ar0 (s.Next-((s.cK.length:Nat):Int)))+v6))))&&true)))) (Da n (⟨((ar1 s.cK v6).Outcome).Status,((ar1 s.cK v6).Outcome).Code,((ar1 s.cK v6).Outcome).Out⟩:Outcome)) (some default)) λcn=>cond (cond (!((decide ((ar1 s.cK v6).Client=s.Client))&&((decide ((ar1 s.cK v6).Seq=(ar0 ((ar0 (s.Next-((s.cK.length:Nat):Int)))+v6))))&&true))) true (!cn)) ( some false) ( am (ar0 (v6+1)))) ( Qc n)
def zb(n:Nat)(s:bH):Nat→Int→ar2
 | 0=>λ_=>none
 |m+1=>Ix n s (zb n s m)
def Iy(s:bH):ar2:=Option.bind (cond (!(cond (cond (cond (decide (s.Client<1)) true (decide (32<s.Client))) true (decide (s.Next<1))) true (decide (1099511627776<s.Next)))) (C_ n s.Next) (some default)) λr1=>cond (cond (cond (cond (cond (decide (s.Client<1)) true (decide (32<s.Client))) true (decide (s.Next<1))) true (decide (1099511627776<s.Next))) true (!decide (((s.cK.length:Nat):Int)=r1))) ( some false) ( zb n s n 0)
def Qd(n:Nat):ar2:=some true
def Iz(l:List bH)(am:Int→ar2)(v5:Int):ar2:=cond (decide (v5<((l.length:Nat):Int))) ( av (aM v5 l.length)<|(Iy n (ar1 l v5)).bind λbC=>av ((!bC)||(!(decide (0<v5))||aM (ar0 (v5-1)) l.length))<|cond (cond (!bC) true (cond (decide (0<v5)) (decide ((ar1 l v5).Client≤(ar1 l (ar0 (v5-1))).Client)) false)) ( some false) ( am (ar0 (v5+1)))) ( Qd n)
def zc(n:Nat)(l:List bH):Nat→Int→ar2
 | 0=>λ_=>none
 |m+1=>Iz n l (zc n l m)
def zd(l:List bH):ar2:=zc n l n 0
def lu(s:arY)(cg:List Int):Option (Int×(List Int)):=(C5 n cg).bind λr1=>av (room (cg.length+s.length) 1)<|some (((s.length:Nat):Int),(cg++s.map λb=>(b.toNat:Int)))
def YJ(IA:List Int):Option arY:=(wC n IA).bind λYK=>some YK.1
def YL(n:Nat)(am:(List Int)→Int→Option arY)(l:List bH)(fm:Int)(IB:List Int):Option arY:=am IB (ar0 (fm+1))
def YM(n:Nat)(hy:(List Int)→Int→Option arY)(am:(List Int)→Int→Option arY)(l:List bH)(fm:Int)(iO:Int)(v109:List Int):Option arY:=hy v109 (ar0 (iO+1))
def YN(hy:(List Int)→Int→Option arY)(am:(List Int)→Int→Option arY)(l:List bH)(fm:Int)(iO:Int)(Db:(List Int)→Int→Option arY)(Dc:List Int)(wH:Int):Option arY:=cond (decide (wH<(((((((ar1 l fm).cK).getD (iO).toNat default).Outcome).Out).length:Nat):Int))) ( av (aM wH (((((ar1 l fm).cK).getD (iO).toNat default).Outcome).Out).length)<|(H3 n ((((((ar1 l fm).cK).getD (iO).toNat default).Outcome).Out).getD (wH).toNat default)).bind λuk=>(lu n uk Dc).bind λYO=>Db YO.2 (ar0 (wH+1))) ( YM n hy am l fm iO Dc)
def Qe(n:Nat)(hy:(List Int)→Int→Option arY)(am:(List Int)→Int→Option arY)(l:List bH)(fm:Int)(iO:Int):Nat→(List Int)→Int→Option arY
 | 0=>λ_ _=>none
 |m+1=>YN n hy am l fm iO (Qe n hy am l fm iO m)
def YP(am:(List Int)→Int→Option arY)(l:List bH)(fm:Int)(hy:(List Int)→Int→Option arY)(Dd:List Int)(iO:Int):Option arY:=cond (decide (iO<((((ar1 l fm).cK).length:Nat):Int))) ( av (aM iO ((ar1 l fm).cK).length)<|(ke n (IntKind.u64.wrap (((((ar1 l fm).cK).getD (iO).toNat default).Outcome).Status))).bind λze=>(ke n (IntKind.u64.wrap (((((ar1 l fm).cK).getD (iO).toNat default).Outcome).Code))).bind λwI=>av (b' (ze.length+wI.length))<|(ke n (IntKind.u64.wrap (((((((ar1 l fm).cK).getD (iO).toNat default).Outcome).Out).length:Nat):Int))).bind λQf=>av (b' ((ze++wI).length+Qf.length))<|(lu n ((ze++wI)++Qf) Dd).bind λIC=>Qe n hy am l fm iO n IC.2 0) ( YL n am l fm Dd)
def Qg(n:Nat)(am:(List Int)→Int→Option arY)(l:List bH)(fm:Int):Nat→(List Int)→Int→Option arY
 | 0=>λ_ _=>none
 |m+1=>YP n am l fm (Qg n am l fm m)
def YQ(l:List bH)(am:(List Int)→Int→Option arY)(v59:List Int)(fm:Int):Option arY:=cond (decide (fm<((l.length:Nat):Int))) ( av (aM fm l.length)<|(ke n (IntKind.u64.wrap ((ar1 l fm).Client))).bind λQh=>(ke n (IntKind.u64.wrap ((ar1 l fm).Next))).bind λwJ=>av (b' (Qh.length+wJ.length))<|(lu n (Qh++wJ) v59).bind λul=>Qg n am l fm n ul.2 0) ( YJ n v59)
def Qi(n:Nat)(l:List bH):Nat→(List Int)→Int→Option arY
 | 0=>λ_ _=>none
 |m+1=>YQ n l (Qi n l m)
def YR(l:List bH):Option arY:=(zd n l).bind λr1=>cond (!r1) ( some ([]:arY)) ( (ke n (IntKind.u64.wrap ((l.length:Nat):Int))).bind λr3=>(lu n r3 ([]:List Int)).bind λbh=>Qi n l n bh.2 0)
def YS(b4:List Int):Option arY:=(wC n b4).bind λdZ=>some dZ.1
def YT(l:List bG)(am:(List Int)→Int→Option arY)(v10:List Int)(v11:Int):Option arY:=cond (decide (v11<((l.length:Nat):Int))) ( av (aM v11 l.length)<|(sr n ((ar1 l v11).Key)).bind λcb=>(lu n cb v10).bind λdK=>(H3 n (⟨((ar1 l v11).bY).Kind,((ar1 l v11).bY).N,((ar1 l v11).bY).S⟩:bk)).bind λcY=>(lu n cY dK.2).bind λcj=>am cj.2 (ar0 (v11+1))) ( YS n v10)
def Qj(n:Nat)(l:List bG):Nat→(List Int)→Int→Option arY
 | 0=>λ_ _=>none
 |m+1=>YT n l (Qj n l m)
def YU(l:List bG):Option arY:=(ke n (IntKind.u64.wrap ((l.length:Nat):Int))).bind λr1=>(lu n r1 ([]:List Int)).bind λr2=>Qj n l n r2.2 0
def YV(ar:dg)(ID:List Int):Option arY:=(Yr n ar.Queue).bind λDe=>(lu n De ID).bind λov=>(ke n ar.fl).bind λrj=>(lu n rj ov.2).bind λIE=>(wC n IE.2).bind λDf=>some Df.1
def YW(ar:dg)(fj:(List Int)→Int→Option arY)(Dg:List Int)(v37:Int):Option arY:=cond (decide (v37<((ar.bz.length:Nat):Int))) ( av (aM v37 ar.bz.length)<|(sr n ((ar1 ar.bz v37).Key)).bind λum=>(lu n um Dg).bind λsu=>(uh n ((ar1 ar.bz v37).Count)).bind λlT=>(lu n lT su.2).bind λhS=>fj hS.2 (ar0 (v37+1))) ( YV n ar Dg)
def Qk(n:Nat)(ar:dg):Nat→(List Int)→Int→Option arY
 | 0=>λ_ _=>none
 |m+1=>YW n ar (Qk n ar m)
def YX(ar:dg)(e_:List Int):Option arY:=(YR n ar.fr).bind λea=>(lu n ea e_).bind λr24=>(YC n ar.Place).bind λft=>(lu n ft r24.2).bind λr26=>(ke n (IntKind.u64.wrap ((ar.bz.length:Nat):Int))).bind λr27=>(lu n r27 r26.2).bind λnz=>Qk n ar n nz.2 0
def YY(ar:dg)(hy:(List Int)→Int→Option arY)(bP:List Int)(bA:Int):Option arY:=cond (decide (bA<((ar.fk.length:Nat):Int))) ( av (aM bA ar.fk.length)<|(uj n (ar1 ar.fk bA)).bind λcV=>(sr n cV).bind λen=>(lu n en bP).bind λe9=>hy e9.2 (ar0 (bA+1))) ( YX n ar bP)
def Ql(n:Nat)(ar:dg):Nat→(List Int)→Int→Option arY
 | 0=>λ_ _=>none
 |m+1=>YY n ar (Ql n ar m)
def IF(ar:dg):Option arY:=(Yz n ar.be ar.Pos).bind λr1=>(uh n ar.Pos).bind λr2=>(lu n r2 ([]:List Int)).bind λr3=>(YU n r1.1).bind λbh=>(lu n bh r3.2).bind λbu=>(ke n (IntKind.u64.wrap ((ar.fk.length:Nat):Int))).bind λbr=>(lu n br bu.2).bind λbC=>Ql n ar n bC.2 0
def Qm(n:Nat)(l:List bz):ar2:=some (decide (((l.length:Nat):Int)≤32))
def IG(l:List bz)(am:Int→ar2)(v5:Int):ar2:=cond (decide (v5<((l.length:Nat):Int))) ( av (aM v5 l.length)<|(wz n ((ar1 l v5).Key)).bind λbC=>av ((cond (cond (!bC) true (decide ((ar1 l v5).Count<1))) true (decide (1099511627776<(ar1 l v5).Count)))||(!(decide (0<v5))||aM (ar0 (v5-1)) l.length))<|cond (cond (cond (cond (!bC) true (decide ((ar1 l v5).Count<1))) true (decide (1099511627776<(ar1 l v5).Count))) true (cond (decide (0<v5)) (!(Op.bytesLess ((ar1 l (ar0 (v5-1))).Key) ((ar1 l v5).Key))) false)) ( some false) ( am (ar0 (v5+1)))) ( Qm n l)
def zf(n:Nat)(l:List bz):Nat→Int→ar2
 | 0=>λ_=>none
 |m+1=>IG n l (zf n l m)
def IH(l:List bz):ar2:=zf n l n 0
def Qn(n:Nat):ar2:=some true
def II(l:List a_)(am:Int→ar2)(v6:Int):ar2:=cond (decide (v6<((l.length:Nat):Int))) ( av (aM v6 l.length)<|(uj n (ar1 l v6)).bind λcn=>av ((cond (decide (cn=([]:arY))) true (decide (16384<((cn.length:Nat):Int))))||(!(decide (0<v6))||aM (ar0 (v6-1)) l.length))<|cond (cond (cond (decide (cn=([]:arY))) true (decide (16384<((cn.length:Nat):Int)))) true (cond (decide (0<v6)) ((Op.bytesLess ((ar1 l v6).Name) ((ar1 l (ar0 (v6-1))).Name))||(decide (((ar1 l v6).Name)=((ar1 l (ar0 (v6-1))).Name)))) false)) ( some false) ( am (ar0 (v6+1)))) ( Qn n)
def zg(n:Nat)(l:List a_):Nat→Int→ar2
 | 0=>λ_=>none
 |m+1=>II n l (zg n l m)
def IJ(l:List a_):ar2:=cond (decide (16<((l.length:Nat):Int))) ( some false) ( zg n l n 0)
def Qo(n:Nat)(s:arY):ar2:=some (decide (((s.length:Nat):Int)≤24))
def IK(s:arY)(am:Int→ar2)(v4:Int):ar2:=cond (decide (v4<((s.length:Nat):Int))) ( av (aM v4 s.length)<|av ((decide ((((s.getD (v4).toNat 0).toNat:Nat):Int)<33))||aM v4 s.length)<|cond (cond (decide ((((s.getD (v4).toNat 0).toNat:Nat):Int)<33)) true (decide (126<(((s.getD (v4).toNat 0).toNat:Nat):Int)))) ( some false) ( am (ar0 (v4+1)))) ( Qo n s)
def zh(n:Nat)(s:arY):Nat→Int→ar2
 | 0=>λ_=>none
 |m+1=>IK n s (zh n s m)
def Dh(s:arY):ar2:=zh n s n 0
def Qp(n:Nat)(x:Part)(af:Int):ar2:=some (decide (x.Id=af))
def Qq(n:Nat)(af:Int):ar3:=some (-1)
def IL(s:List Part)(af:Int)(am:Int→ar3)(v4:Int):ar3:=cond (decide (v4<((s.length:Nat):Int))) ( av (aM v4 s.length)<|(Qp n (ar1 s v4) af).bind λbr=>cond br ( some v4) ( am (ar0 (v4+1)))) ( Qq n af)
def zi(n:Nat)(s:List Part)(af:Int):Nat→Int→ar3
 | 0=>λ_=>none
 |m+1=>IL n s af (zi n s af m)
def Qr(s:List Part)(af:Int):ar3:=zi n s af n 0
def Qs(l:List Part)(id:Int):ar3:=(Qr n l id).bind λr1=>some r1
def Di(n:Nat)(c6:Int):ar2:=some (cond (decide (1≤c6)) (decide (c6≤16)) false)
def Qt(n:Nat)(c6:Int):ar2:=some (cond (decide (1≤c6)) (decide (c6≤1099511627776)) false)
def IM(l:List Part)(i:Int):ar2:=av (aM i l.length)<|cond (decide ((ar1 l i).fN=0)) ( some (decide (((ar1 l i).ii)=([]:arY)))) ( (Di n ((ar1 l i).fN)).bind λr3=>Option.bind (cond (cond r3 (!decide ((ar1 l i).fN=(ar1 l i).Node)) false) (Dh n ((ar1 l i).ii)) (some default)) λbh=>av (!(cond (cond (cond r3 (!decide ((ar1 l i).fN=(ar1 l i).Node)) false) bh false) (!(Op.bytesLess ((ar1 l i).ii) ((ar1 l i).eJ))) false)||((decide ((ar0 (i+1))=((l.length:Nat):Int)))||aM (ar0 (i+1)) l.length))<|some (cond (cond (cond (cond r3 (!decide ((ar1 l i).fN=(ar1 l i).Node)) false) bh false) (!(Op.bytesLess ((ar1 l i).ii) ((ar1 l i).eJ))) false) (cond (decide ((ar0 (i+1))=((l.length:Nat):Int))) true (Op.bytesLess ((ar1 l i).ii) ((ar1 l (ar0 (i+1))).eJ))) false))
def Qu(n:Nat):ar2:=some true
def IN(p:cp)(am:Int→ar2)(v12:Int):ar2:=cond (decide (v12<((p.aV.length:Nat):Int))) ( av (aM v12 p.aV.length)<|Option.bind (cond (decide (0<v12)) (Dh n ((ar1 p.aV v12).eJ)) (some default)) λdK=>av (!(decide (0<v12))||((!dK)||aM (ar0 (v12-1)) p.aV.length))<|cond (cond (decide (0<v12)) (cond (!dK) true ((Op.bytesLess ((ar1 p.aV v12).eJ) ((ar1 p.aV (ar0 (v12-1))).eJ))||(decide (((ar1 p.aV v12).eJ)=((ar1 p.aV (ar0 (v12-1))).eJ))))) false) ( some false) ( (Qt n ((ar1 p.aV v12).Id)).bind λcj=>Option.bind (cond (!(!cj)) (Di n ((ar1 p.aV v12).Node)) (some default)) λcV=>Option.bind (cond (!(cond (!cj) true (!cV))) (IM n p.aV v12) (some default)) λen=>av ((cond (cond (!cj) true (!cV)) true (!en))||hv v12 p.aV.length)<|Option.bind (cond (!(cond (cond (!cj) true (!cV)) true (!en))) (Qs n (p.aV.take (v12).toNat) ((ar1 p.aV v12).Id)) (some default)) λdZ=>cond (cond (cond (cond (!cj) true (!cV)) true (!en)) true (decide (0≤dZ))) ( some false) ( am (ar0 (v12+1))))) ( Qu n)
def wK(n:Nat)(p:cp):Nat→Int→ar2
 | 0=>λ_=>none
 |m+1=>IN n p (wK n p m)
def Dj(p:cp):ar2:=av ((cond (cond (cond (decide (p.Version<0)) true (decide (1099511627776<p.Version))) true (decide (((p.aV.length:Nat):Int)<1))) true (decide (16<((p.aV.length:Nat):Int))))||aM 0 p.aV.length)<|cond (cond (cond (cond (cond (decide (p.Version<0)) true (decide (1099511627776<p.Version))) true (decide (((p.aV.length:Nat):Int)<1))) true (decide (16<((p.aV.length:Nat):Int)))) true (!(decide (((p.aV.getD 0 default).eJ)=([]:arY))))) ( some false) ( wK n p n 0)
def Qv(ar:dg):ar2:=(zd n ar.fr).bind λbc=>Option.bind (cond bc (Dj n ar.Place) (some default)) λaS=>Option.bind (cond (cond bc aS false) (IH n ar.bz) (some default)) λcb=>some (cond (cond bc aS false) cb false)
def IP(ar:dg)(am:Int→ar2)(bw:Int):ar2:=cond (decide (bw<((ar.Queue.length:Nat):Int))) ( av (aM bw ar.Queue.length)<|(ug n (⟨(ar1 ar.Queue bw).Client,(ar1 ar.Queue bw).Seq,(ar1 ar.Queue bw).a_,(ar1 ar.Queue bw).au,(ar1 ar.Queue bw).ff,⟨((ar1 ar.Queue bw).bD).eg,((ar1 ar.Queue bw).bD).Reads,((ar1 ar.Queue bw).bD).dw⟩⟩:Request)).bind λb7=>cond (!decide (b7=0)) ( some false) ( am (ar0 (bw+1)))) ( Qv n ar)
def wL(n:Nat)(ar:dg):Nat→Int→ar2
 | 0=>λ_=>none
 |m+1=>IP n ar (wL n ar m)
def wM(ar:dg):ar2:=Option.bind (cond (!(cond (decide (ar.Pos<0)) true (decide (1099511627776<ar.Pos)))) (CU n ar.be) (some default)) λr1=>Option.bind (cond (!(cond (cond (cond (decide (ar.Pos<0)) true (decide (1099511627776<ar.Pos))) true (!r1)) true (!decide (ar.be.c_=ar.Pos)))) (IJ n ar.fk) (some default)) λr2=>cond (cond (cond (cond (cond (cond (decide (ar.Pos<0)) true (decide (1099511627776<ar.Pos))) true (!r1)) true (!decide (ar.be.c_=ar.Pos))) true (!r2)) true (decide (64<((ar.Queue.length:Nat):Int)))) ( some false) ( wL n ar n 0)
def YZ(ar:dg):Option (arY×Int):=(wM n ar).bind λr1=>cond (!r1) ( some (([]:arY),1)) ( (IF n ar).bind λr3=>cond (decide (16384<((r3.length:Nat):Int))) ( some (([]:arY),2)) ( some (r3,0)))
def zj(n:Nat)(cq:Int):ar3:=some cq
def Qw(n:Nat)(p:bG):ar2:=some (decide (p.bY.Kind=0))
def Qx(n:Nat):ar3:=some (-1)
def IQ(s:List bG)(am:Int→ar3)(v4:Int):ar3:=cond (decide (v4<((s.length:Nat):Int))) ( av (aM v4 s.length)<|(Qw n (ar1 s v4)).bind λbr=>cond br ( some v4) ( am (ar0 (v4+1)))) ( Qx n)
def zk(n:Nat)(s:List bG):Nat→Int→ar3
 | 0=>λ_=>none
 |m+1=>IQ n s (zk n s m)
def Qy(s:List bG):ar3:=zk n s n 0
def Qz(s:List bG):ar2:=(Qy n s).bind λr1=>some (decide (0≤r1))
def QA(n:Nat):ar2:=some true
def IR(l:List bG)(am:Int→ar2)(v6:Int):ar2:=cond (decide (v6<((l.length:Nat):Int))) ( av (aM v6 l.length)<|(wz n ((ar1 l v6).Key)).bind λcn=>Option.bind (cond (!(!cn)) (sq n (⟨((ar1 l v6).bY).Kind,((ar1 l v6).bY).N,((ar1 l v6).bY).S⟩:bk)) (some default)) λb7=>av ((cond (!cn) true (!b7))||(!(decide (0<v6))||aM (ar0 (v6-1)) l.length))<|cond (cond (cond (!cn) true (!b7)) true (cond (decide (0<v6)) (!(Op.bytesLess ((ar1 l (ar0 (v6-1))).Key) ((ar1 l v6).Key))) false)) ( some false) ( am (ar0 (v6+1)))) ( QA n)
def zl(n:Nat)(l:List bG):Nat→Int→ar2
 | 0=>λ_=>none
 |m+1=>IR n l (zl n l m)
def IS(l:List bG):ar2:=zl n l n 0
def Dk(l:List bG):ar2:=(IS n l).bind λr1=>Option.bind (cond r1 (Qz n l) (some default)) λr2=>some (cond r1 (!r2) false)
def QB(n:Nat)(c6:Int):Option bk:=some (⟨1,c6,[]⟩:bk)
def wN(n:Nat)(s:arY)(at_:Int):ar2:=some (cond (decide (at_<0)) true (decide (((s.length:Nat):Int)<at_)))
def Y0(n:Nat):Option (Int×Int×Int):=some (0,0,5)
def QC(s:arY)(at_:Int)(am:Int→Int→Option (Int×Int×Int))(bw:Int)(ba:Int):Option (Int×Int×Int):=cond (decide (bw<10)) ( cond (decide (((s.length:Nat):Int)≤(ar0 (at_+bw)))) ( some (0,0,6)) ( av (aM (ar0 (at_+bw)) s.length)<|cond (cond (cond (decide (bw=9)) (decide (1<(((s.getD ((ar0 (at_+bw))).toNat 0).toNat:Nat):Int))) false) true (cond (decide ((((s.getD ((ar0 (at_+bw))).toNat 0).toNat:Nat):Int)=0)) (decide (0<bw)) false)) ( some (0,0,5)) ( av (n6 (ar0 (7*bw)))<|cond (decide ((((s.getD ((ar0 (at_+bw))).toNat 0).toNat:Nat):Int)<128)) ( some ((rT .u64 ba (rU .u64 (IntKind.u64.wrap (pO .u8 (((s.getD ((ar0 (at_+bw))).toNat 0).toNat:Nat):Int) 127)) (ar0 (7*bw)))),(ar0 ((ar0 (at_+bw))+1)),0)) ( am (ar0 (bw+1)) (rT .u64 ba (rU .u64 (IntKind.u64.wrap (pO .u8 (((s.getD ((ar0 (at_+bw))).toNat 0).toNat:Nat):Int) 127)) (ar0 (7*bw)))))))) ( Y0 n)
def Dl(n:Nat)(s:arY)(at_:Int):Nat→Int→Int→Option (Int×Int×Int)
 | 0=>λ_ _=>none
 |m+1=>QC n s at_ (Dl n s at_ m)
def sv(s:arY)(at_:Int):Option (Int×Int×Int):=(wN n s at_).bind λr1=>cond r1 ( some (0,0,1)) ( Dl n s at_ n 0 0)
def zm(s:arY)(at_:Int):Option (Int×Int×Int):=(sv n s at_).bind λr1=>cond (!decide (r1.2.2=0)) ( some (0,0,r1.2.2)) ( some ((oY .i64 (ar0 (rV .u64 r1.1 1)) (ar0 (0-(ar0 (pO .u64 r1.1 1))))),r1.2.1,0))
def qe(s:arY)(at_:Int)(cq:Int):Option (Int×Int×Int):=(sv n s at_).bind λr1=>cond (!decide (r1.2.2=0)) ( some (0,0,r1.2.2)) ( cond (cond (decide (cq<0)) true (decide ((IntKind.u64.wrap cq)<r1.1))) ( some (0,0,2)) ( cond (decide ((IntKind.u64.wrap (ar0 (((s.length:Nat):Int)-r1.2.1)))<r1.1)) ( some (0,0,6)) ( some ((ar0 r1.1),r1.2.1,0))))
def un(s:arY)(at_:Int)(cq:Int):Option (arY×Int×Int):=(qe n s at_ cq).bind λr1=>cond (!decide (r1.2.2=0)) ( some (([]:arY),0,r1.2.2)) ( av (lG r1.2.1 (ar0 (r1.2.1+r1.1)) s.length)<|some (((s.take ((ar0 (r1.2.1+r1.1))).toNat).drop (r1.2.1).toNat),(ar0 (r1.2.1+r1.1)),0))
def Dm(n:Nat)(b7:arY×Int×Int)(v11:Int):Option (bk×Int×Int):=cond (!decide (v11=0)) ( some ((⟨0,0,[]⟩:bk),0,v11)) ( some ((⟨2,0,b7.1⟩:bk),b7.2.1,0))
def zn(s:arY)(at_:Int):Option (bk×Int×Int):=(sv n s at_).bind λr1=>cond (!decide (r1.2.2=0)) ( some ((⟨0,0,[]⟩:bk),0,r1.2.2)) ( cond (decide (r1.1=0)) ( some ((⟨0,0,[]⟩:bk),r1.2.1,0)) ( cond (decide (r1.1=1)) ( (zm n s r1.2.1).bind λbu=>cond (!decide (bu.2.2=0)) ( some ((⟨0,0,[]⟩:bk),0,bu.2.2)) ( (QB n bu.1).bind λbC=>some (bC,bu.2.1,0))) ( cond (decide (r1.1=2)) ( (un n s r1.2.1 64).bind λb7=>Option.bind (cond (decide (b7.2.2=0)) (CT n b7.1) (some default)) λcP=>cond (cond (decide (b7.2.2=0)) (!cP) false) ( Dm n b7 5) ( Dm n b7 b7.2.2)) ( some ((⟨0,0,[]⟩:bk),0,5)))))
def IT(bQ:Int)(b4:List bG):Option ((List bG)×Int×Int):=(Dk n b4).bind λdZ=>cond (!dZ) ( some (([]:List bG),0,5)) ( some (b4,bQ,0))
def IU(s:arY)(r1:Int×Int×Int)(am:Int→Int→(List bG)→Option ((List bG)×Int×Int))(v9:Int)(v10:Int)(v11:List bG):Option ((List bG)×Int×Int):=cond (decide (v10<r1.1)) ( (un n s v9 24).bind λaS=>cond (!decide (aS.2.2=0)) ( some (([]:List bG),0,aS.2.2)) ( (zn n s aS.2.1).bind λcb=>cond (!decide (cb.2.2=0)) ( some (([]:List bG),0,cb.2.2)) ( av (room (v11.length+([(⟨aS.1,cb.1⟩:bG)]:List bG).length) 48)<|am cb.2.1 (ar0 (v10+1)) (v11++([(⟨aS.1,cb.1⟩:bG)]:List bG))))) ( IT n v9 v11)
def wO(n:Nat)(s:arY)(r1:Int×Int×Int):Nat→Int→Int→(List bG)→Option ((List bG)×Int×Int)
 | 0=>λ_ _ _=>none
 |m+1=>IU n s r1 (wO n s r1 m)
def IV(s:arY)(at_:Int):Option ((List bG)×Int×Int):=(qe n s at_ 2147483647).bind λr1=>cond (!decide (r1.2.2=0)) ( some (([]:List bG),0,r1.2.2)) ( wO n s r1 n r1.2.1 0 ([]:List bG))
def zo(af:fs):Option ((List bG)×Int×Int):=cond (!decide (af.e=0)) ( some (([]:List bG),af.at_,af.e)) ( (IV n af.s af.at_).bind λr2=>cond (!decide (r2.2.2=0)) ( some (([]:List bG),af.at_,r2.2.2)) ( some (r2.1,r2.2.1,r2.2.2)))
def sw(af:pf):Option (Int×Int×Int):=cond (!decide (af.e=0)) ( some (0,af.at_,af.e)) ( (zm n af.s af.at_).bind λr2=>some (r2.1,r2.2.1,r2.2.2))
def wP(af:pf):Option (arY×Int×Int):=cond (!decide (af.e=0)) ( some (([]:arY),af.at_,af.e)) ( (un n af.s af.at_ 24).bind λr2=>some (r2.1,r2.2.1,r2.2.2))
def IW(n:Nat)(s:arY)(v28:Int)(r1:Int×Int×Int)(v30:List Part)(m5:Int):Option (cp×Int×Int):=cond (!decide (m5=0)) ( some ((⟨0,[]⟩:cp),0,m5)) ( some ((⟨r1.1,v30⟩:cp),v28,0))
def Dn(s:arY)(r1:Int×Int×Int)(v28:Int)(hR:Int)(v30:List Part):Option (cp×Int×Int):=Option.bind (cond (decide (hR=0)) (Dj n (⟨r1.1,v30⟩:cp)) (some default)) λfO=>cond (cond (decide (hR=0)) (!fO) false) ( IW n s v28 r1 v30 5) ( IW n s v28 r1 v30 hR)
def zp(r3:Int×Int×Int)(s:arY)(r1:Int×Int×Int)(fj:Int→Int→(List Part)→Int→Option (cp×Int×Int))(bP:Int)(bA:Int)(ct:List Part)(aQ:Int):Option (cp×Int×Int):=cond (decide (aQ<r3.1)) ( (sw n (⟨s,bP,bA⟩:pf)).bind λen=>(wP n (⟨s,en.2.1,en.2.2⟩:pf)).bind λe9=>(sw n (⟨s,e9.2.1,e9.2.2⟩:pf)).bind λdZ=>(sw n (⟨s,dZ.2.1,dZ.2.2⟩:pf)).bind λe0=>(wP n (⟨s,e0.2.1,e0.2.2⟩:pf)).bind λde=>av (room (ct.length+([(⟨en.1,e9.1,dZ.1,e0.1,de.1⟩:Part)]:List Part).length) 56)<|fj de.2.1 de.2.2 (ct++([(⟨en.1,e9.1,dZ.1,e0.1,de.1⟩:Part)]:List Part)) (ar0 (aQ+1))) ( Dn n s r1 bP bA ct)
def sx(n:Nat)(r3:Int×Int×Int)(s:arY)(r1:Int×Int×Int):Nat→Int→Int→(List Part)→Int→Option (cp×Int×Int)
 | 0=>λ_ _ _ _=>none
 |m+1=>zp n r3 s r1 (sx n r3 s r1 m)
def IX(s:arY)(at_:Int):Option (cp×Int×Int):=(sw n (⟨s,at_,0⟩:pf)).bind λr1=>cond (!decide (r1.2.2=0)) ( some ((⟨0,[]⟩:cp),0,r1.2.2)) ( (qe n s r1.2.1 16).bind λr3=>sx n r3 s r1 n r3.2.1 r3.2.2 ([]:List Part) 0)
def zq(af:fs):Option (cp×Int×Int):=cond (!decide (af.e=0)) ( some ((⟨0,[]⟩:cp),af.at_,af.e)) ( (IX n af.s af.at_).bind λr2=>cond (!decide (r2.2.2=0)) ( some ((⟨0,[]⟩:cp),af.at_,r2.2.2)) ( some (r2.1,r2.2.1,r2.2.2)))
def qf(n:Nat)(next:Int)(e:Int)(af:h4):Option (Int×Int):=some (next,e)
def wQ(cq:Int)(af:h4):Option (Int×Int×Int):=cond (!decide (af.e=0)) ( some (0,af.at_,af.e)) ( (qe n af.s af.at_ cq).bind λr2=>(qf n r2.2.1 r2.2.2 af).bind λr3=>some (r2.1,r3.1,r3.2))
def IY(s:arY)(at_:Int):Option (Bool×Int×Int):=(wN n s at_).bind λr1=>cond r1 ( some (false,0,1)) ( cond (decide (at_=((s.length:Nat):Int))) ( some (false,0,6)) ( av (aM at_ s.length)<|cond (decide (1<(((s.getD (at_).toNat 0).toNat:Nat):Int))) ( some (false,0,5)) ( av (aM at_ s.length)<|some ((decide ((((s.getD (at_).toNat 0).toNat:Nat):Int)=1)),(ar0 (at_+1)),0))))
def zr(af:h4):Option (Bool×Int×Int):=cond (!decide (af.e=0)) ( some (false,af.at_,af.e)) ( (IY n af.s af.at_).bind λr2=>(qf n r2.2.1 r2.2.2 af).bind λr3=>some (r2.1,r3.1,r3.2))
def wR(cq:Int)(af:h4):Option (arY×Int×Int):=cond (!decide (af.e=0)) ( some (([]:arY),af.at_,af.e)) ( (un n af.s af.at_ cq).bind λr2=>(qf n r2.2.1 r2.2.2 af).bind λr3=>some (r2.1,r3.1,r3.2))
def IZ(n:Nat)(af:h4)(bQ:Int)(b4:Int)(v20:List arY):Option ((List arY)×Int×Int):=some (v20,bQ,b4)
def zt(r1:Int×Int×Int)(af:h4)(am:Int→Int→(List arY)→Int→Option ((List arY)×Int×Int))(ba:Int)(v9:Int)(v10:List arY)(v11:Int):Option ((List arY)×Int×Int):=cond (decide (v11<r1.1)) ( (wR n 24 (⟨af.s,ba,v9⟩:h4)).bind λaS=>av (room (v10.length+([aS.1]:List arY).length) 16)<|am aS.2.1 aS.2.2 (v10++([aS.1]:List arY)) (ar0 (v11+1))) ( IZ n af ba v9 v10)
def sy(n:Nat)(r1:Int×Int×Int)(af:h4):Nat→Int→Int→(List arY)→Int→Option ((List arY)×Int×Int)
 | 0=>λ_ _ _ _=>none
 |m+1=>zt n r1 af (sy n r1 af m)
def uo(af:h4):Option ((List arY)×Int×Int):=(wQ n 64 af).bind λr1=>sy n r1 af n r1.2.1 r1.2.2 ([]:List arY) 0
def wS(af:h4):Option (Int×Int×Int):=cond (!decide (af.e=0)) ( some (0,af.at_,af.e)) ( (sv n af.s af.at_).bind λr2=>(qf n r2.2.1 r2.2.2 af).bind λr3=>some (r2.1,r3.1,r3.2))
def zu(af:h4):Option (bk×Int×Int):=cond (!decide (af.e=0)) ( some ((⟨0,0,[]⟩:bk),af.at_,af.e)) ( (zn n af.s af.at_).bind λr2=>(qf n r2.2.1 r2.2.2 af).bind λr3=>some (r2.1,r3.1,r3.2))
def sz(r1:Int×Int×Int)(r2:Int×Int×Int)(s:arY)(r3:arY×Int×Int)(gP:List bk)(r24:Bool×Int×Int)(nA:Int)(v28:Int)(hR:List arY)(v30:List arY):Option (Request×Int×Int):=cond (!decide (v28=0)) ( some ((⟨0,0,[],[],false,⟨false,[],[]⟩⟩:Request),0,v28)) ( cond (cond (decide (32<r1.1)) true (decide (1099511627776<r2.1))) ( some ((⟨0,0,[],[],false,⟨false,[],[]⟩⟩:Request),0,5)) ( (ug n (⟨(ar0 r1.1),(ar0 r2.1),r3.1,gP,r24.1,⟨false,hR,v30⟩⟩:Request)).bind λny=>cond (!decide (ny=0)) ( some ((⟨0,0,[],[],false,⟨false,[],[]⟩⟩:Request),0,5)) ( some ((⟨(ar0 r1.1),(ar0 r2.1),r3.1,gP,r24.1,⟨false,hR,v30⟩⟩:Request),nA,0))))
def zv(r1:Int×Int×Int)(r2:Int×Int×Int)(s:arY)(r3:arY×Int×Int)(v21:Int)(e_:Int)(gP:List bk):Option (Request×Int×Int):=(zr n (⟨s,v21,e_⟩:h4)).bind λr24=>cond r24.1 ( (uo n (⟨s,r24.2.1,r24.2.2⟩:h4)).bind λft=>(uo n (⟨s,ft.2.1,ft.2.2⟩:h4)).bind λr26=>sz n r1 r2 s r3 gP r24 r26.2.1 r26.2.2 ft.1 r26.1) ( sz n r1 r2 s r3 gP r24 r24.2.1 r24.2.2 ([]:List arY) ([]:List arY))
def zw(r1:Int×Int×Int)(r2:Int×Int×Int)(bh:Int×Int×Int)(s:arY)(r3:arY×Int×Int)(fj:Int→Int→(List bk)→Int→Option (Request×Int×Int))(v11:Int)(v12:Int)(dG:List bk)(bP:Int):Option (Request×Int×Int):=cond (decide (bP<bh.1)) ( (zu n (⟨s,v11,v12⟩:h4)).bind λcY=>av (room (dG.length+([cY.1]:List bk).length) 32)<|fj cY.2.1 cY.2.2 (dG++([cY.1]:List bk)) (ar0 (bP+1))) ( zv n r1 r2 s r3 v11 v12 dG)
def sA(n:Nat)(r1:Int×Int×Int)(r2:Int×Int×Int)(bh:Int×Int×Int)(s:arY)(r3:arY×Int×Int):Nat→Int→Int→(List bk)→Int→Option (Request×Int×Int)
 | 0=>λ_ _ _ _=>none
 |m+1=>zw n r1 r2 bh s r3 (sA n r1 r2 bh s r3 m)
def I0(s:arY)(at_:Int):Option (Request×Int×Int):=(wS n (⟨s,at_,0⟩:h4)).bind λr1=>(wS n (⟨s,r1.2.1,r1.2.2⟩:h4)).bind λr2=>(wR n 16 (⟨s,r2.2.1,r2.2.2⟩:h4)).bind λr3=>(wQ n 6 (⟨s,r3.2.1,r3.2.2⟩:h4)).bind λbh=>sA n r1 r2 bh s r3 n bh.2.1 bh.2.2 ([]:List bk) 0
def QD(n:Nat)(ct:List Request)(aQ:Int):Option ((List Request)×Int×Int):=some (ct,aQ,0)
def I1(s:arY)(r1:Int×Int×Int)(am:(List Request)→Int→Int→Option ((List Request)×Int×Int))(ba:List Request)(v9:Int)(v10:Int):Option ((List Request)×Int×Int):=cond (decide (v9<r1.1)) ( (I0 n s v10).bind λbc=>cond (!decide (bc.2.2=0)) ( some (([]:List Request),0,bc.2.2)) ( av (room (ba.length+([bc.1]:List Request).length) 120)<|am (ba++([bc.1]:List Request)) (ar0 (v9+1)) bc.2.1)) ( QD n ba v10)
def wT(n:Nat)(s:arY)(r1:Int×Int×Int):Nat→(List Request)→Int→Int→Option ((List Request)×Int×Int)
 | 0=>λ_ _ _=>none
 |m+1=>I1 n s r1 (wT n s r1 m)
def I2(s:arY)(at_:Int):Option ((List Request)×Int×Int):=(qe n s at_ 64).bind λr1=>cond (!decide (r1.2.2=0)) ( some (([]:List Request),0,r1.2.2)) ( wT n s r1 n ([]:List Request) 0 r1.2.1)
def zx(af:fs):Option ((List Request)×Int×Int):=cond (!decide (af.e=0)) ( some (([]:List Request),af.at_,af.e)) ( (I2 n af.s af.at_).bind λr2=>cond (!decide (r2.2.2=0)) ( some (([]:List Request),af.at_,r2.2.2)) ( some (r2.1,r2.2.1,r2.2.2)))
def zy(n:Nat)(r2:Int×Int×Int)(af:lq)(v3:Int):Option (Int×Int×Int):=cond (!decide (v3=0)) ( some (0,af.at_,v3)) ( some ((ar0 r2.1),r2.2.1,v3))
def sB(least:Int)(cq:Int)(af:lq):Option (Int×Int×Int):=cond (!decide (af.e=0)) ( some (0,af.at_,af.e)) ( (sv n af.s af.at_).bind λr2=>cond (cond (decide (r2.2.2=0)) (cond (decide (r2.1<least)) true (decide (cq<r2.1))) false) ( zy n r2 af 5) ( zy n r2 af r2.2.2))
def Do(n:Nat)(af:lq)(r1:Int×Int×Int)(r2:Int×Int×Int)(v21:Int)(e_:Int)(gP:List bk):Option (Outcome×Int×Int):=some ((⟨r1.1,r2.1,gP⟩:Outcome),v21,e_)
def zz(bh:Int×Int×Int)(af:lq)(r1:Int×Int×Int)(r2:Int×Int×Int)(am:Int→Int→(List bk)→Int→Option (Outcome×Int×Int))(v11:Int)(v12:Int)(dG:List bk)(bP:Int):Option (Outcome×Int×Int):=cond (cond (decide (bP<bh.1)) (decide (v12=0)) false) ( (zn n af.s v11).bind λcY=>av (room (dG.length+([cY.1]:List bk).length) 32)<|am cY.2.1 cY.2.2 (dG++([cY.1]:List bk)) (ar0 (bP+1))) ( Do n af r1 r2 v11 v12 dG)
def uq(n:Nat)(bh:Int×Int×Int)(af:lq)(r1:Int×Int×Int)(r2:Int×Int×Int):Nat→Int→Int→(List bk)→Int→Option (Outcome×Int×Int)
 | 0=>λ_ _ _ _=>none
 |m+1=>zz n bh af r1 r2 (uq n bh af r1 r2 m)
def Dp(af:lq):Option (Outcome×Int×Int):=(sB n 0 9999 af).bind λr1=>(sB n 0 9999 (⟨af.s,r1.2.1,r1.2.2⟩:lq)).bind λr2=>cond (!decide (r2.2.2=0)) ( some ((⟨r1.1,r2.1,[]⟩:Outcome),r2.2.1,r2.2.2)) ( (qe n af.s r2.2.1 16).bind λbh=>uq n bh af r1 r2 n bh.2.1 bh.2.2 ([]:List bk) 0)
def I3(n:Nat)(af:lq)(r1:Int×Int×Int)(r2:Int×Int×Int)(v21:Int)(e_:Int)(gP:List dS):Option (bH×Int×Int):=some ((⟨r1.1,r2.1,gP⟩:bH),v21,e_)
def Dq(bh:Int)(af:lq)(r1:Int×Int×Int)(r2:Int×Int×Int)(am:Int→Int→(List dS)→Int→Option (bH×Int×Int))(v11:Int)(v12:Int)(dG:List dS)(bP:Int):Option (bH×Int×Int):=cond (cond (decide (bP<bh)) (decide (v12=0)) false) ( (Dp n (⟨af.s,v11,v12⟩:lq)).bind λcY=>av (room (dG.length+([(⟨r1.1,(ar0 (r2.1-(ar0 (bh-bP)))),cY.1⟩:dS)]:List dS).length) 56)<|am cY.2.1 cY.2.2 (dG++([(⟨r1.1,(ar0 (r2.1-(ar0 (bh-bP)))),cY.1⟩:dS)]:List dS)) (ar0 (bP+1))) ( I3 n af r1 r2 v11 v12 dG)
def wU(n:Nat)(bh:Int)(af:lq)(r1:Int×Int×Int)(r2:Int×Int×Int):Nat→Int→Int→(List dS)→Int→Option (bH×Int×Int)
 | 0=>λ_ _ _ _=>none
 |m+1=>Dq n bh af r1 r2 (wU n bh af r1 r2 m)
def Dr(af:lq):Option (bH×Int×Int):=(sB n 1 32 af).bind λr1=>(sB n 1 1099511627776 (⟨af.s,r1.2.1,r1.2.2⟩:lq)).bind λr2=>cond (!decide (r2.2.2=0)) ( some ((⟨r1.1,r2.1,[]⟩:bH),r2.2.1,r2.2.2)) ( (C_ n r2.1).bind λbh=>wU n bh af r1 r2 n r2.2.1 r2.2.2 ([]:List dS) 0)
def Ds(s:arY)(b4:Int)(v20:Int)(v21:List bH):Option ((List bH)×Int×Int):=cond (!decide (v20=0)) ( some (([]:List bH),0,v20)) ( (zd n v21).bind λea=>cond (!ea) ( some (([]:List bH),0,5)) ( some (v21,b4,0)))
def Dt(r1:Int×Int×Int)(s:arY)(am:Int→Int→(List bH)→Int→Option ((List bH)×Int×Int))(v9:Int)(v10:Int)(v11:List bH)(v12:Int):Option ((List bH)×Int×Int):=cond (cond (decide (v12<r1.1)) (decide (v10=0)) false) ( (Dr n (⟨s,v9,v10⟩:lq)).bind λcb=>av (room (v11.length+([cb.1]:List bH).length) 40)<|am cb.2.1 cb.2.2 (v11++([cb.1]:List bH)) (ar0 (v12+1))) ( Ds n s v9 v10 v11)
def wV(n:Nat)(r1:Int×Int×Int)(s:arY):Nat→Int→Int→(List bH)→Int→Option ((List bH)×Int×Int)
 | 0=>λ_ _ _ _=>none
 |m+1=>Dt n r1 s (wV n r1 s m)
def I4(s:arY)(at_:Int):Option ((List bH)×Int×Int):=(qe n s at_ 32).bind λr1=>cond (!decide (r1.2.2=0)) ( some (([]:List bH),0,r1.2.2)) ( wV n r1 s n r1.2.1 0 ([]:List bH) 0)
def zA(af:fs):Option ((List bH)×Int×Int):=cond (!decide (af.e=0)) ( some (([]:List bH),af.at_,af.e)) ( (I4 n af.s af.at_).bind λr2=>cond (!decide (r2.2.2=0)) ( some (([]:List bH),af.at_,r2.2.2)) ( some (r2.1,r2.2.1,r2.2.2)))
def QE(s:arY)(at_:Int)(a2:Int):Option (Int×Int×Int):=(qe n s at_ a2).bind λr1=>some (r1.1,r1.2.1,r1.2.2)
def wW(p:Int)(af:fs):Option (Int×Int×Int):=cond (!decide (af.e=0)) ( some (0,af.at_,af.e)) ( (QE n af.s af.at_ p).bind λr2=>cond (!decide (r2.2.2=0)) ( some (0,af.at_,r2.2.2)) ( some (r2.1,r2.2.1,r2.2.2)))
def wX(af:fs):Option (Int×Int×Int):=cond (!decide (af.e=0)) ( some (0,af.at_,af.e)) ( (zm n af.s af.at_).bind λr2=>cond (!decide (r2.2.2=0)) ( some (0,af.at_,r2.2.2)) ( some (r2.1,r2.2.1,r2.2.2)))
def QF(s:arY)(at_:Int)(a2:Int):Option (arY×Int×Int):=(un n s at_ a2).bind λr1=>some (r1.1,r1.2.1,r1.2.2)
def Du(p:Int)(af:fs):Option (arY×Int×Int):=cond (!decide (af.e=0)) ( some (([]:arY),af.at_,af.e)) ( (QF n af.s af.at_ p).bind λr2=>cond (!decide (r2.2.2=0)) ( some (([]:arY),af.at_,r2.2.2)) ( some (r2.1,r2.2.1,r2.2.2)))
def zB(af:fs):Option (Int×Int×Int):=cond (!decide (af.e=0)) ( some (0,af.at_,af.e)) ( (sv n af.s af.at_).bind λr2=>cond (!decide (r2.2.2=0)) ( some (0,af.at_,r2.2.2)) ( some (r2.1,r2.2.1,r2.2.2)))
def Dv(n:Nat)(cq:Int):ar3:=some cq
def ur(af:fs)(r1:Int×Int×Int)(r26:(List bH)×Int×Int)(r27:cp×Int×Int)(r2:(List bG)×Int×Int)(v25:List arY)(I5:Int)(v51:Int)(I6:List bz):Option (pe×Int×Int):=(zx n (⟨af.s,I5,v51⟩:fs)).bind λzC=>(zB n (⟨af.s,zC.2.1,zC.2.2⟩:fs)).bind λlv=>some ((⟨⟨r1.1,⟨0,0,[]⟩,[],r26.1,r27.1,I6,zC.1,lv.1⟩,r2.1,v25⟩:pe),lv.2.1,lv.2.2)
def Dw(af:fs)(r1:Int×Int×Int)(r26:(List bH)×Int×Int)(r27:cp×Int×Int)(r2:(List bG)×Int×Int)(v25:List arY)(fj:Int→Int→(List bz)→Int→Option (pe×Int×Int))(iP:Int)(me:Int)(v40:List bz)(kC:Int):Option (pe×Int×Int):=cond (cond (decide (0<kC)) (decide (me=0)) false) ( (Dv n 24).bind λhS=>(Du n hS (⟨af.s,iP,me⟩:fs)).bind λow=>(wX n (⟨af.s,ow.2.1,ow.2.2⟩:fs)).bind λgT=>av (room (v40.length+([(⟨ow.1,gT.1⟩:bz)]:List bz).length) 24)<|fj gT.2.1 gT.2.2 (v40++([(⟨ow.1,gT.1⟩:bz)]:List bz)) (ar0 (kC-1))) ( ur n af r1 r26 r27 r2 v25 iP me v40)
def rk(n:Nat)(af:fs)(r1:Int×Int×Int)(r26:(List bH)×Int×Int)(r27:cp×Int×Int)(r2:(List bG)×Int×Int)(v25:List arY):Nat→Int→Int→(List bz)→Int→Option (pe×Int×Int)
 | 0=>λ_ _ _ _=>none
 |m+1=>Dw n af r1 r26 r27 r2 v25 (rk n af r1 r26 r27 r2 v25 m)
def ut(af:fs)(r1:Int×Int×Int)(r2:(List bG)×Int×Int)(gP:Int)(v24:Int)(v25:List arY):Option (pe×Int×Int):=(zA n (⟨af.s,gP,v24⟩:fs)).bind λr26=>(zq n (⟨af.s,r26.2.1,r26.2.2⟩:fs)).bind λr27=>(zj n 32).bind λnz=>(wW n nz (⟨af.s,r27.2.1,r27.2.2⟩:fs)).bind λfD=>rk n af r1 r26 r27 r2 v25 n fD.2.1 fD.2.2 ([]:List bz) fD.1
def Dx(af:fs)(r1:Int×Int×Int)(r2:(List bG)×Int×Int)(hy:Int→Int→(List arY)→Int→Option (pe×Int×Int))(v12:Int)(dG:Int)(bP:List arY)(bA:Int):Option (pe×Int×Int):=cond (cond (decide (0<bA)) (decide (dG=0)) false) ( (Dv n 16384).bind λcj=>(Du n cj (⟨af.s,v12,dG⟩:fs)).bind λcV=>av (room (bP.length+([cV.1]:List arY).length) 16)<|hy cV.2.1 cV.2.2 (bP++([cV.1]:List arY)) (ar0 (bA-1))) ( ut n af r1 r2 v12 dG bP)
def uu(n:Nat)(af:fs)(r1:Int×Int×Int)(r2:(List bG)×Int×Int):Nat→Int→Int→(List arY)→Int→Option (pe×Int×Int)
 | 0=>λ_ _ _ _=>none
 |m+1=>Dx n af r1 r2 (uu n af r1 r2 m)
def Dy(af:fs):Option (pe×Int×Int):=(wX n af).bind λr1=>(zo n (⟨af.s,r1.2.1,r1.2.2⟩:fs)).bind λr2=>(zj n 16).bind λr3=>(wW n r3 (⟨af.s,r2.2.1,r2.2.2⟩:fs)).bind λbh=>uu n af r1 r2 n bh.2.1 bh.2.2 ([]:List arY) bh.1
def I7(n:Nat):Option (arY×Int×Int):=some (([]:arY),0,6)
def QG(n:Nat)(am:(List Int)→Int→Option (arY×Int×Int))(s:arY)(b4:List Int)(v20:Int):Option (arY×Int×Int):=am b4 (ar0 (v20+1))
def I8(am:(List Int)→Int→Option (arY×Int×Int))(s:arY)(v11:List Int)(ct:Int)(aQ:Int):Option (arY×Int×Int):=cond (cond (decide (aQ<32)) true (decide (126<aQ))) ( some (([]:arY),0,5)) ( cond (decide (((v11.length:Nat):Int)=64)) ( some (([]:arY),0,2)) ( av (room (v11.length+([aQ]:List Int).length) 1)<|QG n am s (v11++([aQ]:List Int)) ct))
def QH(s:arY)(am:(List Int)→Int→Option (arY×Int×Int))(v11:List Int)(v12:Int):Option (arY×Int×Int):=cond (decide (v12<((s.length:Nat):Int))) ( av (aM v12 s.length)<|cond (decide ((((s.getD (v12).toNat 0).toNat:Nat):Int)=34)) ( av (ns v11)<|some ((kd v11),(ar0 (v12+1)),0)) ( cond (decide ((((s.getD (v12).toNat 0).toNat:Nat):Int)=92)) ( cond (decide ((ar0 (v12+1))=((s.length:Nat):Int))) ( I7 n) ( av (aM (ar0 (v12+1)) s.length)<|cond (cond (!decide ((((s.getD ((ar0 (v12+1))).toNat 0).toNat:Nat):Int)=34)) (!decide ((((s.getD ((ar0 (v12+1))).toNat 0).toNat:Nat):Int)=92)) false) ( some (([]:arY),0,5)) ( I8 n am s v11 (ar0 (v12+1)) (((s.getD ((ar0 (v12+1))).toNat 0).toNat:Nat):Int)))) ( I8 n am s v11 v12 (((s.getD (v12).toNat 0).toNat:Nat):Int)))) ( I7 n)
def zD(n:Nat)(s:arY):Nat→(List Int)→Int→Option (arY×Int×Int)
 | 0=>λ_ _=>none
 |m+1=>QH n s (zD n s m)
def QI(s:arY):Option (arY×Int×Int):=zD n s n ([]:List Int) 1
def QJ(s:arY)(c:Int):ar3:=(HT n s c).bind λr1=>some r1
def Dz(s:arY):Option arY:=av (!(!(decide (s=([]:arY))))||aM 0 s.length)<|Option.bind (cond (!(decide (s=([]:arY)))) (QJ n ([40,41,123,125,44,59,58,61,60,62,43,45,42,47,37]:arY) (((s.getD 0 0).toNat:Nat):Int)) (some default)) λbu=>cond (cond (!(decide (s=([]:arY)))) (decide (0≤bu)) false) ( av (hv 1 s.length)<|some (s.take 1)) ( some ([]:arY))
def wY(s:arY)(v2:Bool):Option arY:=cond v2 ( av (hv 2 s.length)<|some (s.take 2)) ( Dz n s)
def I9(s:arY):Option arY:=cond (decide (2≤((s.length:Nat):Int))) ( av (hv 2 s.length)<|cond (decide ((s.take 2)=([61,61]:arY))) ( wY n s (decide ((s.take 2)=([61,61]:arY)))) ( cond (decide ((s.take 2)=([33,61]:arY))) ( wY n s (decide ((s.take 2)=([33,61]:arY)))) ( cond (decide ((s.take 2)=([60,61]:arY))) ( wY n s (decide ((s.take 2)=([60,61]:arY)))) ( cond (decide ((s.take 2)=([62,61]:arY))) ( wY n s (decide ((s.take 2)=([62,61]:arY)))) ( wY n s (decide ((s.take 2)=([43,43]:arY)))))))) ( Dz n s)
def DA(s:arY)(v3:arY)(v4:Bool)(v10:Int):Option (Int×Int):=av ((cond (decide (v10=0)) true (decide (v10<((v3.length:Nat):Int))))||aM 0 v3.length)<|cond (cond (cond (decide (v10=0)) true (decide (v10<((v3.length:Nat):Int)))) true (cond (decide ((((v3.getD 0 0).toNat:Nat):Int)=48)) (cond (decide (1<v10)) true v4) false)) ( some (0,5)) ( (yY n s 10 64).bind λcb=>iw.on cb (λY1=>cond (!true) ( some (0,3)) ( some (Y1,0))) (λY2=>cond (!false) ( some (0,3)) ( some (Y2,0))))
def QK(s:arY)(v3:arY)(v4:Bool)(fj:Int→Option (Int×Int))(bw:Int):Option (Int×Int):=cond (decide (bw<((v3.length:Nat):Int))) ( av (aM bw v3.length)<|cond (cond (decide (48≤(((v3.getD (bw).toNat 0).toNat:Nat):Int))) (decide ((((v3.getD (bw).toNat 0).toNat:Nat):Int)≤57)) false) ( fj (ar0 (bw+1))) ( DA n s v3 v4 bw)) ( DA n s v3 v4 bw)
def zE(n:Nat)(s:arY)(v3:arY)(v4:Bool):Nat→Int→Option (Int×Int)
 | 0=>λ_=>none
 |m+1=>QK n s v3 v4 (zE n s v3 v4 m)
def I'(s:arY)(v3:arY)(v4:Bool):Option (Int×Int):=zE n s v3 v4 n 0
def I_(s:arY):Option (Int×Int):=av (!(decide (0<((s.length:Nat):Int)))||aM 0 s.length)<|cond (cond (decide (0<((s.length:Nat):Int))) (decide ((((s.getD 0 0).toNat:Nat):Int)=45)) false) ( av (hv 1 s.length)<|I' n s (s.drop 1) true) ( I' n s s false)
def Ja(w:arY):Option (Token×Int):=av (aM 0 w.length)<|cond (decide ((((w.getD 0 0).toNat:Nat):Int)=95)) ( some ((⟨0,[],0,0⟩:Token),5)) ( av (aM 0 w.length)<|(CR n (IntKind.i32.wrap (((w.getD 0 0).toNat:Nat):Int))).bind λbh=>cond bh ( (CQ n w).bind λbr=>cond br ( some ((⟨2,w,0,0⟩:Token),0)) ( (so n w).bind λcn=>cond (!cn) ( some ((⟨0,[],0,0⟩:Token),2)) ( some ((⟨1,w,0,0⟩:Token),0)))) ( (I_ n w).bind λcP=>cond (!decide (cP.2=0)) ( some ((⟨0,[],0,0⟩:Token),cP.2)) ( some ((⟨3,[],cP.1,0⟩:Token),0))))
def DB(s:arY):Option (Token×Int×Int):=(yX n s).bind λr1=>cond (decide (0<r1)) ( av (hv r1 s.length)<|(Ja n (s.take (r1).toNat)).bind λbh=>some (bh.1,r1,bh.2)) ( av (aM 0 s.length)<|cond (decide ((((s.getD 0 0).toNat:Nat):Int)=34)) ( (QI n s).bind λbC=>some ((⟨4,bC.1,0,0⟩:Token),bC.2.1,bC.2.2)) ( (I9 n s).bind λcn=>cond (decide (cn=([]:arY))) ( some ((⟨0,[],0,0⟩:Token),0,5)) ( some ((⟨5,cn,0,0⟩:Token),((cn.length:Nat):Int),0))))
def Jb(s:arY):Option arY:=(HS n s).bind λr1=>some r1
def QL(n:Nat)(Jc:List Token):Option ((List Token)×Int×Int):=some (Jc,0,0)
def QM(am:(List Token)→Int→Int→Option ((List Token)×Int×Int))(src:arY)(aQ:List Token)(bQ:Int)(b4:Int):Option ((List Token)×Int×Int):=av (hv b4 src.length)<|(DB n (src.drop (b4).toNat)).bind λfD=>cond (!decide (fD.2.2=0)) ( some (([]:List Token),bQ,fD.2.2)) ( (Jb n fD.1.Text).bind λhJ=>av (room (aQ.length+([(⟨fD.1.Kind,hJ,fD.1.N,bQ⟩:Token)]:List Token).length) 40)<|am (aQ++([(⟨fD.1.Kind,hJ,fD.1.N,bQ⟩:Token)]:List Token)) bQ (ar0 (b4+fD.2.1)))
def QN(n:Nat)(am:(List Token)→Int→Int→Option ((List Token)×Int×Int))(src:arY)(aQ:List Token)(bQ:Int)(nA:Int):Option ((List Token)×Int×Int):=am aQ bQ nA
def QO(am:(List Token)→Int→Int→Option ((List Token)×Int×Int))(src:arY)(aQ:List Token)(bQ:Int)(Db:Int→Option ((List Token)×Int×Int))(v24:Int):Option ((List Token)×Int×Int):=av (!(decide (v24<((src.length:Nat):Int)))||aM v24 src.length)<|cond (cond (decide (v24<((src.length:Nat):Int))) (!decide ((((src.getD (v24).toNat 0).toNat:Nat):Int)=10)) false) ( Db (ar0 (v24+1))) ( QN n am src aQ bQ v24)
def DC(n:Nat)(am:(List Token)→Int→Int→Option ((List Token)×Int×Int))(src:arY)(aQ:List Token)(bQ:Int):Nat→Int→Option ((List Token)×Int×Int)
 | 0=>λ_=>none
 |m+1=>QO n am src aQ bQ (DC n am src aQ bQ m)
def Jd(am:(List Token)→Int→Int→Option ((List Token)×Int×Int))(src:arY)(aQ:List Token)(bQ:Int)(b4:Int)(v21:Bool):Option ((List Token)×Int×Int):=cond v21 ( am aQ bQ (ar0 (b4+1))) ( cond (decide ((((src.getD (b4).toNat 0).toNat:Nat):Int)=35)) ( DC n am src aQ bQ n b4) ( QM n am src aQ bQ b4))
def QP(src:arY)(am:(List Token)→Int→Int→Option ((List Token)×Int×Int))(aQ:List Token)(bQ:Int)(b4:Int):Option ((List Token)×Int×Int):=cond (decide (b4<((src.length:Nat):Int))) ( av (aM b4 src.length)<|cond (decide ((((src.getD (b4).toNat 0).toNat:Nat):Int)=10)) ( am aQ (ar0 (bQ+1)) (ar0 (b4+1))) ( cond (decide ((((src.getD (b4).toNat 0).toNat:Nat):Int)=32)) ( Jd n am src aQ bQ b4 (decide ((((src.getD (b4).toNat 0).toNat:Nat):Int)=32))) ( Jd n am src aQ bQ b4 (decide ((((src.getD (b4).toNat 0).toNat:Nat):Int)=9))))) ( QL n aQ)
def DD(n:Nat)(src:arY):Nat→(List Token)→Int→Int→Option ((List Token)×Int×Int)
 | 0=>λ_ _ _=>none
 |m+1=>QP n src (DD n src m)
def Je(src:arY):Option ((List Token)×Int×Int):=cond (decide (16384<((src.length:Nat):Int))) ( some (([]:List Token),0,2)) ( DD n src n ([]:List Token) 1 0)
def uv(n:Nat)(text:arY)(af:a1):ar2:=cond (decide (((af.tokens.length:Nat):Int)≤af.at_)) ( some false) ( av (aM af.at_ af.tokens.length)<|some (cond (cond (decide ((ar1 af.tokens (af.at_)).Kind=2)) true (decide ((ar1 af.tokens (af.at_)).Kind=5))) (decide (((ar1 af.tokens (af.at_)).Text)=text)) false))
def kY(text:arY)(af:a1):Option (Bool×Int):=(uv n text af).bind λr1=>cond (!r1) ( some (false,af.at_)) ( some (true,(ar0 (af.at_+1))))
def QQ(n:Nat)(af:a1):Option (aC Unit Unit):=av (aM (ar0 (((af.tokens.length:Nat):Int)-1)) af.tokens.length)<|some (.aK (.iface 332 (.agg [.int .i64 ((ar1 af.tokens (ar0 (((af.tokens.length:Nat):Int)-1))).lp),.int .i64 6])) ())
def QR(af:a1):Option (aC Unit Unit):=cond (decide (((af.tokens.length:Nat):Int)=0)) ( some (.aK (.iface 332 (.agg [.int .i64 1,.int .i64 6])) ())) ( QQ n af)
def sC(code:Int)(af:a1):Option (aC Unit Unit):=cond (decide (af.at_<((af.tokens.length:Nat):Int))) ( av (aM af.at_ af.tokens.length)<|some (.aK (.iface 332 (.agg [.int .i64 ((ar1 af.tokens (af.at_)).lp),.int .i64 code])) ())) ( QR n af)
def iQ(text:arY)(af:a1):Option (aC Unit Int):=(kY n text af).bind λr1=>cond (!r1.1) ( (sC n 5 (⟨af.tokens,r1.2⟩:a1)).bind λr3=>aC.on r3 (λbh bu=>some (.ret () r1.2)) (λmD bu=>some (.aK mD r1.2))) ( some (.ret () r1.2))
def mf(s:Stmt)(af:a1):Option (aC Stmt Int):=(iQ n ([59]:arY) af).bind λr1=>aC.on r1 (λr2 r3=>some (.ret (⟨s.Op,s.Name,s.Max,⟨s.A.Op,s.A.N,s.A.S,s.A.au⟩,⟨s.B.Op,s.B.N,s.B.S,s.B.au⟩,s.Body,s.bK⟩:Stmt) r3)) (λfu r3=>some (.aK fu r3))
def Jf(n:Nat)(af:a1):Option (Int×Int):=cond (decide (((af.tokens.length:Nat):Int)≤af.at_)) ( some (0,0)) ( av (aM af.at_ af.tokens.length)<|cond (cond (!decide ((ar1 af.tokens (af.at_)).Kind=2)) (!decide ((ar1 af.tokens (af.at_)).Kind=5)) false) ( some (0,0)) ( cond (decide (((ar1 af.tokens (af.at_)).Text)=([111,114]:arY))) ( some (1,17)) ( cond (decide (((ar1 af.tokens (af.at_)).Text)=([97,110,100]:arY))) ( some (2,16)) ( cond (decide (((ar1 af.tokens (af.at_)).Text)=([61,61]:arY))) ( some (4,10)) ( cond (decide (((ar1 af.tokens (af.at_)).Text)=([33,61]:arY))) ( some (4,11)) ( cond (decide (((ar1 af.tokens (af.at_)).Text)=([60]:arY))) ( some (4,12)) ( cond (decide (((ar1 af.tokens (af.at_)).Text)=([60,61]:arY))) ( some (4,13)) ( cond (decide (((ar1 af.tokens (af.at_)).Text)=([62]:arY))) ( some (4,14)) ( cond (decide (((ar1 af.tokens (af.at_)).Text)=([62,61]:arY))) ( some (4,15)) ( cond (decide (((ar1 af.tokens (af.at_)).Text)=([43,43]:arY))) ( some (5,19)) ( cond (decide (((ar1 af.tokens (af.at_)).Text)=([43]:arY))) ( some (6,4)) ( cond (decide (((ar1 af.tokens (af.at_)).Text)=([45]:arY))) ( some (6,5)) ( cond (decide (((ar1 af.tokens (af.at_)).Text)=([42]:arY))) ( some (7,6)) ( cond (decide (((ar1 af.tokens (af.at_)).Text)=([47]:arY))) ( some (7,7)) ( cond (decide (((ar1 af.tokens (af.at_)).Text)=([37]:arY))) ( some (7,8)) ( some (0,0)))))))))))))))))
def Jg(n:Nat)(depth:Int)(af:a1):Option (aC Int Unit):=some (.ret (ar0 (depth+1)) ())
def sD(depth:Int)(af:a1):Option (aC Int Unit):=cond (decide (24≤depth)) ( (sC n 2 af).bind λr1=>aC.on r1 (λr2 r3=>Jg n depth af) (λfu r3=>some (.aK fu ()))) ( Jg n depth af)
def Jh(n:Nat)(af:a1):ar3:=av ((decide (((af.tokens.length:Nat):Int)≤af.at_))||aM af.at_ af.tokens.length)<|cond (cond (decide (((af.tokens.length:Nat):Int)≤af.at_)) true (!decide ((ar1 af.tokens (af.at_)).Kind=2))) ( some 0) ( av (aM af.at_ af.tokens.length)<|cond (decide (((ar1 af.tokens (af.at_)).Text)=([116,101,120,116]:arY))) ( some 20) ( cond (decide (((ar1 af.tokens (af.at_)).Text)=([108,101,110]:arY))) ( some 21) ( cond (decide (((ar1 af.tokens (af.at_)).Text)=([103,101,116,105,110,116]:arY))) ( some 22) ( cond (decide (((ar1 af.tokens (af.at_)).Text)=([103,101,116,115,116,114]:arY))) ( some 23) ( cond (decide (((ar1 af.tokens (af.at_)).Text)=([104,97,115]:arY))) ( some 24) ( cond (decide (((ar1 af.tokens (af.at_)).Text)=([110,111,119]:arY))) ( some 25) ( cond (decide (((ar1 af.tokens (af.at_)).Text)=([114,97,110,100,111,109]:arY))) ( some 26) ( cond (decide (((ar1 af.tokens (af.at_)).Text)=([110,111,100,101]:arY))) ( some 27) ( some 0)))))))))
def Ji(fP:Int→Int→a1→Option (aC Expr Int))(f_:Int→Int→Int→a1→Option (aC Expr Int))(gl:Int→a1→Option (aC Expr Int))(ga:Int→a1→Option (aC Expr Int))(level:Int)(depth:Int)(af:a1)(dM:Int→Int→Int→arY→(List Expr)→Option (aC Expr Int))(v37:Int)(iP:Int)(me:Int)(v40:arY)(kC:List Expr):Option (aC Expr Int):=(Jf n (⟨af.tokens,v37⟩:a1)).bind λhS=>cond (!decide (hS.1=level)) ( some (.ret (⟨iP,me,v40,kC⟩:Expr) v37)) ( (fP (ar0 (level+1)) depth (⟨af.tokens,(ar0 (v37+1))⟩:a1)).bind λow=>aC.on ow (λgT jw=>cond (decide (level=4)) ( some (.ret (⟨hS.2,0,[],[⟨iP,me,v40,kC⟩,gT]⟩:Expr) jw)) ( dM jw hS.2 0 ([]:arY) ([(⟨iP,me,v40,kC⟩:Expr),gT]:List Expr))) (λwZ jw=>some (.aK wZ jw)))
def w0(n:Nat)(fP:Int→Int→a1→Option (aC Expr Int))(f_:Int→Int→Int→a1→Option (aC Expr Int))(gl:Int→a1→Option (aC Expr Int))(ga:Int→a1→Option (aC Expr Int))(level:Int)(depth:Int)(af:a1):Nat→Int→Int→Int→arY→(List Expr)→Option (aC Expr Int)
 | 0=>λ_ _ _ _ _=>none
 |m+1=>Ji n fP f_ gl ga level depth af (w0 n fP f_ gl ga level depth af m)
def DE(fP:Int→Int→a1→Option (aC Expr Int))(f_:Int→Int→Int→a1→Option (aC Expr Int))(gl:Int→a1→Option (aC Expr Int))(ga:Int→a1→Option (aC Expr Int))(level:Int)(depth:Int)(af:a1):Option (aC Expr Int):=cond (decide (level=3)) ( (uv n ([110,111,116]:arY) af).bind λr2=>cond r2 ( (f_ 18 level depth af).bind λbh=>aC.on bh (λbu br=>some (.ret bu br)) (λrl br=>some (.aK rl br))) ( (fP 4 depth af).bind λcn=>aC.on cn (λb7 cP=>some (.ret b7 cP)) (λQS cP=>some (.aK QS cP)))) ( cond (decide (level=8)) ( (uv n ([45]:arY) af).bind λcb=>cond cb ( (f_ 9 level depth af).bind λcY=>aC.on cY (λcj cV=>some (.ret cj cV)) (λlw cV=>some (.aK lw cV))) ( (gl depth af).bind λe9=>aC.on e9 (λdZ e0=>some (.ret dZ e0)) (λQT e0=>some (.aK QT e0)))) ( (fP (ar0 (level+1)) depth af).bind λea=>aC.on ea (λr24 ft=>w0 n fP f_ gl ga level depth af n ft r24.Op r24.N r24.S r24.au) (λQU ft=>some (.aK QU ft))))
def zF(fP:Int→Int→a1→Option (aC Expr Int))(f_:Int→Int→Int→a1→Option (aC Expr Int))(gl:Int→a1→Option (aC Expr Int))(ga:Int→a1→Option (aC Expr Int))(op:Int)(level:Int)(depth:Int)(af:a1):Option (aC Expr Int):=(sD n depth af).bind λr1=>aC.on r1 (λr2 r3=>(fP level r2 (⟨af.tokens,(ar0 (af.at_+1))⟩:a1)).bind λbu=>aC.on bu (λbr bC=>some (.ret (⟨op,0,[],[br]⟩:Expr) bC)) (λh5 bC=>some (.aK h5 bC))) (λfu r3=>some (.aK fu af.at_))
def DF(fP:Int→Int→a1→Option (aC Expr Int))(f_:Int→Int→Int→a1→Option (aC Expr Int))(gl:Int→a1→Option (aC Expr Int))(ga:Int→a1→Option (aC Expr Int))(depth:Int)(r3:Int)(af:a1)(v2:Int):Option (aC Expr Int):=(sD n depth (⟨af.tokens,v2⟩:a1)).bind λr26=>aC.on r26 (λr27 nz=>(ga r27 (⟨af.tokens,(ar0 (v2+1))⟩:a1)).bind λhJ=>aC.on hJ (λfO kZ=>some (.ret (⟨r3,0,[],[fO]⟩:Expr) kZ)) (λsE kZ=>some (.aK sE kZ))) (λDG nz=>some (.aK DG v2))
def DH(fP:Int→Int→a1→Option (aC Expr Int))(f_:Int→Int→Int→a1→Option (aC Expr Int))(gl:Int→a1→Option (aC Expr Int))(ga:Int→a1→Option (aC Expr Int))(depth:Int)(af:a1)(v2:Int):Option (aC Expr Int):=(sD n depth (⟨af.tokens,v2⟩:a1)).bind λb7=>aC.on b7 (λcP bc=>(ga cP (⟨af.tokens,v2⟩:a1)).bind λcb=>aC.on cb (λdK cY=>some (.ret dK cY)) (λsF cY=>some (.aK sF cY))) (λmg bc=>some (.aK mg v2))
def mE(fP:Int→Int→a1→Option (aC Expr Int))(f_:Int→Int→Int→a1→Option (aC Expr Int))(gl:Int→a1→Option (aC Expr Int))(ga:Int→a1→Option (aC Expr Int))(depth:Int)(r3:Int)(af:a1)(v2:Int)(aQ:Bool):Option (aC Expr Int):=cond aQ ( (iQ n ([40]:arY) (⟨af.tokens,(ar0 (v2+1))⟩:a1)).bind λen=>aC.on en (λe9 dZ=>(iQ n ([41]:arY) (⟨af.tokens,dZ⟩:a1)).bind λde=>aC.on de (λea r24=>some (.ret (⟨r3,0,[],[]⟩:Expr) r24)) (λDI r24=>some (.aK DI r24))) (λDJ dZ=>some (.aK DJ dZ))) ( DF n fP f_ gl ga depth r3 af v2)
def sG(fP:Int→Int→a1→Option (aC Expr Int))(f_:Int→Int→Int→a1→Option (aC Expr Int))(gl:Int→a1→Option (aC Expr Int))(ga:Int→a1→Option (aC Expr Int))(depth:Int)(af:a1)(v2:Int):Option (aC Expr Int):=(Jh n (⟨af.tokens,v2⟩:a1)).bind λr3=>cond (decide (r3=0)) ( (uv n ([40]:arY) (⟨af.tokens,v2⟩:a1)).bind λbh=>cond (!bh) ( (sC n 5 (⟨af.tokens,v2⟩:a1)).bind λbu=>aC.on bu (λbr bC=>DH n fP f_ gl ga depth af v2) (λh5 bC=>some (.aK h5 v2))) ( DH n fP f_ gl ga depth af v2)) ( cond (decide (r3=25)) ( mE n fP f_ gl ga depth r3 af v2 (decide (r3=25))) ( cond (decide (r3=26)) ( mE n fP f_ gl ga depth r3 af v2 (decide (r3=26))) ( mE n fP f_ gl ga depth r3 af v2 (decide (r3=27)))))
def w1(fP:Int→Int→a1→Option (aC Expr Int))(f_:Int→Int→Int→a1→Option (aC Expr Int))(gl:Int→a1→Option (aC Expr Int))(ga:Int→a1→Option (aC Expr Int))(depth:Int)(af:a1):Option (aC Expr Int):=cond (decide (af.at_<((af.tokens.length:Nat):Int))) ( av (aM af.at_ af.tokens.length)<|cond (decide ((ar1 af.tokens (af.at_)).Kind=3)) ( some (.ret (⟨1,(ar1 af.tokens (af.at_)).N,[],[]⟩:Expr) (ar0 (af.at_+1)))) ( cond (decide ((ar1 af.tokens (af.at_)).Kind=4)) ( some (.ret (⟨2,0,(ar1 af.tokens (af.at_)).Text,[]⟩:Expr) (ar0 (af.at_+1)))) ( cond (decide ((ar1 af.tokens (af.at_)).Kind=1)) ( some (.ret (⟨3,0,(ar1 af.tokens (af.at_)).Text,[]⟩:Expr) (ar0 (af.at_+1)))) ( sG n fP f_ gl ga depth af (ar0 ((ar0 (af.at_+1))-1)))))) ( sG n fP f_ gl ga depth af af.at_)
def uw(fP:Int→Int→a1→Option (aC Expr Int))(f_:Int→Int→Int→a1→Option (aC Expr Int))(gl:Int→a1→Option (aC Expr Int))(ga:Int→a1→Option (aC Expr Int))(depth:Int)(af:a1):Option (aC Expr Int):=(iQ n ([40]:arY) af).bind λr1=>aC.on r1 (λr2 r3=>(fP 1 depth (⟨af.tokens,r3⟩:a1)).bind λbu=>aC.on bu (λbr bC=>(iQ n ([41]:arY) (⟨af.tokens,bC⟩:a1)).bind λb7=>aC.on b7 (λcP bc=>some (.ret br bc)) (λmg bc=>some (.aK mg bc))) (λh5 bC=>some (.aK h5 bC))) (λfu r3=>some (.aK fu r3))
def k0:Nat→(Int→Int→a1→Option (aC Expr Int))×(Int→Int→Int→a1→Option (aC Expr Int))×(Int→a1→Option (aC Expr Int))×(Int→a1→Option (aC Expr Int))
 | 0=>(λ_ _ _=>none,λ_ _ _ _=>none,λ_ _=>none,λ_ _=>none)
 |m+1=>(DE m ((k0 m).1) ((k0 m).2.1) ((k0 m).2.2.1) ((k0 m).2.2.2),zF m ((k0 m).1) ((k0 m).2.1) ((k0 m).2.2.1) ((k0 m).2.2.2),w1 m ((k0 m).1) ((k0 m).2.1) ((k0 m).2.2.1) ((k0 m).2.2.2),uw m ((k0 m).1) ((k0 m).2.1) ((k0 m).2.2.1) ((k0 m).2.2.2))
def fK:Int→Int→a1→Option (aC Expr Int):=(k0 n).1
def jx:Int→Int→Int→a1→Option (aC Expr Int):=(k0 n).2.1
def iR:Int→a1→Option (aC Expr Int):=(k0 n).2.2.1
def iz:Int→a1→Option (aC Expr Int):=(k0 n).2.2.2
def Jj(n:Nat)(af:a1):Option (aC Token Int):=av (aM (ar0 ((ar0 (af.at_+1))-1)) af.tokens.length)<|some (.ret (ar1 af.tokens (ar0 ((ar0 (af.at_+1))-1))) (ar0 (af.at_+1)))
def nB(kind:Int)(af:a1):Option (aC Token Int):=av ((decide (((af.tokens.length:Nat):Int)≤af.at_))||aM af.at_ af.tokens.length)<|cond (cond (decide (((af.tokens.length:Nat):Int)≤af.at_)) true (!decide ((ar1 af.tokens (af.at_)).Kind=kind))) ( (sC n 5 af).bind λr2=>aC.on r2 (λr3 bh=>Jj n af) (λkf bh=>some (.aK kf af.at_))) ( Jj n af)
def Jk(n:Nat)(hA:Int→a1→Option (aC (List Stmt) Int))(hT:Int→a1→Option (aC Stmt Int))(hU:Int→a1→Option (aC Stmt Int))(af:a1)(v28:Int)(hR:List Stmt):Option (aC (List Stmt) Int):=some (.ret hR v28)
def Jl(hA:Int→a1→Option (aC (List Stmt) Int))(hT:Int→a1→Option (aC Stmt Int))(hU:Int→a1→Option (aC Stmt Int))(depth:Int)(af:a1)(fj:Int→(List Stmt)→Option (aC (List Stmt) Int))(bQ:Int)(b4:List Stmt):Option (aC (List Stmt) Int):=(kY n ([125]:arY) (⟨af.tokens,bQ⟩:a1)).bind λdZ=>cond (!dZ.1) ( (hT (ar0 (depth+1)) (⟨af.tokens,dZ.2⟩:a1)).bind λe0=>aC.on e0 (λde ea=>av (room (b4.length+([de]:List Stmt).length) 192)<|fj ea (b4++([de]:List Stmt))) (λox ea=>some (.aK ox ea))) ( Jk n hA hT hU af dZ.2 b4)
def ux(n:Nat)(hA:Int→a1→Option (aC (List Stmt) Int))(hT:Int→a1→Option (aC Stmt Int))(hU:Int→a1→Option (aC Stmt Int))(depth:Int)(af:a1):Nat→Int→(List Stmt)→Option (aC (List Stmt) Int)
 | 0=>λ_ _=>none
 |m+1=>Jl n hA hT hU depth af (ux n hA hT hU depth af m)
def DK(hA:Int→a1→Option (aC (List Stmt) Int))(hT:Int→a1→Option (aC Stmt Int))(hU:Int→a1→Option (aC Stmt Int))(depth:Int)(af:a1):Option (aC (List Stmt) Int):=(iQ n ([123]:arY) af).bind λbr=>aC.on br (λbC cn=>ux n hA hT hU depth af n cn ([]:List Stmt)) (λDL cn=>some (.aK DL cn))
def DM(hA:Int→a1→Option (aC (List Stmt) Int))(hT:Int→a1→Option (aC Stmt Int))(hU:Int→a1→Option (aC Stmt Int))(depth:Int)(af:a1):Option (aC (List Stmt) Int):=(uv n ([123]:arY) af).bind λr1=>cond (cond r1 (decide (12<depth)) false) ( (sC n 2 af).bind λr2=>aC.on r2 (λr3 bh=>DK n hA hT hU depth af) (λkf bh=>some (.aK kf af.at_))) ( DK n hA hT hU depth af)
def DN(n:Nat)(hA:Int→a1→Option (aC (List Stmt) Int))(hT:Int→a1→Option (aC Stmt Int))(hU:Int→a1→Option (aC Stmt Int))(af:a1)(oy:Expr)(rm:(List Stmt))(Jm:Int)(Jn:List Stmt):Option (aC Stmt Int):=some (.ret (⟨5,[],0,oy,⟨0,0,[],[]⟩,rm,Jn⟩:Stmt) Jm)
def DO(hA:Int→a1→Option (aC (List Stmt) Int))(hT:Int→a1→Option (aC Stmt Int))(hU:Int→a1→Option (aC Stmt Int))(depth:Int)(af:a1):Option (aC Stmt Int):=(kY n ([108,101,116]:arY) af).bind λr1=>cond r1.1 ( (nB n 1 (⟨af.tokens,r1.2⟩:a1)).bind λr3=>aC.on r3 (λbh bu=>(iQ n ([61]:arY) (⟨af.tokens,bu⟩:a1)).bind λbC=>aC.on bC (λcn b7=>(fK n 1 0 (⟨af.tokens,b7⟩:a1)).bind λbc=>aC.on bc (λaS cb=>(mf n (⟨1,bh.Text,0,aS,⟨0,0,[],[]⟩,[],[]⟩:Stmt) (⟨af.tokens,cb⟩:a1)).bind λcY=>aC.on cY (λcj cV=>some (.ret (⟨cj.Op,cj.Name,cj.Max,⟨cj.A.Op,cj.A.N,cj.A.S,cj.A.au⟩,⟨cj.B.Op,cj.B.N,cj.B.S,cj.B.au⟩,cj.Body,cj.bK⟩:Stmt) cV)) (λlw cV=>some (.aK lw cV))) (λsH cb=>some (.aK sH cb))) (λDP b7=>some (.aK DP b7))) (λmD bu=>some (.aK mD bu))) ( (kY n ([112,117,116]:arY) (⟨af.tokens,r1.2⟩:a1)).bind λe9=>cond e9.1 ( (fK n 1 0 (⟨af.tokens,e9.2⟩:a1)).bind λe0=>aC.on e0 (λde ea=>(iQ n ([61]:arY) (⟨af.tokens,ea⟩:a1)).bind λft=>aC.on ft (λr26 r27=>(fK n 1 0 (⟨af.tokens,r27⟩:a1)).bind λfD=>aC.on fD (λhJ fO=>(mf n (⟨3,[],0,de,hJ,[],[]⟩:Stmt) (⟨af.tokens,fO⟩:a1)).bind λny=>aC.on ny (λnC lx=>some (.ret (⟨nC.Op,nC.Name,nC.Max,⟨nC.A.Op,nC.A.N,nC.A.S,nC.A.au⟩,⟨nC.B.Op,nC.B.N,nC.B.S,nC.B.au⟩,nC.Body,nC.bK⟩:Stmt) lx)) (λQV lx=>some (.aK QV lx))) (λsI fO=>some (.aK sI fO))) (λsJ r27=>some (.aK sJ r27))) (λox ea=>some (.aK ox ea))) ( (kY n ([100,101,108,101,116,101]:arY) (⟨af.tokens,e9.2⟩:a1)).bind λoz=>cond oz.1 ( (fK n 1 0 (⟨af.tokens,oz.2⟩:a1)).bind λum=>aC.on um (λsu lT=>(mf n (⟨4,[],0,su,⟨0,0,[],[]⟩,[],[]⟩:Stmt) (⟨af.tokens,lT⟩:a1)).bind λow=>aC.on ow (λgT jw=>some (.ret (⟨gT.Op,gT.Name,gT.Max,⟨gT.A.Op,gT.A.N,gT.A.S,gT.A.au⟩,⟨gT.B.Op,gT.B.N,gT.B.S,gT.B.au⟩,gT.Body,gT.bK⟩:Stmt) jw)) (λwZ jw=>some (.aK wZ jw))) (λsK lT=>some (.aK sK lT))) ( (kY n ([101,109,105,116]:arY) (⟨af.tokens,oz.2⟩:a1)).bind λov=>cond ov.1 ( (fK n 1 0 (⟨af.tokens,ov.2⟩:a1)).bind λIE=>aC.on IE (λDf qg=>(mf n (⟨7,[],0,Df,⟨0,0,[],[]⟩,[],[]⟩:Stmt) (⟨af.tokens,qg⟩:a1)).bind λzC=>aC.on zC (λlv DQ=>some (.ret (⟨lv.Op,lv.Name,lv.Max,⟨lv.A.Op,lv.A.N,lv.A.S,lv.A.au⟩,⟨lv.B.Op,lv.B.N,lv.B.S,lv.B.au⟩,lv.Body,lv.bK⟩:Stmt) DQ)) (λQW DQ=>some (.aK QW DQ))) (λQX qg=>some (.aK QX qg))) ( (kY n ([97,98,111,114,116]:arY) (⟨af.tokens,ov.2⟩:a1)).bind λJo=>cond Jo.1 ( (nB n 3 (⟨af.tokens,Jo.2⟩:a1)).bind λnD=>aC.on nD (λJp w2=>(mf n (⟨8,[],Jp.N,⟨0,0,[],[]⟩,⟨0,0,[],[]⟩,[],[]⟩:Stmt) (⟨af.tokens,w2⟩:a1)).bind λwJ=>aC.on wJ (λk1 ul=>some (.ret (⟨k1.Op,k1.Name,k1.Max,⟨k1.A.Op,k1.A.N,k1.A.S,k1.A.au⟩,⟨k1.B.Op,k1.B.N,k1.B.S,k1.B.au⟩,k1.Body,k1.bK⟩:Stmt) ul)) (λQY ul=>some (.aK QY ul))) (λQZ w2=>some (.aK QZ w2))) ( (kY n ([105,102]:arY) (⟨af.tokens,Jo.2⟩:a1)).bind λJq=>cond Jq.1 ( (fK n 1 0 (⟨af.tokens,Jq.2⟩:a1)).bind λQ0=>aC.on Q0 (λoy sL=>(hA depth (⟨af.tokens,sL⟩:a1)).bind λQ1=>aC.on Q1 (λrm sM=>(kY n ([101,108,115,101]:arY) (⟨af.tokens,sM⟩:a1)).bind λuy=>cond uy.1 ( (hA depth (⟨af.tokens,uy.2⟩:a1)).bind λQ2=>aC.on Q2 (λJr sN=>DN n hA hT hU af oy rm sN Jr) (λDR sN=>some (.aK DR sN))) ( DN n hA hT hU af oy rm uy.2 ([]:List Stmt))) (λDS sM=>some (.aK DS sM))) (λDT sL=>some (.aK DT sL))) ( (kY n ([102,111,114]:arY) (⟨af.tokens,Jq.2⟩:a1)).bind λJs=>cond Js.1 ( (hU depth (⟨af.tokens,Js.2⟩:a1)).bind λahF=>aC.on ahF (λnE DU=>some (.ret (⟨nE.Op,nE.Name,nE.Max,⟨nE.A.Op,nE.A.N,nE.A.S,nE.A.au⟩,⟨nE.B.Op,nE.B.N,nE.B.S,nE.B.au⟩,nE.Body,nE.bK⟩:Stmt) DU)) (λQ3 DU=>some (.aK Q3 DU))) ( (nB n 1 (⟨af.tokens,Js.2⟩:a1)).bind λze=>aC.on ze (λwI DV=>(iQ n ([61]:arY) (⟨af.tokens,DV⟩:a1)).bind λahG=>aC.on ahG (λIC DW=>(fK n 1 0 (⟨af.tokens,DW⟩:a1)).bind λahH=>aC.on ahH (λY3 DX=>(mf n (⟨2,wI.Text,0,Y3,⟨0,0,[],[]⟩,[],[]⟩:Stmt) (⟨af.tokens,DX⟩:a1)).bind λahI=>aC.on ahI (λnF uk=>some (.ret (⟨nF.Op,nF.Name,nF.Max,⟨nF.A.Op,nF.A.N,nF.A.S,nF.A.au⟩,⟨nF.B.Op,nF.B.N,nF.B.S,nF.B.au⟩,nF.Body,nF.bK⟩:Stmt) uk)) (λQ4 uk=>some (.aK Q4 uk))) (λQ5 DX=>some (.aK Q5 DX))) (λQ6 DW=>some (.aK Q6 DW))) (λQ7 DV=>some (.aK Q7 DV)))))))))
def DY(hA:Int→a1→Option (aC (List Stmt) Int))(hT:Int→a1→Option (aC Stmt Int))(hU:Int→a1→Option (aC Stmt Int))(depth:Int)(af:a1):Option (aC Stmt Int):=(nB n 1 af).bind λr1=>aC.on r1 (λr2 r3=>(iQ n ([61]:arY) (⟨af.tokens,r3⟩:a1)).bind λbu=>aC.on bu (λbr bC=>(fK n 1 0 (⟨af.tokens,bC⟩:a1)).bind λb7=>aC.on b7 (λcP bc=>(iQ n ([116,111]:arY) (⟨af.tokens,bc⟩:a1)).bind λcb=>aC.on cb (λdK cY=>(fK n 1 0 (⟨af.tokens,cY⟩:a1)).bind λcV=>aC.on cV (λen e9=>(iQ n ([109,97,120]:arY) (⟨af.tokens,e9⟩:a1)).bind λe0=>aC.on e0 (λde ea=>(nB n 3 (⟨af.tokens,ea⟩:a1)).bind λft=>aC.on ft (λr26 r27=>(hA depth (⟨af.tokens,r27⟩:a1)).bind λfD=>aC.on fD (λhJ fO=>some (.ret (⟨6,r2.Text,r26.N,cP,en,hJ,[]⟩:Stmt) fO)) (λsI fO=>some (.aK sI fO))) (λsJ r27=>some (.aK sJ r27))) (λox ea=>some (.aK ox ea))) (λQ8 e9=>some (.aK Q8 e9))) (λsF cY=>some (.aK sF cY))) (λmg bc=>some (.aK mg bc))) (λh5 bC=>some (.aK h5 bC))) (λfu r3=>some (.aK fu r3))
def pk:Nat→(Int→a1→Option (aC (List Stmt) Int))×(Int→a1→Option (aC Stmt Int))×(Int→a1→Option (aC Stmt Int))
 | 0=>(λ_ _=>none,λ_ _=>none,λ_ _=>none)
 |m+1=>(DM m ((pk m).1) ((pk m).2.1) ((pk m).2.2),DO m ((pk m).1) ((pk m).2.1) ((pk m).2.2),DY m ((pk m).1) ((pk m).2.1) ((pk m).2.2))
def nG:Int→a1→Option (aC (List Stmt) Int):=(pk n).1
def rn:Int→a1→Option (aC Stmt Int):=(pk n).2.1
def qh:Int→a1→Option (aC Stmt Int):=(pk n).2.2
def zG(n:Nat)(af:a1)(r2:Token)(ct:Int)(aQ:Int):Option (aC Param Int):=some (.ret (⟨r2.Text,aQ⟩:Param) ct)
def zH(af:a1):Option (aC Param Int):=(nB n 1 af).bind λr1=>aC.on r1 (λr2 r3=>(iQ n ([58]:arY) (⟨af.tokens,r3⟩:a1)).bind λbu=>aC.on bu (λbr bC=>(kY n ([105,110,116]:arY) (⟨af.tokens,bC⟩:a1)).bind λb7=>cond b7.1 ( zG n af r2 b7.2 1) ( (kY n ([115,116,114]:arY) (⟨af.tokens,b7.2⟩:a1)).bind λcP=>cond cP.1 ( zG n af r2 cP.2 2) ( (kY n ([98,111,111,108]:arY) (⟨af.tokens,cP.2⟩:a1)).bind λbc=>cond bc.1 ( zG n af r2 bc.2 3) ( (sC n 5 (⟨af.tokens,bc.2⟩:a1)).bind λaS=>aC.on aS (λcb dK=>zG n af r2 bc.2 0) (λQ9 dK=>some (.aK Q9 bc.2)))))) (λh5 bC=>some (.aK h5 bC))) (λfu r3=>some (.aK fu r3))
def uz(af:a1)(br:Token)(Jt:Int)(Ju:List Param):Option (aC a_ Int):=(nG n 0 (⟨af.tokens,Jt⟩:a1)).bind λjw=>aC.on jw (λDe ov=>some (.ret (⟨br.Text,Ju,De⟩:a_) ov)) (λQ' ov=>some (.aK Q' ov))
def Jv(af:a1)(br:Token)(v37:Int)(iP:List Param):Option (aC a_ Int):=(iQ n ([41]:arY) (⟨af.tokens,v37⟩:a1)).bind λum=>aC.on um (λsu lT=>uz n af br lT iP) (λsK lT=>some (.aK sK lT))
def Jw(af:a1)(br:Token)(fj:Int→(List Param)→Option (aC a_ Int))(nA:Int)(v28:List Param):Option (aC a_ Int):=(kY n ([44]:arY) (⟨af.tokens,nA⟩:a1)).bind λfD=>cond fD.1 ( (zH n (⟨af.tokens,fD.2⟩:a1)).bind λhJ=>aC.on hJ (λfO kZ=>av (room (v28.length+([fO]:List Param).length) 24)<|fj kZ (v28++([fO]:List Param))) (λsE kZ=>some (.aK sE kZ))) ( Jv n af br fD.2 v28)
def uA(n:Nat)(af:a1)(br:Token):Nat→Int→(List Param)→Option (aC a_ Int)
 | 0=>λ_ _=>none
 |m+1=>Jw n af br (uA n af br m)
def ro(af:a1):Option (aC a_ Int):=(iQ n ([112,114,111,99]:arY) af).bind λr1=>aC.on r1 (λr2 r3=>(nB n 1 (⟨af.tokens,r3⟩:a1)).bind λbu=>aC.on bu (λbr bC=>(iQ n ([40]:arY) (⟨af.tokens,bC⟩:a1)).bind λb7=>aC.on b7 (λcP bc=>(kY n ([41]:arY) (⟨af.tokens,bc⟩:a1)).bind λcb=>cond (!cb.1) ( (zH n (⟨af.tokens,cb.2⟩:a1)).bind λdK=>aC.on dK (λcY cj=>av (room (([]:List Param).length+([cY]:List Param).length) 24)<|uA n af br n cj (([]:List Param)++([cY]:List Param))) (λQ_ cj=>some (.aK Q_ cj))) ( uz n af br cb.2 ([]:List Param))) (λmg bc=>some (.aK mg bc))) (λh5 bC=>some (.aK h5 bC))) (λfu r3=>some (.aK fu r3))
def Jx(af:a1)(gI:a_):Option (aC Unit (Int×arY×(List Param)×(List Stmt))):=(ro n af).bind λr1=>aC.on r1 (λr2 r3=>some (.ret () (r3,r2.Name,r2.Params,r2.Body))) (λfu r3=>some (.aK fu (r3,gI.Name,gI.Params,gI.Body)))
def Y4(n:Nat)(af:a1):Option (aC Unit Unit):=av (aM (ar0 (((af.tokens.length:Nat):Int)-1)) af.tokens.length)<|some (.aK (.iface 332 (.agg [.int .i64 ((ar1 af.tokens (ar0 (((af.tokens.length:Nat):Int)-1))).lp),.int .i64 6])) ())
def Y5(af:a1):Option (aC Unit Unit):=cond (decide (((af.tokens.length:Nat):Int)=0)) ( some (.aK (.iface 332 (.agg [.int .i64 1,.int .i64 6])) ())) ( Y4 n af)
def Jy(code:Int)(af:a1):Option (aC Unit Unit):=cond (decide (af.at_<((af.tokens.length:Nat):Int))) ( av (aM af.at_ af.tokens.length)<|some (.aK (.iface 332 (.agg [.int .i64 ((ar1 af.tokens (af.at_)).lp),.int .i64 code])) ())) ( Y5 n af)
def DZ(src:arY)(af:a_):Option (Int×Int×arY×(List Param)×(List Stmt)):=(Je n src).bind λr1=>cond (!decide (r1.2.2=0)) (some (r1.2.1,r1.2.2,af.Name,af.Params,af.Body)) ((Jx n (⟨r1.1,0⟩:a1) af).bind λr2=>aC.on r2 (λcI nH=>cond (decide (nH.1<((r1.1.length:Nat):Int))) ((Jy n 5 (⟨r1.1,nH.1⟩:a1)).bind λr3=>aC.on r3 (λcL Ra=>none) (λeU Ra=>(Cw 332 eU).bind λlc=>some (lc.1,lc.2,nH.2.1,nH.2.2.1,nH.2.2.2))) (some (0,0,nH.2.1,nH.2.2.1,nH.2.2.2))) (λeU nH=>(Cw 332 eU).bind λlc=>some (lc.1,lc.2,nH.2.1,nH.2.2.1,nH.2.2.2)))
def qi(n:Nat)(r1:Int×Int×arY×(List Param)×(List Stmt))(v3:Int):Option (a_×Int×Int):=cond (!decide (v3=0)) ( some ((⟨[],[],[]⟩:a_),r1.1,v3)) ( some ((⟨r1.2.2.1,r1.2.2.2.1,r1.2.2.2.2⟩:a_),0,0))
def zI(src:arY):Option (a_×Int×Int):=(DZ n src (⟨[],[],[]⟩:a_)).bind λr1=>cond (decide (r1.2.1=0)) ( (C0 n (⟨r1.2.2.1,r1.2.2.2.1,r1.2.2.2.2⟩:a_)).bind λr2=>qi n r1 r2) ( qi n r1 r1.2.1)
def Rb(n:Nat)(bA:List a_):Option ((List a_)×Bool):=some (bA,true)
def Jz(l:List arY)(am:Int→(List a_)→Option ((List a_)×Bool))(bw:Int)(ba:List a_):Option ((List a_)×Bool):=cond (decide (bw<((l.length:Nat):Int))) ( av (aM bw l.length)<|(zI n (ar1 l bw)).bind λcP=>Option.bind (cond (!(!decide (cP.2.2=0))) (uj n cP.1) (some default)) λbc=>cond (cond (!decide (cP.2.2=0)) true (!(decide (bc=(ar1 l bw))))) ( some (([]:List a_),false)) ( av (room (ba.length+([cP.1]:List a_).length) 64)<|am (ar0 (bw+1)) (ba++([cP.1]:List a_)))) ( Rb n ba)
def zJ(n:Nat)(l:List arY):Nat→Int→(List a_)→Option ((List a_)×Bool)
 | 0=>λ_ _=>none
 |m+1=>Jz n l (zJ n l m)
def JA(l:List arY):Option ((List a_)×Bool):=zJ n l n 0 ([]:List a_)
def Rc(n:Nat)(at_:Int)(dG:List Row):Option (be×Int):=some ((⟨at_,at_,dG⟩:be),0)
def JB(at_:Int)(l:List bG)(am:(List Row)→Int→Option (be×Int))(bw:List Row)(ba:Int):Option (be×Int):=cond (decide (ba<((l.length:Nat):Int))) ( av (aM ba l.length)<|av (room (bw.length+([(⟨(ar1 l ba).Key,[⟨at_,⟨((ar1 l ba).bY).Kind,((ar1 l ba).bY).N,((ar1 l ba).bY).S⟩⟩]⟩:Row)]:List Row).length) 40)<|am (bw++([(⟨(ar1 l ba).Key,[⟨at_,⟨((ar1 l ba).bY).Kind,((ar1 l ba).bY).N,((ar1 l ba).bY).S⟩⟩]⟩:Row)]:List Row)) (ar0 (ba+1))) ( Rc n at_ bw)
def zK(n:Nat)(at_:Int)(l:List bG):Nat→(List Row)→Int→Option (be×Int)
 | 0=>λ_ _=>none
 |m+1=>JB n at_ l (zK n at_ l m)
def D0(l:List bG)(at_:Int):Option (be×Int):=(Dk n l).bind λr1=>cond (cond (cond (!r1) true (decide (at_<0))) true (decide (1099511627776<at_))) ( some ((⟨0,0,[]⟩:be),1)) ( zK n at_ l n ([]:List Row) 0)
def zL(s:arY):Option (dg×Int):=(Dy n (⟨s,0,0⟩:fs)).bind λr1=>cond (!decide (r1.2.2=0)) ( some ((⟨0,⟨0,0,[]⟩,[],[],⟨0,[]⟩,[],[],0⟩:dg),r1.2.2)) ( cond (cond (cond (!decide (r1.2.1=((s.length:Nat):Int))) true (decide (r1.1.gj.Pos<0))) true (decide (1099511627776<r1.1.gj.Pos))) ( some ((⟨0,⟨0,0,[]⟩,[],[],⟨0,[]⟩,[],[],0⟩:dg),5)) ( (JA n r1.1.sources).bind λbh=>cond (!bh.2) ( some ((⟨0,⟨0,0,[]⟩,[],[],⟨0,[]⟩,[],[],0⟩:dg),5)) ( (D0 n r1.1.O9 r1.1.gj.Pos).bind λbr=>cond (!decide (br.2=0)) ( some ((⟨0,⟨0,0,[]⟩,[],[],⟨0,[]⟩,[],[],0⟩:dg),5)) ( (wM n (⟨r1.1.gj.Pos,br.1,bh.1,r1.1.gj.fr,r1.1.gj.Place,r1.1.gj.bz,r1.1.gj.Queue,r1.1.gj.fl⟩:dg)).bind λcn=>cond (!cn) ( some ((⟨0,⟨0,0,[]⟩,[],[],⟨0,[]⟩,[],[],0⟩:dg),5)) ( some ((⟨r1.1.gj.Pos,br.1,bh.1,r1.1.gj.fr,r1.1.gj.Place,r1.1.gj.bz,r1.1.gj.Queue,r1.1.gj.fl⟩:dg),0))))))
def w3(s:arY):Option (dg×Int):=cond (decide (16384<((s.length:Nat):Int))) ( some ((⟨0,⟨0,0,[]⟩,[],[],⟨0,[]⟩,[],[],0⟩:dg),2)) ( (zL n s).bind λr2=>some (r2.1,r2.2))
def Rd(a:dg)(b:dg):ar2:=(wM n a).bind λr1=>Option.bind (cond r1 (wM n b) (some default)) λr2=>Option.bind (cond (cond r1 r2 false) (IF n a) (some default)) λr3=>Option.bind (cond (cond r1 r2 false) (IF n b) (some default)) λbh=>some (cond (cond r1 r2 false) (decide (r3=bh)) false)
def Re(n:Nat)(nI:Expr→Expr→ar2):ar2:=some true
def Rf(nI:Expr→Expr→ar2)(a:Expr)(b:Expr)(am:Int→ar2)(v6:Int):ar2:=cond (decide (v6<((a.au.length:Nat):Int))) ( av (aM v6 a.au.length)<|av (aM v6 b.au.length)<|(nI (ar1 a.au v6) (ar1 b.au v6)).bind λb7=>cond (!b7) ( some false) ( am (ar0 (v6+1)))) ( Re n nI)
def D1(n:Nat)(nI:Expr→Expr→ar2)(a:Expr)(b:Expr):Nat→Int→ar2
 | 0=>λ_=>none
 |m+1=>Rf n nI a b (D1 n nI a b m)
def Rg(nI:Expr→Expr→ar2)(a:Expr)(b:Expr):ar2:=cond (cond (cond (cond (!decide (a.Op=b.Op)) true (!decide (a.N=b.N))) true (!(decide (a.S=b.S)))) true (!decide (((a.au.length:Nat):Int)=((b.au.length:Nat):Int)))) ( some false) ( D1 n nI a b n 0)
def w4:Nat→Expr→Expr→ar2
 | 0=>λ_ _=>none
 |m+1=>Rg m (w4 m)
def Rh(n:Nat)(m6:(List Stmt)→(List Stmt)→ar2):ar2:=some true
def Ri(m6:(List Stmt)→(List Stmt)→ar2)(a:List Stmt)(b:List Stmt)(am:Int→ar2)(v9:Int):ar2:=cond (decide (v9<((a.length:Nat):Int))) ( av (aM v9 a.length)<|av (aM v9 b.length)<|Option.bind (cond (!(cond (cond (!decide ((ar1 a v9).Op=(ar1 b v9).Op)) true (!(decide (((ar1 a v9).Name)=((ar1 b v9).Name))))) true (!decide ((ar1 a v9).Max=(ar1 b v9).Max)))) (w4 n (⟨((ar1 a v9).A).Op,((ar1 a v9).A).N,((ar1 a v9).A).S,((ar1 a v9).A).au⟩:Expr) (⟨((ar1 b v9).A).Op,((ar1 b v9).A).N,((ar1 b v9).A).S,((ar1 b v9).A).au⟩:Expr)) (some default)) λaS=>Option.bind (cond (!(cond (cond (cond (!decide ((ar1 a v9).Op=(ar1 b v9).Op)) true (!(decide (((ar1 a v9).Name)=((ar1 b v9).Name))))) true (!decide ((ar1 a v9).Max=(ar1 b v9).Max))) true (!aS))) (w4 n (⟨((ar1 a v9).B).Op,((ar1 a v9).B).N,((ar1 a v9).B).S,((ar1 a v9).B).au⟩:Expr) (⟨((ar1 b v9).B).Op,((ar1 b v9).B).N,((ar1 b v9).B).S,((ar1 b v9).B).au⟩:Expr)) (some default)) λcb=>Option.bind (cond (!(cond (cond (cond (cond (!decide ((ar1 a v9).Op=(ar1 b v9).Op)) true (!(decide (((ar1 a v9).Name)=((ar1 b v9).Name))))) true (!decide ((ar1 a v9).Max=(ar1 b v9).Max))) true (!aS)) true (!cb))) (m6 ((ar1 a v9).Body) ((ar1 b v9).Body)) (some default)) λdK=>Option.bind (cond (!(cond (cond (cond (cond (cond (!decide ((ar1 a v9).Op=(ar1 b v9).Op)) true (!(decide (((ar1 a v9).Name)=((ar1 b v9).Name))))) true (!decide ((ar1 a v9).Max=(ar1 b v9).Max))) true (!aS)) true (!cb)) true (!dK))) (m6 ((ar1 a v9).bK) ((ar1 b v9).bK)) (some default)) λcY=>cond (cond (cond (cond (cond (cond (cond (!decide ((ar1 a v9).Op=(ar1 b v9).Op)) true (!(decide (((ar1 a v9).Name)=((ar1 b v9).Name))))) true (!decide ((ar1 a v9).Max=(ar1 b v9).Max))) true (!aS)) true (!cb)) true (!dK)) true (!cY)) ( some false) ( am (ar0 (v9+1)))) ( Rh n m6)
def D2(n:Nat)(m6:(List Stmt)→(List Stmt)→ar2)(a:List Stmt)(b:List Stmt):Nat→Int→ar2
 | 0=>λ_=>none
 |m+1=>Ri n m6 a b (D2 n m6 a b m)
def Rj(m6:(List Stmt)→(List Stmt)→ar2)(a:List Stmt)(b:List Stmt):ar2:=cond (!decide (((a.length:Nat):Int)=((b.length:Nat):Int))) ( some false) ( D2 n m6 a b n 0)
def zM:Nat→(List Stmt)→(List Stmt)→ar2
 | 0=>λ_ _=>none
 |m+1=>Rj m (zM m)
def Rk(a:a_)(b:a_):ar2:=(zM n a.Body b.Body).bind λb7=>some b7
def Rl(a:a_)(b:a_)(am:Int→ar2)(v5:Int):ar2:=cond (decide (v5<((a.Params.length:Nat):Int))) ( av (aM v5 a.Params.length)<|av (aM v5 b.Params.length)<|cond (!((decide ((ar1 a.Params v5).Name=(ar1 b.Params v5).Name))&&((decide ((ar1 a.Params v5).fS=(ar1 b.Params v5).fS))&&true))) ( some false) ( am (ar0 (v5+1)))) ( Rk n a b)
def D3(n:Nat)(a:a_)(b:a_):Nat→Int→ar2
 | 0=>λ_=>none
 |m+1=>Rl n a b (D3 n a b m)
def JC(a:a_)(b:a_):ar2:=cond (cond (!(decide (a.Name=b.Name))) true (!decide (((a.Params.length:Nat):Int)=((b.Params.length:Nat):Int)))) ( some false) ( D3 n a b n 0)
def Rm(n:Nat):ar2:=some true
def JD(a:List a_)(b:List a_)(am:Int→ar2)(v6:Int):ar2:=cond (decide (v6<((a.length:Nat):Int))) ( av (aM v6 a.length)<|av (aM v6 b.length)<|(JC n (ar1 a v6) (ar1 b v6)).bind λb7=>cond (!b7) ( some false) ( am (ar0 (v6+1)))) ( Rm n)
def zN(n:Nat)(a:List a_)(b:List a_):Nat→Int→ar2
 | 0=>λ_=>none
 |m+1=>JD n a b (zN n a b m)
def JE(a:List a_)(b:List a_):ar2:=cond (!decide (((a.length:Nat):Int)=((b.length:Nat):Int))) ( some false) ( zN n a b n 0)
def Rn(n:Nat):ar2:=some true
def Ro(n:Nat)(am:Int→ar2)(v12:Int)(a:be)(b:be):ar2:=am (ar0 (v12+1))
def JF(am:Int→ar2)(v12:Int)(a:be)(b:be)(hy:Int→ar2)(bQ:Int):ar2:=cond (decide (bQ<((((ar1 a.Rows v12).ce).length:Nat):Int))) ( av (aM bQ ((ar1 a.Rows v12).ce).length)<|av (aM bQ ((ar1 b.Rows v12).ce).length)<|cond (!((decide ((((ar1 a.Rows v12).ce).getD (bQ).toNat default).fY=(((ar1 b.Rows v12).ce).getD (bQ).toNat default).fY))&&((decide (((((ar1 a.Rows v12).ce).getD (bQ).toNat default).bY).Kind=((((ar1 b.Rows v12).ce).getD (bQ).toNat default).bY).Kind))&&((decide (((((ar1 a.Rows v12).ce).getD (bQ).toNat default).bY).N=((((ar1 b.Rows v12).ce).getD (bQ).toNat default).bY).N))&&((decide (((((ar1 a.Rows v12).ce).getD (bQ).toNat default).bY).S=((((ar1 b.Rows v12).ce).getD (bQ).toNat default).bY).S))&&true))))) ( some false) ( hy (ar0 (bQ+1)))) ( Ro n am v12 a b)
def zO(n:Nat)(am:Int→ar2)(v12:Int)(a:be)(b:be):Nat→Int→ar2
 | 0=>λ_=>none
 |m+1=>JF n am v12 a b (zO n am v12 a b m)
def JG(a:be)(b:be)(am:Int→ar2)(v12:Int):ar2:=cond (decide (v12<((a.Rows.length:Nat):Int))) ( av (aM v12 a.Rows.length)<|av (aM v12 b.Rows.length)<|cond (cond (!(decide (((ar1 a.Rows v12).Key)=((ar1 b.Rows v12).Key)))) true (!decide (((((ar1 a.Rows v12).ce).length:Nat):Int)=((((ar1 b.Rows v12).ce).length:Nat):Int)))) ( some false) ( zO n am v12 a b n 0)) ( Rn n)
def uB(n:Nat)(a:be)(b:be):Nat→Int→ar2
 | 0=>λ_=>none
 |m+1=>JG n a b (uB n a b m)
def JH(a:be)(b:be):ar2:=cond (cond (cond (!decide (a.dI=b.dI)) true (!decide (a.c_=b.c_))) true (!decide (((a.Rows.length:Nat):Int)=((b.Rows.length:Nat):Int)))) ( some false) ( uB n a b n 0)
def Rp(n:Nat):ar2:=some true
def JI(a:cp)(b:cp)(am:Int→ar2)(v5:Int):ar2:=cond (decide (v5<((a.aV.length:Nat):Int))) ( av (aM v5 a.aV.length)<|av (aM v5 b.aV.length)<|cond (!((decide ((ar1 a.aV v5).Id=(ar1 b.aV v5).Id))&&((decide ((ar1 a.aV v5).eJ=(ar1 b.aV v5).eJ))&&((decide ((ar1 a.aV v5).Node=(ar1 b.aV v5).Node))&&((decide ((ar1 a.aV v5).fN=(ar1 b.aV v5).fN))&&((decide ((ar1 a.aV v5).ii=(ar1 b.aV v5).ii))&&true)))))) ( some false) ( am (ar0 (v5+1)))) ( Rp n)
def zP(n:Nat)(a:cp)(b:cp):Nat→Int→ar2
 | 0=>λ_=>none
 |m+1=>JI n a b (zP n a b m)
def JJ(a:cp)(b:cp):ar2:=cond (cond (!decide (a.Version=b.Version)) true (!decide (((a.aV.length:Nat):Int)=((b.aV.length:Nat):Int)))) ( some false) ( zP n a b n 0)
def Rq(n:Nat):ar2:=some true
def JK(a:List bz)(b:List bz)(am:Int→ar2)(v5:Int):ar2:=cond (decide (v5<((a.length:Nat):Int))) ( av (aM v5 a.length)<|av (aM v5 b.length)<|cond (!((decide ((ar1 a v5).Key=(ar1 b v5).Key))&&((decide ((ar1 a v5).Count=(ar1 b v5).Count))&&true))) ( some false) ( am (ar0 (v5+1)))) ( Rq n)
def zQ(n:Nat)(a:List bz)(b:List bz):Nat→Int→ar2
 | 0=>λ_=>none
 |m+1=>JK n a b (zQ n a b m)
def JL(a:List bz)(b:List bz):ar2:=cond (!decide (((a.length:Nat):Int)=((b.length:Nat):Int))) ( some false) ( zQ n a b n 0)
def Rr(n:Nat):ar2:=some true
def JM(a:List arY)(b:List arY)(am:Int→ar2)(v5:Int):ar2:=cond (decide (v5<((a.length:Nat):Int))) ( av (aM v5 a.length)<|av (aM v5 b.length)<|cond (!(decide ((ar1 a v5)=(ar1 b v5)))) ( some false) ( am (ar0 (v5+1)))) ( Rr n)
def zR(n:Nat)(a:List arY)(b:List arY):Nat→Int→ar2
 | 0=>λ_=>none
 |m+1=>JM n a b (zR n a b m)
def D4(a:List arY)(b:List arY):ar2:=cond (!decide (((a.length:Nat):Int)=((b.length:Nat):Int))) ( some false) ( zR n a b n 0)
def Rs(a:eT)(b:eT):ar2:=Option.bind (cond (a.eg == b.eg) (D4 n a.Reads b.Reads) (some default)) λr1=>Option.bind (cond (cond (a.eg == b.eg) r1 false) (D4 n a.dw b.dw) (some default)) λr2=>some (cond (cond (a.eg == b.eg) r1 false) r2 false)
def Rt(n:Nat):ar2:=some true
def JN(a:Request)(b:Request)(am:Int→ar2)(v6:Int):ar2:=cond (decide (v6<((a.au.length:Nat):Int))) ( av (aM v6 a.au.length)<|av (aM v6 b.au.length)<|cond (!((decide ((ar1 a.au v6).Kind=(ar1 b.au v6).Kind))&&((decide ((ar1 a.au v6).N=(ar1 b.au v6).N))&&((decide ((ar1 a.au v6).S=(ar1 b.au v6).S))&&true)))) ( some false) ( am (ar0 (v6+1)))) ( Rt n)
def zS(n:Nat)(a:Request)(b:Request):Nat→Int→ar2
 | 0=>λ_=>none
 |m+1=>JN n a b (zS n a b m)
def JO(a:Request)(b:Request):ar2:=Option.bind (cond (!(cond (cond (cond (cond (!decide (a.Client=b.Client)) true (!decide (a.Seq=b.Seq))) true (!(decide (a.a_=b.a_)))) true (!(a.ff == b.ff))) true (!decide (((a.au.length:Nat):Int)=((b.au.length:Nat):Int))))) (Rs n a.bD b.bD) (some default)) λr1=>cond (cond (cond (cond (cond (cond (!decide (a.Client=b.Client)) true (!decide (a.Seq=b.Seq))) true (!(decide (a.a_=b.a_)))) true (!(a.ff == b.ff))) true (!decide (((a.au.length:Nat):Int)=((b.au.length:Nat):Int)))) true (!r1)) ( some false) ( zS n a b n 0)
def Ru(n:Nat):ar2:=some true
def JP(a:Outcome)(b:Outcome)(am:Int→ar2)(v5:Int):ar2:=cond (decide (v5<((a.Out.length:Nat):Int))) ( av (aM v5 a.Out.length)<|av (aM v5 b.Out.length)<|cond (!((decide ((ar1 a.Out v5).Kind=(ar1 b.Out v5).Kind))&&((decide ((ar1 a.Out v5).N=(ar1 b.Out v5).N))&&((decide ((ar1 a.Out v5).S=(ar1 b.Out v5).S))&&true)))) ( some false) ( am (ar0 (v5+1)))) ( Ru n)
def zT(n:Nat)(a:Outcome)(b:Outcome):Nat→Int→ar2
 | 0=>λ_=>none
 |m+1=>JP n a b (zT n a b m)
def D5(a:Outcome)(b:Outcome):ar2:=cond (cond (cond (!decide (a.Status=b.Status)) true (!decide (a.Code=b.Code))) true (!decide (((a.Out.length:Nat):Int)=((b.Out.length:Nat):Int)))) ( some false) ( zT n a b n 0)
def Rv(a:dS)(b:dS):ar2:=Option.bind (cond (cond (decide (a.Client=b.Client)) (decide (a.Seq=b.Seq)) false) (D5 n a.Outcome b.Outcome) (some default)) λr1=>some (cond (cond (decide (a.Client=b.Client)) (decide (a.Seq=b.Seq)) false) r1 false)
def Rw(n:Nat):ar2:=some true
def JQ(a:List dS)(b:List dS)(am:Int→ar2)(v6:Int):ar2:=cond (decide (v6<((a.length:Nat):Int))) ( av (aM v6 a.length)<|av (aM v6 b.length)<|(Rv n (ar1 a v6) (ar1 b v6)).bind λb7=>cond (!b7) ( some false) ( am (ar0 (v6+1)))) ( Rw n)
def zU(n:Nat)(a:List dS)(b:List dS):Nat→Int→ar2
 | 0=>λ_=>none
 |m+1=>JQ n a b (zU n a b m)
def JR(a:List dS)(b:List dS):ar2:=cond (!decide (((a.length:Nat):Int)=((b.length:Nat):Int))) ( some false) ( zU n a b n 0)
def Rx(n:Nat):ar2:=some true
def JS(a:List bH)(b:List bH)(am:Int→ar2)(v10:Int):ar2:=cond (decide (v10<((a.length:Nat):Int))) ( av (aM v10 a.length)<|av (aM v10 b.length)<|av ((!decide ((ar1 a v10).Client=(ar1 b v10).Client))||aM v10 a.length)<|av ((!decide ((ar1 a v10).Client=(ar1 b v10).Client))||aM v10 b.length)<|av ((cond (!decide ((ar1 a v10).Client=(ar1 b v10).Client)) true (!decide ((ar1 a v10).Next=(ar1 b v10).Next)))||aM v10 a.length)<|av ((cond (!decide ((ar1 a v10).Client=(ar1 b v10).Client)) true (!decide ((ar1 a v10).Next=(ar1 b v10).Next)))||aM v10 b.length)<|Option.bind (cond (!(cond (!decide ((ar1 a v10).Client=(ar1 b v10).Client)) true (!decide ((ar1 a v10).Next=(ar1 b v10).Next)))) (JR n ((ar1 a v10).cK) ((ar1 b v10).cK)) (some default)) λcV=>cond (cond (cond (!decide ((ar1 a v10).Client=(ar1 b v10).Client)) true (!decide ((ar1 a v10).Next=(ar1 b v10).Next))) true (!cV)) ( some false) ( am (ar0 (v10+1)))) ( Rx n)
def zV(n:Nat)(a:List bH)(b:List bH):Nat→Int→ar2
 | 0=>λ_=>none
 |m+1=>JS n a b (zV n a b m)
def JT(a:List bH)(b:List bH):ar2:=cond (!decide (((a.length:Nat):Int)=((b.length:Nat):Int))) ( some false) ( zV n a b n 0)
def Ry(n:Nat):ar2:=some true
def JU(a:dg)(b:dg)(am:Int→ar2)(v11:Int):ar2:=cond (decide (v11<((a.Queue.length:Nat):Int))) ( av (aM v11 a.Queue.length)<|av (aM v11 b.Queue.length)<|(JO n (ar1 a.Queue v11) (ar1 b.Queue v11)).bind λdK=>cond (!dK) ( some false) ( am (ar0 (v11+1)))) ( Ry n)
def zW(n:Nat)(a:dg)(b:dg):Nat→Int→ar2
 | 0=>λ_=>none
 |m+1=>JU n a b (zW n a b m)
def zX(a:dg)(b:dg):ar2:=Option.bind (cond (!(cond (!decide (a.Pos=b.Pos)) true (!decide (a.fl=b.fl)))) (JH n a.be b.be) (some default)) λr1=>Option.bind (cond (!(cond (cond (!decide (a.Pos=b.Pos)) true (!decide (a.fl=b.fl))) true (!r1))) (JE n a.fk b.fk) (some default)) λr2=>Option.bind (cond (!(cond (cond (cond (!decide (a.Pos=b.Pos)) true (!decide (a.fl=b.fl))) true (!r1)) true (!r2))) (JT n a.fr b.fr) (some default)) λr3=>Option.bind (cond (!(cond (cond (cond (cond (!decide (a.Pos=b.Pos)) true (!decide (a.fl=b.fl))) true (!r1)) true (!r2)) true (!r3))) (JJ n a.Place b.Place) (some default)) λbh=>Option.bind (cond (!(cond (cond (cond (cond (cond (!decide (a.Pos=b.Pos)) true (!decide (a.fl=b.fl))) true (!r1)) true (!r2)) true (!r3)) true (!bh))) (JL n a.bz b.bz) (some default)) λbu=>cond (cond (cond (cond (cond (cond (cond (cond (!decide (a.Pos=b.Pos)) true (!decide (a.fl=b.fl))) true (!r1)) true (!r2)) true (!r3)) true (!bh)) true (!bu)) true (!decide (((a.Queue.length:Nat):Int)=((b.Queue.length:Nat):Int)))) ( some false) ( zW n a b n 0)
def JV:ar2:=(YZ n (⟨0,⟨0,0,[]⟩,[],[],⟨0,[⟨1,[],1,0,[]⟩]⟩,[],[],0⟩:dg)).bind λr1=>(w3 n r1.1).bind λr2=>Option.bind (cond (cond (decide (r1.1=([0,0,0,0,0,1,2,0,2,0,0,0,0,0]:arY))) (decide (r1.2=0)) false) (zX n r2.1 (⟨0,⟨0,0,[]⟩,[],[],⟨0,[⟨1,[],1,0,[]⟩]⟩,[],[],0⟩:dg)) (some default)) λr3=>Option.bind (cond (cond (cond (cond (decide (r1.1=([0,0,0,0,0,1,2,0,2,0,0,0,0,0]:arY))) (decide (r1.2=0)) false) r3 false) (decide (r2.2=0)) false) (Rd n (⟨2,⟨2,2,[⟨[120],[⟨2,⟨1,1,[]⟩⟩]⟩]⟩,[],[],⟨0,[⟨1,[],1,0,[]⟩]⟩,[],[],0⟩:dg) (⟨2,⟨1,2,[⟨[119],[⟨1,⟨1,1,[]⟩⟩,⟨2,⟨0,0,[]⟩⟩]⟩,⟨[120],[⟨1,⟨1,1,[]⟩⟩]⟩]⟩,[],[],⟨0,[⟨1,[],1,0,[]⟩]⟩,[],[],0⟩:dg)) (some default)) λbh=>Option.bind (cond (cond (cond (cond (cond (decide (r1.1=([0,0,0,0,0,1,2,0,2,0,0,0,0,0]:arY))) (decide (r1.2=0)) false) r3 false) (decide (r2.2=0)) false) bh false) (Rd n (⟨2,⟨2,2,[⟨[120],[⟨2,⟨1,1,[]⟩⟩]⟩]⟩,[],[],⟨0,[⟨1,[],1,0,[]⟩]⟩,[],[],0⟩:dg) (⟨0,⟨0,0,[]⟩,[],[],⟨0,[⟨1,[],1,0,[]⟩]⟩,[],[],0⟩:dg)) (some default)) λbu=>some (cond (cond (cond (cond (cond (decide (r1.1=([0,0,0,0,0,1,2,0,2,0,0,0,0,0]:arY))) (decide (r1.2=0)) false) r3 false) (decide (r2.2=0)) false) bh false) (!bu) false)
def Rz(n:Nat)(k:arY):ar2:=some (cond (decide (1≤((k.length:Nat):Int))) (decide (((k.length:Nat):Int)≤24)) false)
def JW(k:arY)(am:Int→ar2)(v3:Int):ar2:=cond (decide (v3<((k.length:Nat):Int))) ( av (aM v3 k.length)<|cond (cond (cond (cond (cond (cond (cond (decide ((((k.getD (v3).toNat 0).toNat:Nat):Int)<97)) true (decide (122<(((k.getD (v3).toNat 0).toNat:Nat):Int)))) (cond (decide ((((k.getD (v3).toNat 0).toNat:Nat):Int)<48)) true (decide (57<(((k.getD (v3).toNat 0).toNat:Nat):Int)))) false) (!decide ((((k.getD (v3).toNat 0).toNat:Nat):Int)=47)) false) (!decide ((((k.getD (v3).toNat 0).toNat:Nat):Int)=46)) false) (!decide ((((k.getD (v3).toNat 0).toNat:Nat):Int)=95)) false) (!decide ((((k.getD (v3).toNat 0).toNat:Nat):Int)=45)) false) ( some false) ( am (ar0 (v3+1)))) ( Rz n k)
def zY(n:Nat)(k:arY):Nat→Int→ar2
 | 0=>λ_=>none
 |m+1=>JW n k (zY n k m)
def w5(k:arY):ar2:=zY n k n 0
def Y6(n:Nat):ar2:=some true
def RA(s:arY)(am:Int→ar2)(v5:Int):ar2:=cond (decide (v5<((s.length:Nat):Int))) ( av (aM v5 s.length)<|av ((decide ((((s.getD (v5).toNat 0).toNat:Nat):Int)<32))||aM v5 s.length)<|cond (cond (decide ((((s.getD (v5).toNat 0).toNat:Nat):Int)<32)) true (decide (126<(((s.getD (v5).toNat 0).toNat:Nat):Int)))) ( some false) ( am (ar0 (v5+1)))) ( Y6 n)
def D6(n:Nat)(s:arY):Nat→Int→ar2
 | 0=>λ_=>none
 |m+1=>RA n s (D6 n s m)
def D7(s:arY):ar2:=cond (decide (64<((s.length:Nat):Int))) ( some false) ( D6 n s n 0)
def uC(v:bk):ar2:=cond (decide (v.Kind=0)) ( some (cond (decide (v.N=0)) (decide (v.S=([]:arY))) false)) ( cond (decide (v.Kind=1)) ( some (decide (v.S=([]:arY)))) ( Option.bind (cond (cond (decide (v.Kind=2)) (decide (v.N=0)) false) (D7 n v.S) (some default)) λr3=>some (cond (cond (decide (v.Kind=2)) (decide (v.N=0)) false) r3 false)))
def RB(v:bk):ar2:=(uC n v).bind λr1=>some r1
def RC(n:Nat):ar2:=some true
def JX(floor:Int)(last:Int)(ar:Row)(am:Int→ar2)(v9:Int):ar2:=cond (decide (v9<((ar.ce.length:Nat):Int))) ( av (aM v9 ar.ce.length)<|(RB n (⟨((ar1 ar.ce v9).bY).Kind,((ar1 ar.ce v9).bY).N,((ar1 ar.ce v9).bY).S⟩:bk)).bind λbc=>cond (cond (cond (!bc) true (decide ((ar1 ar.ce v9).fY<floor))) true (decide (last<(ar1 ar.ce v9).fY))) ( some false) ( av (!(decide (0<v9))||aM (ar0 (v9-1)) ar.ce.length)<|av (!(decide (0<v9))||((decide ((ar1 ar.ce v9).fY≤(ar1 ar.ce (ar0 (v9-1))).fY))||aM (ar0 (v9-1)) ar.ce.length))<|cond (cond (decide (0<v9)) (cond (decide ((ar1 ar.ce v9).fY≤(ar1 ar.ce (ar0 (v9-1))).fY)) true ((decide (((ar1 ar.ce v9).bY).Kind=((ar1 ar.ce (ar0 (v9-1))).bY).Kind))&&((decide (((ar1 ar.ce v9).bY).N=((ar1 ar.ce (ar0 (v9-1))).bY).N))&&((decide (((ar1 ar.ce v9).bY).S=((ar1 ar.ce (ar0 (v9-1))).bY).S))&&true)))) false) ( some false) ( am (ar0 (v9+1))))) ( RC n)
def zZ(n:Nat)(floor:Int)(last:Int)(ar:Row):Nat→Int→ar2
 | 0=>λ_=>none
 |m+1=>JX n floor last ar (zZ n floor last ar m)
def JY(ar:Row)(floor:Int)(last:Int):ar2:=(w5 n ar.Key).bind λr1=>av ((cond (!r1) true (decide (((ar.ce.length:Nat):Int)=0)))||aM 0 ar.ce.length)<|cond (cond (cond (!r1) true (decide (((ar.ce.length:Nat):Int)=0))) true (decide (((ar.ce.getD 0 default).bY).Kind=0))) ( some false) ( zZ n floor last ar n 0)
def RD(n:Nat):ar2:=some true
def JZ(s:be)(am:Int→ar2)(bw:Int):ar2:=cond (decide (bw<((s.Rows.length:Nat):Int))) ( av (aM bw s.Rows.length)<|(JY n (ar1 s.Rows bw) s.dI s.c_).bind λb7=>av ((!b7)||(!(decide (0<bw))||aM (ar0 (bw-1)) s.Rows.length))<|av ((!b7)||(!(decide (0<bw))||aM bw s.Rows.length))<|cond (cond (!b7) true (cond (decide (0<bw)) (!(Op.bytesLess ((ar1 s.Rows (ar0 (bw-1))).Key) ((ar1 s.Rows bw).Key))) false)) ( some false) ( am (ar0 (bw+1)))) ( RD n)
def z1(n:Nat)(s:be):Nat→Int→ar2
 | 0=>λ_=>none
 |m+1=>JZ n s (z1 n s m)
def J0(s:be):ar2:=cond (cond (cond (decide (s.dI<0)) true (decide (s.c_<s.dI))) true (decide (1099511627776<s.c_))) ( some false) ( z1 n s n 0)
def RE(n:Nat):ar2:=some true
def J1(s:arY)(am:Int→ar2)(v5:Int):ar2:=cond (decide (v5<((s.length:Nat):Int))) ( av (aM v5 s.length)<|av ((decide ((((s.getD (v5).toNat 0).toNat:Nat):Int)<33))||aM v5 s.length)<|cond (cond (decide ((((s.getD (v5).toNat 0).toNat:Nat):Int)<33)) true (decide (126<(((s.getD (v5).toNat 0).toNat:Nat):Int)))) ( some false) ( am (ar0 (v5+1)))) ( RE n)
def z6(n:Nat)(s:arY):Nat→Int→ar2
 | 0=>λ_=>none
 |m+1=>J1 n s (z6 n s m)
def D8(s:arY):ar2:=cond (decide (24<((s.length:Nat):Int))) ( some false) ( z6 n s n 0)
def J2(x:Part)(next:arY)(last:Bool):ar2:=cond (decide (x.fN=0)) ( some (decide (x.ii=([]:arY)))) ( Option.bind (cond (cond (cond (decide (1≤x.fN)) (decide (x.fN≤16)) false) (!decide (x.fN=x.Node)) false) (D8 n x.ii) (some default)) λr2=>some (cond (cond (cond (cond (cond (decide (1≤x.fN)) (decide (x.fN≤16)) false) (!decide (x.fN=x.Node)) false) r2 false) (!(Op.bytesLess x.ii x.eJ)) false) (cond last true (Op.bytesLess x.ii next)) false))
def RF(n:Nat):ar2:=some true
def RG(n:Nat)(am:Int→ar2)(p:cp)(bA:Int):ar2:=am (ar0 (bA+1))
def J3(am:Int→ar2)(p:cp)(bA:Int)(Y7:Int→ar2)(v24:Int):ar2:=cond (decide (v24<bA)) ( av (aM v24 p.aV.length)<|cond (decide ((ar1 p.aV v24).Id=(ar1 p.aV bA).Id)) ( some false) ( Y7 (ar0 (v24+1)))) ( RG n am p bA)
def w6(n:Nat)(am:Int→ar2)(p:cp)(bA:Int):Nat→Int→ar2
 | 0=>λ_=>none
 |m+1=>J3 n am p bA (w6 n am p bA m)
def D9(am:Int→ar2)(p:cp)(bA:Int)(bQ:arY):ar2:=(D8 n ((ar1 p.aV bA).eJ)).bind λe9=>av ((!e9)||(!(decide (0<bA))||aM (ar0 (bA-1)) p.aV.length))<|Option.bind (cond (!(cond (cond (cond (cond (cond (!e9) true (cond (decide (0<bA)) ((Op.bytesLess ((ar1 p.aV bA).eJ) ((ar1 p.aV (ar0 (bA-1))).eJ))||(decide (((ar1 p.aV bA).eJ)=((ar1 p.aV (ar0 (bA-1))).eJ)))) false)) true (decide ((ar1 p.aV bA).Id<1))) true (decide (1099511627776<(ar1 p.aV bA).Id))) true (decide ((ar1 p.aV bA).Node<1))) true (decide (16<(ar1 p.aV bA).Node)))) (J2 n (ar1 p.aV bA) bQ (decide ((ar0 (bA+1))=((p.aV.length:Nat):Int)))) (some default)) λe0=>cond (cond (cond (cond (cond (cond (cond (!e9) true (cond (decide (0<bA)) ((Op.bytesLess ((ar1 p.aV bA).eJ) ((ar1 p.aV (ar0 (bA-1))).eJ))||(decide (((ar1 p.aV bA).eJ)=((ar1 p.aV (ar0 (bA-1))).eJ)))) false)) true (decide ((ar1 p.aV bA).Id<1))) true (decide (1099511627776<(ar1 p.aV bA).Id))) true (decide ((ar1 p.aV bA).Node<1))) true (decide (16<(ar1 p.aV bA).Node))) true (!e0)) ( some false) ( w6 n am p bA n 0)
def J4(p:cp)(am:Int→ar2)(bA:Int):ar2:=cond (decide (bA<((p.aV.length:Nat):Int))) ( av (aM bA p.aV.length)<|cond (decide ((ar0 (bA+1))<((p.aV.length:Nat):Int))) ( av (aM (ar0 (bA+1)) p.aV.length)<|D9 n am p bA ((ar1 p.aV (ar0 (bA+1))).eJ)) ( D9 n am p bA ([]:arY))) ( RF n)
def z7(n:Nat)(p:cp):Nat→Int→ar2
 | 0=>λ_=>none
 |m+1=>J4 n p (z7 n p m)
def D'(p:cp):ar2:=av ((cond (cond (cond (decide (p.Version<0)) true (decide (1099511627776<p.Version))) true (decide (((p.aV.length:Nat):Int)<1))) true (decide (16<((p.aV.length:Nat):Int))))||aM 0 p.aV.length)<|cond (cond (cond (cond (cond (decide (p.Version<0)) true (decide (1099511627776<p.Version))) true (decide (((p.aV.length:Nat):Int)<1))) true (decide (16<((p.aV.length:Nat):Int)))) true (!(decide (((p.aV.getD 0 default).eJ)=([]:arY))))) ( some false) ( z7 n p n 0)
def RH(n:Nat)(l:List bz):ar2:=some (decide (((l.length:Nat):Int)≤32))
def J5(l:List bz)(am:Int→ar2)(ba:Int):ar2:=cond (decide (ba<((l.length:Nat):Int))) ( av (aM ba l.length)<|(w5 n ((ar1 l ba).Key)).bind λcP=>av ((!cP)||aM ba l.length)<|av ((cond (!cP) true (decide ((ar1 l ba).Count<1)))||aM ba l.length)<|av ((cond (cond (!cP) true (decide ((ar1 l ba).Count<1))) true (decide (1099511627776<(ar1 l ba).Count)))||(!(decide (0<ba))||aM ba l.length))<|av ((cond (cond (!cP) true (decide ((ar1 l ba).Count<1))) true (decide (1099511627776<(ar1 l ba).Count)))||(!(decide (0<ba))||aM (ar0 (ba-1)) l.length))<|cond (cond (cond (cond (!cP) true (decide ((ar1 l ba).Count<1))) true (decide (1099511627776<(ar1 l ba).Count))) true (cond (decide (0<ba)) ((Op.bytesLess ((ar1 l ba).Key) ((ar1 l (ar0 (ba-1))).Key))||(decide (((ar1 l ba).Key)=((ar1 l (ar0 (ba-1))).Key)))) false)) ( some false) ( am (ar0 (ba+1)))) ( RH n l)
def z8(n:Nat)(l:List bz):Nat→Int→ar2
 | 0=>λ_=>none
 |m+1=>J5 n l (z8 n l m)
def J6(l:List bz):ar2:=z8 n l n 0
def RI(n:Nat)(l:List bk):ar2:=some (decide (((l.length:Nat):Int)≤16))
def J7(l:List bk)(am:Int→ar2)(v5:Int):ar2:=cond (decide (v5<((l.length:Nat):Int))) ( av (aM v5 l.length)<|(uC n (ar1 l v5)).bind λbC=>av ((!bC)||aM v5 l.length)<|cond (cond (!bC) true (decide ((ar1 l v5).Kind=0))) ( some false) ( am (ar0 (v5+1)))) ( RI n l)
def w7(n:Nat)(l:List bk):Nat→Int→ar2
 | 0=>λ_=>none
 |m+1=>J7 n l (w7 n l m)
def RJ(l:List bk):ar2:=w7 n l n 0
def D_(o:Outcome):ar2:=cond (decide (o.Status=1)) ( Option.bind (cond (decide (o.Code=0)) (RJ n o.Out) (some default)) λr2=>some (cond (decide (o.Code=0)) r2 false)) ( some (cond (cond (cond (decide (o.Status=2)) (decide (0≤o.Code)) false) (decide (o.Code≤1009)) false) (decide (((o.Out.length:Nat):Int)=0)) false))
def Ea(n:Nat)(next:Int):ar3:=some (cond (decide ((ar0 (next-1))<8)) (ar0 (next-1)) 8)
def RK(n:Nat):ar2:=some true
def J8(s:bH)(am:Int→ar2)(v6:Int):ar2:=cond (decide (v6<((s.cK.length:Nat):Int))) ( av (aM v6 s.cK.length)<|Option.bind (cond (!(cond (!decide ((ar1 s.cK v6).Client=s.Client)) true (!decide ((ar1 s.cK v6).Seq=(ar0 (s.Next-(ar0 (((s.cK.length:Nat):Int)-v6)))))))) (D_ n (⟨((ar1 s.cK v6).Outcome).Status,((ar1 s.cK v6).Outcome).Code,((ar1 s.cK v6).Outcome).Out⟩:Outcome)) (some default)) λcn=>cond (cond (cond (!decide ((ar1 s.cK v6).Client=s.Client)) true (!decide ((ar1 s.cK v6).Seq=(ar0 (s.Next-(ar0 (((s.cK.length:Nat):Int)-v6))))))) true (!cn)) ( some false) ( am (ar0 (v6+1)))) ( RK n)
def z'(n:Nat)(s:bH):Nat→Int→ar2
 | 0=>λ_=>none
 |m+1=>J8 n s (z' n s m)
def J9(s:bH):ar2:=Option.bind (cond (!(cond (cond (cond (decide (s.Client<1)) true (decide (32<s.Client))) true (decide (s.Next<1))) true (decide (1099511627776<s.Next)))) (Ea n s.Next) (some default)) λr1=>cond (cond (cond (cond (cond (decide (s.Client<1)) true (decide (32<s.Client))) true (decide (s.Next<1))) true (decide (1099511627776<s.Next))) true (!decide (((s.cK.length:Nat):Int)=r1))) ( some false) ( z' n s n 0)
def RL(n:Nat):ar2:=some true
def J'(l:List bH)(am:Int→ar2)(v6:Int):ar2:=cond (decide (v6<((l.length:Nat):Int))) ( av (aM v6 l.length)<|(J9 n (ar1 l v6)).bind λcn=>av ((!cn)||(!(decide (0<v6))||aM v6 l.length))<|av ((!cn)||(!(decide (0<v6))||aM (ar0 (v6-1)) l.length))<|cond (cond (!cn) true (cond (decide (0<v6)) (decide ((ar1 l v6).Client≤(ar1 l (ar0 (v6-1))).Client)) false)) ( some false) ( am (ar0 (v6+1)))) ( RL n)
def z_(n:Nat)(l:List bH):Nat→Int→ar2
 | 0=>λ_=>none
 |m+1=>J' n l (z_ n l m)
def Eb(l:List bH):ar2:=z_ n l n 0
def RM(n:Nat):Option (List arY):=some ([([112,114,111,99]:arY),([108,101,116]:arY),([112,117,116]:arY),([100,101,108,101,116,101]:arY),([105,102]:arY),([101,108,115,101]:arY),([102,111,114]:arY),([116,111]:arY),([109,97,120]:arY),([101,109,105,116]:arY),([97,98,111,114,116]:arY),([110,111,116]:arY),([97,110,100]:arY),([111,114]:arY),([105,110,116]:arY),([115,116,114]:arY),([98,111,111,108]:arY),([116,101,120,116]:arY),([108,101,110]:arY),([103,101,116,105,110,116]:arY),([103,101,116,115,116,114]:arY),([104,97,115]:arY),([110,111,119]:arY),([114,97,110,100,111,109]:arY),([110,111,100,101]:arY)]:List arY)
def RN(n:Nat):ar2:=some false
def RO(l:List arY)(s:arY)(am:Int→ar2)(v3:Int):ar2:=cond (decide (v3<((l.length:Nat):Int))) ( av (aM v3 l.length)<|cond (decide ((ar1 l v3)=s)) ( some true) ( am (ar0 (v3+1)))) ( RN n)
def Ec(n:Nat)(l:List arY)(s:arY):Nat→Int→ar2
 | 0=>λ_=>none
 |m+1=>RO n l s (Ec n l s m)
def RP(l:List arY)(s:arY):ar2:=Ec n l s n 0
def Ed(s:arY):ar2:=(RM n).bind λr1=>(RP n r1 s).bind λr2=>some r2
def Aa(n:Nat)(c:Int):ar2:=some (cond (decide (97≤c)) (decide (c≤122)) false)
def RQ(n:Nat)(c:Int):ar2:=some (cond (decide (48≤c)) (decide (c≤57)) false)
def Ee(c:Int):ar2:=(Aa n c).bind λr1=>Option.bind (cond (!r1) (RQ n c) (some default)) λr2=>some (cond (cond r1 true r2) true (decide (c=95)))
def RR(n:Nat)(ba:Int):ar3:=some ba
def RS(s:arY)(am:Int→ar3)(v4:Int):ar3:=av (!(decide (v4<((s.length:Nat):Int)))||aM v4 s.length)<|Option.bind (cond (decide (v4<((s.length:Nat):Int))) (Ee n (((s.getD (v4).toNat 0).toNat:Nat):Int)) (some default)) λbr=>cond (cond (decide (v4<((s.length:Nat):Int))) br false) ( am (ar0 (v4+1))) ( RR n v4)
def Ef(n:Nat)(s:arY):Nat→Int→ar3
 | 0=>λ_=>none
 |m+1=>RS n s (Ef n s m)
def J_(s:arY)(at_:Int):ar3:=Ef n s n at_
def sO(s:arY):ar2:=av (!(cond (decide (1≤((s.length:Nat):Int))) (decide (((s.length:Nat):Int)≤16)) false)||aM 0 s.length)<|Option.bind (cond (cond (decide (1≤((s.length:Nat):Int))) (decide (((s.length:Nat):Int)≤16)) false) (Aa n (((s.getD 0 0).toNat:Nat):Int)) (some default)) λr2=>Option.bind (cond (cond (cond (decide (1≤((s.length:Nat):Int))) (decide (((s.length:Nat):Int)≤16)) false) r2 false) (J_ n s 0) (some default)) λr3=>Option.bind (cond (cond (cond (cond (decide (1≤((s.length:Nat):Int))) (decide (((s.length:Nat):Int)≤16)) false) r2 false) (decide (r3=((s.length:Nat):Int))) false) (Ed n s) (some default)) λbh=>some (cond (cond (cond (cond (decide (1≤((s.length:Nat):Int))) (decide (((s.length:Nat):Int)≤16)) false) r2 false) (decide (r3=((s.length:Nat):Int))) false) (!bh) false)
def sP(n:Nat)(e:Expr):ar2:=some (cond (cond (cond (decide (e.Op=0)) (decide (e.N=0)) false) (decide (e.S=([]:arY))) false) (decide (((e.au.length:Nat):Int)=0)) false)
def RT(n:Nat)(nJ:(List cy)→Expr→Bool→Option (List cy))(dG:List cy):Option (List cy):=some dG
def RU(nJ:(List cy)→Expr→Bool→Option (List cy))(e:Expr)(am:(List cy)→Int→Option (List cy))(bw:List cy)(ba:Int):Option (List cy):=cond (cond (decide (ba<((e.au.length:Nat):Int))) (decide (((bw.length:Nat):Int)≤400)) false) ( av (aM ba e.au.length)<|(nJ bw (ar1 e.au ba) false).bind λcP=>am cP (ar0 (ba+1))) ( RT n nJ bw)
def Eg(n:Nat)(nJ:(List cy)→Expr→Bool→Option (List cy))(e:Expr):Nat→(List cy)→Int→Option (List cy)
 | 0=>λ_ _=>none
 |m+1=>RU n nJ e (Eg n nJ e m)
def RV(nJ:(List cy)→Expr→Bool→Option (List cy))(out:List cy)(e:Expr)(root:Bool):Option (List cy):=cond (decide (400<((out.length:Nat):Int))) ( some out) ( av (room (out.length+([(⟨false,⟨0,[],0,⟨0,0,[],[]⟩,⟨0,0,[],[]⟩,[],[]⟩,0,e,root⟩:cy)]:List cy).length) 272)<|Eg n nJ e n (out++([(⟨false,⟨0,[],0,⟨0,0,[],[]⟩,⟨0,0,[],[]⟩,[],[]⟩,0,e,root⟩:cy)]:List cy)) 0)
def sQ:Nat→(List cy)→Expr→Bool→Option (List cy)
 | 0=>λ_ _ _=>none
 |m+1=>RV m (sQ m)
def RW(n:Nat)(iS:(List cy)→(List Stmt)→Int→Option (List cy))(kC:List cy):Option (List cy):=some kC
def RX(n:Nat)(iS:(List cy)→(List Stmt)→Int→Option (List cy))(am:(List cy)→Int→Option (List cy))(l:List Stmt)(depth:Int)(v21:Int)(iP:List cy):Option (List cy):=am iP (ar0 (v21+1))
def Ka(iS:(List cy)→(List Stmt)→Int→Option (List cy))(am:(List cy)→Int→Option (List cy))(l:List Stmt)(depth:Int)(v21:Int)(ss:List cy):Option (List cy):=av (aM v21 l.length)<|(iS ss ((ar1 l v21).Body) (ar0 (depth+1))).bind λlx=>av (aM v21 l.length)<|(iS lx ((ar1 l v21).bK) (ar0 (depth+1))).bind λoz=>RX n iS am l depth v21 oz
def Kb(iS:(List cy)→(List Stmt)→Int→Option (List cy))(am:(List cy)→Int→Option (List cy))(l:List Stmt)(depth:Int)(v21:Int)(v28:List cy):Option (List cy):=av (aM v21 l.length)<|(sP n ((ar1 l v21).B)).bind λhJ=>cond (!hJ) ( av (aM v21 l.length)<|(sQ n v28 ((ar1 l v21).B) true).bind λkZ=>Ka n iS am l depth v21 kZ) ( Ka n iS am l depth v21 v28)
def RY(iS:(List cy)→(List Stmt)→Int→Option (List cy))(l:List Stmt)(depth:Int)(am:(List cy)→Int→Option (List cy))(v20:List cy)(v21:Int):Option (List cy):=cond (cond (decide (v21<((l.length:Nat):Int))) (decide (((v20.length:Nat):Int)≤400)) false) ( av (aM v21 l.length)<|av (room (v20.length+([(⟨true,⟨(ar1 l v21).Op,(ar1 l v21).Name,(ar1 l v21).Max,⟨((ar1 l v21).A).Op,((ar1 l v21).A).N,((ar1 l v21).A).S,((ar1 l v21).A).au⟩,⟨((ar1 l v21).B).Op,((ar1 l v21).B).N,((ar1 l v21).B).S,((ar1 l v21).B).au⟩,(ar1 l v21).Body,(ar1 l v21).bK⟩,depth,⟨0,0,[],[]⟩,false⟩:cy)]:List cy).length) 272)<|av (aM v21 l.length)<|(sP n ((ar1 l v21).A)).bind λft=>cond (!ft) ( av (aM v21 l.length)<|(sQ n (v20++([(⟨true,⟨(ar1 l v21).Op,(ar1 l v21).Name,(ar1 l v21).Max,⟨((ar1 l v21).A).Op,((ar1 l v21).A).N,((ar1 l v21).A).S,((ar1 l v21).A).au⟩,⟨((ar1 l v21).B).Op,((ar1 l v21).B).N,((ar1 l v21).B).S,((ar1 l v21).B).au⟩,(ar1 l v21).Body,(ar1 l v21).bK⟩,depth,⟨0,0,[],[]⟩,false⟩:cy)]:List cy)) ((ar1 l v21).A) true).bind λr27=>Kb n iS am l depth v21 r27) ( Kb n iS am l depth v21 (v20++([(⟨true,⟨(ar1 l v21).Op,(ar1 l v21).Name,(ar1 l v21).Max,⟨((ar1 l v21).A).Op,((ar1 l v21).A).N,((ar1 l v21).A).S,((ar1 l v21).A).au⟩,⟨((ar1 l v21).B).Op,((ar1 l v21).B).N,((ar1 l v21).B).S,((ar1 l v21).B).au⟩,(ar1 l v21).Body,(ar1 l v21).bK⟩,depth,⟨0,0,[],[]⟩,false⟩:cy)]:List cy)))) ( RW n iS v20)
def uD(n:Nat)(iS:(List cy)→(List Stmt)→Int→Option (List cy))(l:List Stmt)(depth:Int):Nat→(List cy)→Int→Option (List cy)
 | 0=>λ_ _=>none
 |m+1=>RY n iS l depth (uD n iS l depth m)
def RZ(iS:(List cy)→(List Stmt)→Int→Option (List cy))(out:List cy)(l:List Stmt)(depth:Int):Option (List cy):=uD n iS l depth n out 0
def m7:Nat→(List cy)→(List Stmt)→Int→Option (List cy)
 | 0=>λ_ _ _=>none
 |m+1=>RZ m (m7 m)
def R0(p:a_):Option (List cy):=(m7 n ([]:List cy) p.Body 1).bind λr1=>some r1
def R1(n:Nat):ar3:=some 0
def R2(n:Nat)(am:Int→ar3)(l:List Param)(bP:Int):ar3:=am (ar0 (bP+1))
def R3(am:Int→ar3)(l:List Param)(bP:Int)(hy:Int→ar3)(e_:Int):ar3:=cond (decide (e_<bP)) ( av (aM e_ l.length)<|av (aM bP l.length)<|cond (decide (((ar1 l e_).Name)=((ar1 l bP).Name))) ( some 8) ( hy (ar0 (e_+1)))) ( R2 n am l bP)
def Ac(n:Nat)(am:Int→ar3)(l:List Param)(bP:Int):Nat→Int→ar3
 | 0=>λ_=>none
 |m+1=>R3 n am l bP (Ac n am l bP m)
def R4(l:List Param)(am:Int→ar3)(bP:Int):ar3:=cond (decide (bP<((l.length:Nat):Int))) ( av (aM bP l.length)<|(sO n ((ar1 l bP).Name)).bind λcj=>cond (!cj) ( some 7) ( av (aM bP l.length)<|av ((decide ((ar1 l bP).fS<1))||aM bP l.length)<|cond (cond (decide ((ar1 l bP).fS<1)) true (decide (3<(ar1 l bP).fS))) ( some 10) ( Ac n am l bP n 0))) ( R1 n)
def uE(n:Nat)(l:List Param):Nat→Int→ar3
 | 0=>λ_=>none
 |m+1=>R4 n l (uE n l m)
def Kc(l:List Param):ar3:=cond (decide (6<((l.length:Nat):Int))) ( some 2) ( uE n l n 0)
def R5(n:Nat)(op:Int):ar3:=cond (cond (decide (4≤op)) (decide (op≤19)) false) ( some 2) ( some (-1))
def sR(op:Int)(v2:Bool):ar3:=cond v2 ( some 1) ( R5 n op)
def uF(op:Int)(v1:Bool):ar3:=cond v1 ( some 0) ( cond (decide (op=9)) ( sR n op (decide (op=9))) ( cond (decide (op=18)) ( sR n op (decide (op=18))) ( cond (decide (op=20)) ( sR n op (decide (op=20))) ( cond (decide (op=21)) ( sR n op (decide (op=21))) ( cond (decide (op=22)) ( sR n op (decide (op=22))) ( cond (decide (op=23)) ( sR n op (decide (op=23))) ( sR n op (decide (op=24)))))))))
def Eh(op:Int):ar3:=cond (decide (op=1)) ( uF n op (decide (op=1))) ( cond (decide (op=2)) ( uF n op (decide (op=2))) ( cond (decide (op=3)) ( uF n op (decide (op=3))) ( cond (decide (op=25)) ( uF n op (decide (op=25))) ( cond (decide (op=26)) ( uF n op (decide (op=26))) ( uF n op (decide (op=27)))))))
def R6(n:Nat):ar2:=some true
def R7(s:arY)(am:Int→ar2)(v5:Int):ar2:=cond (decide (v5<((s.length:Nat):Int))) ( av (aM v5 s.length)<|av ((decide ((((s.getD (v5).toNat 0).toNat:Nat):Int)<32))||aM v5 s.length)<|cond (cond (decide ((((s.getD (v5).toNat 0).toNat:Nat):Int)<32)) true (decide (126<(((s.getD (v5).toNat 0).toNat:Nat):Int)))) ( some false) ( am (ar0 (v5+1)))) ( R6 n)
def Ei(n:Nat)(s:arY):Nat→Int→ar2
 | 0=>λ_=>none
 |m+1=>R7 n s (Ei n s m)
def Kd(s:arY):ar2:=cond (decide (64<((s.length:Nat):Int))) ( some false) ( Ei n s n 0)
def Ke(e:Expr)(depth:Int):ar3:=(Eh n e.Op).bind λr1=>cond (cond (cond (decide (r1<0)) true (cond (!decide (e.Op=1)) (!decide (e.N=0)) false)) true (cond (cond (!decide (e.Op=2)) (!decide (e.Op=3)) false) (!(decide (e.S=([]:arY)))) false)) ( some 1) ( Option.bind (cond (decide (e.Op=3)) (sO n e.S) (some default)) λr3=>cond (cond (decide (e.Op=3)) (!r3) false) ( some 7) ( Option.bind (cond ((!(decide (e.N<0)))&&(decide (e.Op=2))) (Kd n e.S) (some default)) λbu=>Option.bind (cond (!(cond (decide (e.N<0)) true (cond (decide (e.Op=2)) (!bu) false))) (Eh n e.Op) (some default)) λbr=>cond (cond (cond (decide (e.N<0)) true (cond (decide (e.Op=2)) (!bu) false)) true (!decide (((e.au.length:Nat):Int)=br))) ( some 1) ( cond (decide (12<depth)) ( some 2) ( some 0))))
def R8(n:Nat)(nK:Expr→Int→ar3):ar3:=some 0
def R9(nK:Expr→Int→ar3)(depth:Int)(e:Expr)(am:Int→ar3)(v6:Int):ar3:=cond (decide (v6<((e.au.length:Nat):Int))) ( av (aM v6 e.au.length)<|(nK (ar1 e.au v6) (ar0 (depth+1))).bind λcn=>cond (!decide (cn=0)) ( some cn) ( am (ar0 (v6+1)))) ( R8 n nK)
def Ej(n:Nat)(nK:Expr→Int→ar3)(depth:Int)(e:Expr):Nat→Int→ar3
 | 0=>λ_=>none
 |m+1=>R9 n nK depth e (Ej n nK depth e m)
def R'(nK:Expr→Int→ar3)(e:Expr)(depth:Int):ar3:=(Ke n e depth).bind λr1=>cond (!decide (r1=0)) ( some r1) ( Ej n nK depth e n 0)
def Ad:Nat→Expr→Int→ar3
 | 0=>λ_ _=>none
 |m+1=>R' m (Ad m)
def Ek(e:Expr):ar3:=(Ad n e 1).bind λr1=>some r1
def R_(n:Nat):Option (Bool×Bool×Bool×Bool×Bool×Bool):=some (false,true,false,false,false,false)
def Kf(op:Int)(v2:Bool):Option (Bool×Bool×Bool×Bool×Bool×Bool):=cond v2 ( some (false,false,true,false,false,false)) ( cond (decide (op=5)) ( some (false,false,true,false,true,true)) ( cond (decide (op=6)) ( some (true,true,true,true,true,false)) ( R_ n)))
def Kg(op:Int)(v1:Bool):Option (Bool×Bool×Bool×Bool×Bool×Bool):=cond v1 ( some (true,false,true,false,false,false)) ( cond (decide (op=3)) ( some (false,false,true,true,false,false)) ( cond (decide (op=4)) ( Kf n op (decide (op=4))) ( Kf n op (decide (op=7)))))
def El(op:Int):Option (Bool×Bool×Bool×Bool×Bool×Bool):=cond (decide (op=1)) ( Kg n op (decide (op=1))) ( Kg n op (decide (op=2)))
def Kh(n:Nat)(depth:Int):ar3:=cond (decide (12<depth)) ( some 2) ( some 0)
def Ki(depth:Int)(r1:Bool×Bool×Bool×Bool×Bool×Bool)(s:Stmt):ar3:=cond r1.2.2.2.1 ( (Ek n (⟨s.B.Op,s.B.N,s.B.S,s.B.au⟩:Expr)).bind λb7=>cond (!decide (b7=0)) ( some b7) ( Kh n depth)) ( Kh n depth)
def Kj(s:Stmt)(depth:Int):ar3:=(El n s.Op).bind λr1=>Option.bind (cond ((!(cond (cond (cond (decide (s.Op<1)) true (decide (8<s.Op))) true (cond (!r1.1) (!(decide (s.Name=([]:arY)))) false)) true (cond (!r1.2.1) (!decide (s.Max=0)) false)))&&(!r1.2.2.1)) (sP n (⟨s.A.Op,s.A.N,s.A.S,s.A.au⟩:Expr)) (some default)) λr2=>Option.bind (cond ((!(cond (cond (cond (cond (decide (s.Op<1)) true (decide (8<s.Op))) true (cond (!r1.1) (!(decide (s.Name=([]:arY)))) false)) true (cond (!r1.2.1) (!decide (s.Max=0)) false)) true (cond (!r1.2.2.1) (!r2) false)))&&(!r1.2.2.2.1)) (sP n (⟨s.B.Op,s.B.N,s.B.S,s.B.au⟩:Expr)) (some default)) λr3=>cond (cond (cond (cond (cond (cond (cond (cond (decide (s.Op<1)) true (decide (8<s.Op))) true (cond (!r1.1) (!(decide (s.Name=([]:arY)))) false)) true (cond (!r1.2.1) (!decide (s.Max=0)) false)) true (cond (!r1.2.2.1) (!r2) false)) true (cond (!r1.2.2.2.1) (!r3) false)) true (cond (!r1.2.2.2.2.1) (decide (0<((s.Body.length:Nat):Int))) false)) true (cond (!r1.2.2.2.2.2) (decide (0<((s.bK.length:Nat):Int))) false)) ( some 1) ( cond (cond (cond (decide (s.Op=6)) (cond (decide (s.Max<1)) true (decide (16<s.Max))) false) true (cond (decide (s.Op=8)) (cond (decide (s.Max<0)) true (decide (999<s.Max))) false)) ( some 1) ( Option.bind (cond r1.1 (sO n s.Name) (some default)) λbr=>cond (cond r1.1 (!br) false) ( some 7) ( cond r1.2.2.1 ( (Ek n (⟨s.A.Op,s.A.N,s.A.S,s.A.au⟩:Expr)).bind λcn=>cond (!decide (cn=0)) ( some cn) ( Ki n depth r1 s)) ( Ki n depth r1 s))))
def Sa(n:Nat)(bu:(List cy)):ar3:=cond (decide (400<((bu.length:Nat):Int))) ( some 2) ( some 0)
def Kk(n:Nat)(am:Int→ar3)(bu:(List cy))(v11:Int):ar3:=am (ar0 (v11+1))
def Sb(bu:(List cy))(am:Int→ar3)(v11:Int):ar3:=cond (decide (v11<((bu.length:Nat):Int))) ( av (aM v11 bu.length)<|cond ((ar1 bu v11).qb) ( av (aM v11 bu.length)<|av (aM v11 bu.length)<|(Kj n ((ar1 bu v11).Stmt) ((ar1 bu v11).CK)).bind λcY=>cond (!decide (cY=0)) ( some cY) ( Kk n am bu v11)) ( Kk n am bu v11)) ( Sa n bu)
def Ae(n:Nat)(bu:(List cy)):Nat→Int→ar3
 | 0=>λ_=>none
 |m+1=>Sb n bu (Ae n bu m)
def Em(p:a_):ar3:=(sO n p.Name).bind λr1=>cond (!r1) ( some 7) ( (Kc n p.Params).bind λr3=>cond (!decide (r3=0)) ( some r3) ( (R0 n p).bind λbu=>Ae n bu n 0))
def Sc(n:Nat)(a:Int):ar3:=cond (decide (a<0)) ( some (IntKind.u64.wrap (0-(IntKind.u64.wrap a)))) ( some (IntKind.u64.wrap a))
def En(n:Nat)(c6:Int)(v12:arY):Option arY:=cond (decide (c6<0)) ( av (b' (([45]:arY).length+v12.length))<|some (([45]:arY)++v12)) ( some v12)
def sS(c6:Int)(am:Int→arY→Option arY)(v6:Int)(bw:arY):Option arY:=cond (cond (decide (0<v6)) true (decide (bw=([]:arY)))) ( av (ns ([(IntKind.u8.wrap (IntKind.u64.wrap (48+(Int.tmod v6 10))))]:List Int))<|av (b' ((kd ([(IntKind.u8.wrap (IntKind.u64.wrap (48+(Int.tmod v6 10))))]:List Int)).length+bw.length))<|am (IntKind.u64.wrap (Int.tdiv v6 10)) ((kd ([(IntKind.u8.wrap (IntKind.u64.wrap (48+(Int.tmod v6 10))))]:List Int))++bw)) ( En n c6 bw)
def qj(n:Nat)(c6:Int):Nat→Int→arY→Option arY
 | 0=>λ_ _=>none
 |m+1=>sS n c6 (qj n c6 m)
def w8(c6:Int):Option arY:=(Sc n c6).bind λr1=>qj n c6 n r1 ([]:arY)
def Sd(n:Nat)(v9:arY):Option arY:=some v9
def Se(depth:Int)(am:arY→Int→Option arY)(v4:arY)(v5:Int):Option arY:=cond (decide (v5<depth)) ( av (b' (v4.length+([32,32,32,32]:arY).length))<|am (v4++([32,32,32,32]:arY)) (ar0 (v5+1))) ( Sd n v4)
def Eo(n:Nat)(depth:Int):Nat→arY→Int→Option arY
 | 0=>λ_ _=>none
 |m+1=>Se n depth (Eo n depth m)
def Sf(depth:Int):Option arY:=Eo n depth n ([]:arY) 0
def Sg(n:Nat):ar2:=some true
def Sh(s:arY)(am:Int→ar2)(v4:Int):ar2:=cond (decide (v4<((s.length:Nat):Int))) ( av (aM v4 s.length)<|av ((decide ((((s.getD (v4).toNat 0).toNat:Nat):Int)<32))||aM v4 s.length)<|cond (cond (decide ((((s.getD (v4).toNat 0).toNat:Nat):Int)<32)) true (decide (126<(((s.getD (v4).toNat 0).toNat:Nat):Int)))) ( some false) ( am (ar0 (v4+1)))) ( Sg n)
def Af(n:Nat)(s:arY):Nat→Int→ar2
 | 0=>λ_=>none
 |m+1=>Sh n s (Af n s m)
def Si(s:arY):ar2:=Af n s n 0
def Sj(n:Nat)(v24:arY):Option (arY×Int):=av (b' (v24.length+([34]:arY).length))<|some ((v24++([34]:arY)),0)
def Sk(n:Nat)(am:arY→Int→Option (arY×Int))(s:arY)(bP:Int)(v21:arY):Option (arY×Int):=am v21 (ar0 (bP+1))
def Kl(am:arY→Int→Option (arY×Int))(s:arY)(bP:Int)(bQ:arY):Option (arY×Int):=av (lG bP (ar0 (bP+1)) s.length)<|av (b' (bQ.length+((s.take ((ar0 (bP+1))).toNat).drop (bP).toNat).length))<|Sk n am s bP (bQ++((s.take ((ar0 (bP+1))).toNat).drop (bP).toNat))
def Sl(s:arY)(am:arY→Int→Option (arY×Int))(dG:arY)(bP:Int):Option (arY×Int):=cond (decide (bP<((s.length:Nat):Int))) ( av (aM bP s.length)<|av ((decide ((((s.getD (bP).toNat 0).toNat:Nat):Int)=34))||aM bP s.length)<|cond (cond (decide ((((s.getD (bP).toNat 0).toNat:Nat):Int)=34)) true (decide ((((s.getD (bP).toNat 0).toNat:Nat):Int)=92))) ( av (b' (dG.length+([92]:arY).length))<|Kl n am s bP (dG++([92]:arY))) ( Kl n am s bP dG)) ( Sj n dG)
def Ep(n:Nat)(s:arY):Nat→arY→Int→Option (arY×Int)
 | 0=>λ_ _=>none
 |m+1=>Sl n s (Ep n s m)
def Km(s:arY):Option (arY×Int):=cond (decide (64<((s.length:Nat):Int))) ( some (([]:arY),2)) ( (Si n s).bind λr2=>cond (!r2) ( some (([]:arY),1)) ( Ep n s n ([34]:arY) 0))
def Y8(n:Nat):ar3:=some 9
def Kn(op:Int)(v3:Bool):ar3:=cond v3 ( some 7) ( cond (decide (op=9)) ( some 8) ( Y8 n))
def Sm(op:Int)(v2:Bool):ar3:=cond v2 ( some 6) ( cond (decide (op=6)) ( Kn n op (decide (op=6))) ( cond (decide (op=7)) ( Kn n op (decide (op=7))) ( Kn n op (decide (op=8)))))
def w9(op:Int)(v1:Bool):ar3:=cond v1 ( some 4) ( cond (decide (op=19)) ( some 5) ( cond (decide (op=4)) ( Sm n op (decide (op=4))) ( Sm n op (decide (op=5)))))
def Ko(op:Int):ar3:=cond (decide (op=17)) ( some 1) ( cond (decide (op=16)) ( some 2) ( cond (decide (op=18)) ( some 3) ( cond (decide (op=10)) ( w9 n op (decide (op=10))) ( cond (decide (op=11)) ( w9 n op (decide (op=11))) ( cond (decide (op=12)) ( w9 n op (decide (op=12))) ( cond (decide (op=13)) ( w9 n op (decide (op=13))) ( cond (decide (op=14)) ( w9 n op (decide (op=14))) ( w9 n op (decide (op=15))))))))))
def Kp(n:Nat)(op:Int):Option arY:=cond (decide (op=17)) ( some ([111,114]:arY)) ( cond (decide (op=16)) ( some ([97,110,100]:arY)) ( cond (decide (op=10)) ( some ([61,61]:arY)) ( cond (decide (op=11)) ( some ([33,61]:arY)) ( cond (decide (op=12)) ( some ([60]:arY)) ( cond (decide (op=13)) ( some ([60,61]:arY)) ( cond (decide (op=14)) ( some ([62]:arY)) ( cond (decide (op=15)) ( some ([62,61]:arY)) ( cond (decide (op=19)) ( some ([43,43]:arY)) ( cond (decide (op=4)) ( some ([43]:arY)) ( cond (decide (op=5)) ( some ([45]:arY)) ( cond (decide (op=6)) ( some ([42]:arY)) ( cond (decide (op=7)) ( some ([47]:arY)) ( some ([37]:arY))))))))))))))
def Kq(n:Nat)(op:Int):Option arY:=cond (decide (op=20)) ( some ([116,101,120,116]:arY)) ( cond (decide (op=21)) ( some ([108,101,110]:arY)) ( cond (decide (op=22)) ( some ([103,101,116,105,110,116]:arY)) ( cond (decide (op=23)) ( some ([103,101,116,115,116,114]:arY)) ( cond (decide (op=24)) ( some ([104,97,115]:arY)) ( cond (decide (op=25)) ( some ([110,111,119]:arY)) ( cond (decide (op=26)) ( some ([114,97,110,100,111,109]:arY)) ( some ([110,111,100,101]:arY))))))))
def Kr(rp:Expr→Option arY)(oA:Expr→Int→Option arY)(e:Expr):Option arY:=(Ko n e.Op).bind λr1=>cond (decide (e.Op=1)) ( (w8 n e.N).bind λr3=>some r3) ( cond (decide (e.Op=2)) ( (Km n e.S).bind λbu=>some bu.1) ( cond (decide (e.Op=3)) ( some e.S) ( cond (decide (e.Op=18)) ( av (aM 0 e.au.length)<|(oA (e.au.getD 0 default) r1).bind λb7=>av (b' (([110,111,116,32]:arY).length+b7.length))<|some (([110,111,116,32]:arY)++b7)) ( cond (decide (e.Op=9)) ( av (aM 0 e.au.length)<|(oA (e.au.getD 0 default) r1).bind λcb=>av (b' (([45]:arY).length+cb.length))<|some (([45]:arY)++cb)) ( cond (cond (decide (r1=9)) (decide (((e.au.length:Nat):Int)=0)) false) ( (Kq n e.Op).bind λcj=>av (b' (cj.length+([40,41]:arY).length))<|some (cj++([40,41]:arY))) ( cond (decide (r1=9)) ( (Kq n e.Op).bind λe9=>av (b' (e9.length+([40]:arY).length))<|av (aM 0 e.au.length)<|(rp (e.au.getD 0 default)).bind λde=>av (b' ((e9++([40]:arY)).length+de.length))<|av (b' (((e9++([40]:arY))++de).length+([41]:arY).length))<|some (((e9++([40]:arY))++de)++([41]:arY))) ( cond (decide (r1=4)) ( av (aM 0 e.au.length)<|(oA (e.au.getD 0 default) 5).bind λr27=>av (b' (r27.length+([32]:arY).length))<|(Kp n e.Op).bind λfD=>av (b' ((r27++([32]:arY)).length+fD.length))<|av (b' (((r27++([32]:arY))++fD).length+([32]:arY).length))<|av (aM 1 e.au.length)<|(oA (e.au.getD 1 default) 5).bind λny=>av (b' ((((r27++([32]:arY))++fD)++([32]:arY)).length+ny.length))<|some ((((r27++([32]:arY))++fD)++([32]:arY))++ny)) ( av (aM 0 e.au.length)<|(oA (e.au.getD 0 default) r1).bind λou=>av (b' (ou.length+([32]:arY).length))<|(Kp n e.Op).bind λqd=>av (b' ((ou++([32]:arY)).length+qd.length))<|av (b' (((ou++([32]:arY))++qd).length+([32]:arY).length))<|av (aM 1 e.au.length)<|(oA (e.au.getD 1 default) (ar0 (r1+1))).bind λhS=>av (b' ((((ou++([32]:arY))++qd)++([32]:arY)).length+hS.length))<|some ((((ou++([32]:arY))++qd)++([32]:arY))++hS)))))))))
def Ks(rp:Expr→Option arY)(oA:Expr→Int→Option arY)(e:Expr)(least:Int):Option arY:=(Ko n e.Op).bind λr1=>cond (decide (r1<least)) ( (rp e).bind λr3=>av (b' (([40]:arY).length+r3.length))<|av (b' ((([40]:arY)++r3).length+([41]:arY).length))<|some ((([40]:arY)++r3)++([41]:arY))) ( (rp e).bind λbr=>some br)
def Ag:Nat→(Expr→Option arY)×(Expr→Int→Option arY)
 | 0=>(λ_=>none,λ_ _=>none)
 |m+1=>(Kr m ((Ag m).1) ((Ag m).2),Ks m ((Ag m).1) ((Ag m).2))
def ly:Expr→Option arY:=(Ag n).1
def w_:Expr→Int→Option arY:=(Ag n).2
def Sn(n:Nat)(jy:(List Stmt)→Int→Option arY)(kg:Stmt→Int→Option arY)(dG:arY):Option arY:=some dG
def So(jy:(List Stmt)→Int→Option arY)(kg:Stmt→Int→Option arY)(l:List Stmt)(depth:Int)(am:arY→Int→Option arY)(v6:arY)(bw:Int):Option arY:=cond (decide (bw<((l.length:Nat):Int))) ( av (aM bw l.length)<|(kg (ar1 l bw) depth).bind λb7=>av (b' (v6.length+b7.length))<|am (v6++b7) (ar0 (bw+1))) ( Sn n jy kg v6)
def Er(n:Nat)(jy:(List Stmt)→Int→Option arY)(kg:Stmt→Int→Option arY)(l:List Stmt)(depth:Int):Nat→arY→Int→Option arY
 | 0=>λ_ _=>none
 |m+1=>So n jy kg l depth (Er n jy kg l depth m)
def Kt(jy:(List Stmt)→Int→Option arY)(kg:Stmt→Int→Option arY)(l:List Stmt)(depth:Int):Option arY:=Er n jy kg l depth n ([]:arY) 0
def Es(n:Nat)(jy:(List Stmt)→Int→Option arY)(kg:Stmt→Int→Option arY)(Et:arY):Option arY:=av (b' (Et.length+([10]:arY).length))<|some (Et++([10]:arY))
def Ku(jy:(List Stmt)→Int→Option arY)(kg:Stmt→Int→Option arY)(x:Stmt)(depth:Int):Option arY:=(Sf n depth).bind λr1=>cond (decide (x.Op=1)) ( av (b' (r1.length+([108,101,116,32]:arY).length))<|av (b' ((r1++([108,101,116,32]:arY)).length+x.Name.length))<|av (b' (((r1++([108,101,116,32]:arY))++x.Name).length+([32,61,32]:arY).length))<|(ly n (⟨x.A.Op,x.A.N,x.A.S,x.A.au⟩:Expr)).bind λbr=>av (b' ((((r1++([108,101,116,32]:arY))++x.Name)++([32,61,32]:arY)).length+br.length))<|av (b' (((((r1++([108,101,116,32]:arY))++x.Name)++([32,61,32]:arY))++br).length+([59,10]:arY).length))<|some (((((r1++([108,101,116,32]:arY))++x.Name)++([32,61,32]:arY))++br)++([59,10]:arY))) ( cond (decide (x.Op=2)) ( av (b' (r1.length+x.Name.length))<|av (b' ((r1++x.Name).length+([32,61,32]:arY).length))<|(ly n (⟨x.A.Op,x.A.N,x.A.S,x.A.au⟩:Expr)).bind λaS=>av (b' (((r1++x.Name)++([32,61,32]:arY)).length+aS.length))<|av (b' ((((r1++x.Name)++([32,61,32]:arY))++aS).length+([59,10]:arY).length))<|some ((((r1++x.Name)++([32,61,32]:arY))++aS)++([59,10]:arY))) ( cond (decide (x.Op=3)) ( av (b' (r1.length+([112,117,116,32]:arY).length))<|(ly n (⟨x.A.Op,x.A.N,x.A.S,x.A.au⟩:Expr)).bind λcV=>av (b' ((r1++([112,117,116,32]:arY)).length+cV.length))<|av (b' (((r1++([112,117,116,32]:arY))++cV).length+([32,61,32]:arY).length))<|(ly n (⟨x.B.Op,x.B.N,x.B.S,x.B.au⟩:Expr)).bind λdZ=>av (b' ((((r1++([112,117,116,32]:arY))++cV)++([32,61,32]:arY)).length+dZ.length))<|av (b' (((((r1++([112,117,116,32]:arY))++cV)++([32,61,32]:arY))++dZ).length+([59,10]:arY).length))<|some (((((r1++([112,117,116,32]:arY))++cV)++([32,61,32]:arY))++dZ)++([59,10]:arY))) ( cond (decide (x.Op=4)) ( av (b' (r1.length+([100,101,108,101,116,101,32]:arY).length))<|(ly n (⟨x.A.Op,x.A.N,x.A.S,x.A.au⟩:Expr)).bind λft=>av (b' ((r1++([100,101,108,101,116,101,32]:arY)).length+ft.length))<|av (b' (((r1++([100,101,108,101,116,101,32]:arY))++ft).length+([59,10]:arY).length))<|some (((r1++([100,101,108,101,116,101,32]:arY))++ft)++([59,10]:arY))) ( cond (decide (x.Op=7)) ( av (b' (r1.length+([101,109,105,116,32]:arY).length))<|(ly n (⟨x.A.Op,x.A.N,x.A.S,x.A.au⟩:Expr)).bind λhJ=>av (b' ((r1++([101,109,105,116,32]:arY)).length+hJ.length))<|av (b' (((r1++([101,109,105,116,32]:arY))++hJ).length+([59,10]:arY).length))<|some (((r1++([101,109,105,116,32]:arY))++hJ)++([59,10]:arY))) ( cond (decide (x.Op=8)) ( av (b' (r1.length+([97,98,111,114,116,32]:arY).length))<|(w8 n x.Max).bind λlx=>av (b' ((r1++([97,98,111,114,116,32]:arY)).length+lx.length))<|av (b' (((r1++([97,98,111,114,116,32]:arY))++lx).length+([59,10]:arY).length))<|some (((r1++([97,98,111,114,116,32]:arY))++lx)++([59,10]:arY))) ( cond (decide (x.Op=6)) ( av (b' (r1.length+([102,111,114,32]:arY).length))<|av (b' ((r1++([102,111,114,32]:arY)).length+x.Name.length))<|av (b' (((r1++([102,111,114,32]:arY))++x.Name).length+([32,61,32]:arY).length))<|(ly n (⟨x.A.Op,x.A.N,x.A.S,x.A.au⟩:Expr)).bind λhS=>av (b' ((((r1++([102,111,114,32]:arY))++x.Name)++([32,61,32]:arY)).length+hS.length))<|av (b' (((((r1++([102,111,114,32]:arY))++x.Name)++([32,61,32]:arY))++hS).length+([32,116,111,32]:arY).length))<|(ly n (⟨x.B.Op,x.B.N,x.B.S,x.B.au⟩:Expr)).bind λjw=>av (b' ((((((r1++([102,111,114,32]:arY))++x.Name)++([32,61,32]:arY))++hS)++([32,116,111,32]:arY)).length+jw.length))<|av (b' (((((((r1++([102,111,114,32]:arY))++x.Name)++([32,61,32]:arY))++hS)++([32,116,111,32]:arY))++jw).length+([32,109,97,120,32]:arY).length))<|(w8 n x.Max).bind λrj=>av (b' ((((((((r1++([102,111,114,32]:arY))++x.Name)++([32,61,32]:arY))++hS)++([32,116,111,32]:arY))++jw)++([32,109,97,120,32]:arY)).length+rj.length))<|av (b' (((((((((r1++([102,111,114,32]:arY))++x.Name)++([32,61,32]:arY))++hS)++([32,116,111,32]:arY))++jw)++([32,109,97,120,32]:arY))++rj).length+([32,123,10]:arY).length))<|(jy x.Body (ar0 (depth+1))).bind λqg=>av (b' ((((((((((r1++([102,111,114,32]:arY))++x.Name)++([32,61,32]:arY))++hS)++([32,116,111,32]:arY))++jw)++([32,109,97,120,32]:arY))++rj)++([32,123,10]:arY)).length+qg.length))<|av (b' (((((((((((r1++([102,111,114,32]:arY))++x.Name)++([32,61,32]:arY))++hS)++([32,116,111,32]:arY))++jw)++([32,109,97,120,32]:arY))++rj)++([32,123,10]:arY))++qg).length+r1.length))<|av (b' ((((((((((((r1++([102,111,114,32]:arY))++x.Name)++([32,61,32]:arY))++hS)++([32,116,111,32]:arY))++jw)++([32,109,97,120,32]:arY))++rj)++([32,123,10]:arY))++qg)++r1).length+([125,10]:arY).length))<|some ((((((((((((r1++([102,111,114,32]:arY))++x.Name)++([32,61,32]:arY))++hS)++([32,116,111,32]:arY))++jw)++([32,109,97,120,32]:arY))++rj)++([32,123,10]:arY))++qg)++r1)++([125,10]:arY))) ( av (b' (r1.length+([105,102,32]:arY).length))<|(ly n (⟨x.A.Op,x.A.N,x.A.S,x.A.au⟩:Expr)).bind λpm=>av (b' ((r1++([105,102,32]:arY)).length+pm.length))<|av (b' (((r1++([105,102,32]:arY))++pm).length+([32,123,10]:arY).length))<|(jy x.Body (ar0 (depth+1))).bind λnD=>av (b' ((((r1++([105,102,32]:arY))++pm)++([32,123,10]:arY)).length+nD.length))<|av (b' (((((r1++([105,102,32]:arY))++pm)++([32,123,10]:arY))++nD).length+r1.length))<|av (b' ((((((r1++([105,102,32]:arY))++pm)++([32,123,10]:arY))++nD)++r1).length+([125]:arY).length))<|cond (decide (0<((x.bK.length:Nat):Int))) ( av (b' (((((((r1++([105,102,32]:arY))++pm)++([32,123,10]:arY))++nD)++r1)++([125]:arY)).length+([32,101,108,115,101,32,123,10]:arY).length))<|(jy x.bK (ar0 (depth+1))).bind λk1=>av (b' ((((((((r1++([105,102,32]:arY))++pm)++([32,123,10]:arY))++nD)++r1)++([125]:arY))++([32,101,108,115,101,32,123,10]:arY)).length+k1.length))<|av (b' (((((((((r1++([105,102,32]:arY))++pm)++([32,123,10]:arY))++nD)++r1)++([125]:arY))++([32,101,108,115,101,32,123,10]:arY))++k1).length+r1.length))<|av (b' ((((((((((r1++([105,102,32]:arY))++pm)++([32,123,10]:arY))++nD)++r1)++([125]:arY))++([32,101,108,115,101,32,123,10]:arY))++k1)++r1).length+([125]:arY).length))<|Es n jy kg ((((((((((r1++([105,102,32]:arY))++pm)++([32,123,10]:arY))++nD)++r1)++([125]:arY))++([32,101,108,115,101,32,123,10]:arY))++k1)++r1)++([125]:arY))) ( Es n jy kg ((((((r1++([105,102,32]:arY))++pm)++([32,123,10]:arY))++nD)++r1)++([125]:arY))))))))))
def Ah:Nat→((List Stmt)→Int→Option arY)×(Stmt→Int→Option arY)
 | 0=>(λ_ _=>none,λ_ _=>none)
 |m+1=>(Kt m ((Ah m).1) ((Ah m).2),Ku m ((Ah m).1) ((Ah m).2))
def rq:(List Stmt)→Int→Option arY:=(Ah n).1
def Ai:Stmt→Int→Option arY:=(Ah n).2
def Sp(n:Nat)(ty:Int):Option arY:=cond (decide (ty=1)) ( some ([105,110,116]:arY)) ( cond (decide (ty=2)) ( some ([115,116,114]:arY)) ( some ([98,111,111,108]:arY)))
def Sq(p:a_)(hR:arY):Option arY:=av (b' (hR.length+([41,32,123,10]:arY).length))<|(rq n p.Body 1).bind λfO=>av (b' ((hR++([41,32,123,10]:arY)).length+fO.length))<|av (b' (((hR++([41,32,123,10]:arY))++fO).length+([125,10]:arY).length))<|some (((hR++([41,32,123,10]:arY))++fO)++([125,10]:arY))
def Sr(n:Nat)(am:arY→Int→Option arY)(aQ:Int)(p:a_)(Kv:arY):Option arY:=am Kv (ar0 (aQ+1))
def Kw(am:arY→Int→Option arY)(aQ:Int)(p:a_)(b4:arY):Option arY:=av (aM aQ p.Params.length)<|av (b' (b4.length+((ar1 p.Params aQ).Name).length))<|av (b' ((b4++((ar1 p.Params aQ).Name)).length+([58,32]:arY).length))<|av (aM aQ p.Params.length)<|(Sp n ((ar1 p.Params aQ).fS)).bind λr24=>av (b' (((b4++((ar1 p.Params aQ).Name))++([58,32]:arY)).length+r24.length))<|Sr n am aQ p (((b4++((ar1 p.Params aQ).Name))++([58,32]:arY))++r24)
def Ss(p:a_)(am:arY→Int→Option arY)(ct:arY)(aQ:Int):Option arY:=cond (decide (aQ<((p.Params.length:Nat):Int))) ( cond (decide (0<aQ)) ( av (b' (ct.length+([44,32]:arY).length))<|Kw n am aQ p (ct++([44,32]:arY))) ( Kw n am aQ p ct)) ( Sq n p ct)
def Eu(n:Nat)(p:a_):Nat→arY→Int→Option arY
 | 0=>λ_ _=>none
 |m+1=>Ss n p (Eu n p m)
def xa(p:a_):Option arY:=(Em n p).bind λr1=>cond (!decide (r1=0)) ( some ([]:arY)) ( av (b' (([112,114,111,99,32]:arY).length+p.Name.length))<|av (b' ((([112,114,111,99,32]:arY)++p.Name).length+([40]:arY).length))<|Eu n p n ((([112,114,111,99,32]:arY)++p.Name)++([40]:arY)) 0)
def St(n:Nat)(l:List a_):ar2:=some (decide (((l.length:Nat):Int)≤16))
def Kx(l:List a_)(am:Int→ar2)(v6:Int):ar2:=cond (decide (v6<((l.length:Nat):Int))) ( av (aM v6 l.length)<|(xa n (ar1 l v6)).bind λcn=>av ((cond (decide (cn=([]:arY))) true (decide (16384<((cn.length:Nat):Int))))||(!(decide (0<v6))||aM (ar0 (v6-1)) l.length))<|av ((cond (decide (cn=([]:arY))) true (decide (16384<((cn.length:Nat):Int))))||(!(decide (0<v6))||aM v6 l.length))<|cond (cond (cond (decide (cn=([]:arY))) true (decide (16384<((cn.length:Nat):Int)))) true (cond (decide (0<v6)) (!(Op.bytesLess ((ar1 l (ar0 (v6-1))).Name) ((ar1 l v6).Name))) false)) ( some false) ( am (ar0 (v6+1)))) ( St n l)
def Aj(n:Nat)(l:List a_):Nat→Int→ar2
 | 0=>λ_=>none
 |m+1=>Kx n l (Aj n l m)
def Ky(l:List a_):ar2:=Aj n l n 0
def Su(n:Nat):ar2:=some true
def Kz(l:List arY)(am:Int→ar2)(v6:Int):ar2:=cond (decide (v6<((l.length:Nat):Int))) ( av (aM v6 l.length)<|(w5 n (ar1 l v6)).bind λcn=>av ((!cn)||(!(decide (0<v6))||aM (ar0 (v6-1)) l.length))<|av ((!cn)||(!(decide (0<v6))||aM v6 l.length))<|cond (cond (!cn) true (cond (decide (0<v6)) (!(Op.bytesLess (ar1 l (ar0 (v6-1))) (ar1 l v6))) false)) ( some false) ( am (ar0 (v6+1)))) ( Su n)
def Ak(n:Nat)(l:List arY):Nat→Int→ar2
 | 0=>λ_=>none
 |m+1=>Kz n l (Ak n l m)
def Ev(l:List arY):ar2:=Ak n l n 0
def Ew(f:eT):ar2:=cond f.eg ( some (cond (decide (((f.Reads.length:Nat):Int)=0)) (decide (((f.dw.length:Nat):Int)=0)) false)) ( Option.bind (cond (cond (decide (((f.Reads.length:Nat):Int)≤64)) (decide (((f.dw.length:Nat):Int)≤64)) false) (Ev n f.Reads) (some default)) λr2=>Option.bind (cond (cond (cond (decide (((f.Reads.length:Nat):Int)≤64)) (decide (((f.dw.length:Nat):Int)≤64)) false) r2 false) (Ev n f.dw) (some default)) λr3=>some (cond (cond (cond (decide (((f.Reads.length:Nat):Int)≤64)) (decide (((f.dw.length:Nat):Int)≤64)) false) r2 false) r3 false))
def Sv(ar:Request):ar3:=(Ew n ar.bD).bind λdK=>cond (cond (cond (!dK) true ar.bD.eg) true (cond (!ar.ff) (decide (0<(ar0 (((ar.bD.Reads.length:Nat):Int)+((ar.bD.dw.length:Nat):Int))))) false)) ( some 1) ( some 0)
def KA(ar:Request)(am:Int→ar3)(v9:Int):ar3:=cond (decide (v9<((ar.au.length:Nat):Int))) ( av (aM v9 ar.au.length)<|(uC n (ar1 ar.au v9)).bind λbc=>av ((!bc)||aM v9 ar.au.length)<|cond (cond (!bc) true (decide ((ar1 ar.au v9).Kind=0))) ( some 1) ( am (ar0 (v9+1)))) ( Sv n ar)
def xb(n:Nat)(ar:Request):Nat→Int→ar3
 | 0=>λ_=>none
 |m+1=>KA n ar (xb n ar m)
def Al(ar:Request):ar3:=cond (cond (cond (cond (decide (ar.Client<1)) true (decide (32<ar.Client))) true (decide (ar.Seq<1))) true (decide (1099511627776<ar.Seq))) ( some 1) ( (sO n ar.a_).bind λr2=>cond (!r2) ( some 7) ( cond (decide (6<((ar.au.length:Nat):Int))) ( some 2) ( xb n ar n 0)))
def Sw(n:Nat)(l:List Request):ar2:=some (decide (((l.length:Nat):Int)≤64))
def KB(l:List Request)(am:Int→ar2)(v4:Int):ar2:=cond (decide (v4<((l.length:Nat):Int))) ( av (aM v4 l.length)<|(Al n (ar1 l v4)).bind λbr=>cond (!decide (br=0)) ( some false) ( am (ar0 (v4+1)))) ( Sw n l)
def Am(n:Nat)(l:List Request):Nat→Int→ar2
 | 0=>λ_=>none
 |m+1=>KB n l (Am n l m)
def KC(l:List Request):ar2:=Am n l n 0
def Ex(ar:dg):ar2:=Option.bind (cond (cond (decide (0≤ar.Pos)) (decide (ar.Pos≤1099511627776)) false) (J0 n ar.be) (some default)) λr1=>Option.bind (cond (cond (cond (cond (decide (0≤ar.Pos)) (decide (ar.Pos≤1099511627776)) false) r1 false) (decide (ar.be.c_=ar.Pos)) false) (Ky n ar.fk) (some default)) λr2=>Option.bind (cond (cond (cond (cond (cond (decide (0≤ar.Pos)) (decide (ar.Pos≤1099511627776)) false) r1 false) (decide (ar.be.c_=ar.Pos)) false) r2 false) (Eb n ar.fr) (some default)) λr3=>Option.bind (cond (cond (cond (cond (cond (cond (decide (0≤ar.Pos)) (decide (ar.Pos≤1099511627776)) false) r1 false) (decide (ar.be.c_=ar.Pos)) false) r2 false) r3 false) (D' n ar.Place) (some default)) λbh=>Option.bind (cond (cond (cond (cond (cond (cond (cond (decide (0≤ar.Pos)) (decide (ar.Pos≤1099511627776)) false) r1 false) (decide (ar.be.c_=ar.Pos)) false) r2 false) r3 false) bh false) (J6 n ar.bz) (some default)) λbu=>Option.bind (cond (cond (cond (cond (cond (cond (cond (cond (decide (0≤ar.Pos)) (decide (ar.Pos≤1099511627776)) false) r1 false) (decide (ar.be.c_=ar.Pos)) false) r2 false) r3 false) bh false) bu false) (KC n ar.Queue) (some default)) λbr=>some (cond (cond (cond (cond (cond (cond (cond (cond (decide (0≤ar.Pos)) (decide (ar.Pos≤1099511627776)) false) r1 false) (decide (ar.be.c_=ar.Pos)) false) r2 false) r3 false) bh false) bu false) br false)
def Y9(n:Nat):Option (Int×Int×Int):=some (0,0,5)
def Sx(s:arY)(at_:Int)(am:Int→Int→Int→Option (Int×Int×Int))(v6:Int)(bw:Int)(ba:Int):Option (Int×Int×Int):=cond (decide (ba<10)) ( cond (decide (((s.length:Nat):Int)≤(ar0 (at_+ba)))) ( some (0,0,6)) ( av (aM (ar0 (at_+ba)) s.length)<|cond (cond (cond (decide (ba=9)) (decide (1<(((s.getD ((ar0 (at_+ba))).toNat 0).toNat:Nat):Int))) false) true (cond (decide ((((s.getD ((ar0 (at_+ba))).toNat 0).toNat:Nat):Int)=0)) (decide (0<ba)) false)) ( some (0,0,5)) ( cond (decide ((((s.getD ((ar0 (at_+ba))).toNat 0).toNat:Nat):Int)<128)) ( some ((IntKind.u64.wrap (v6+(IntKind.u64.wrap ((IntKind.u64.wrap (Int.tmod (((s.getD ((ar0 (at_+ba))).toNat 0).toNat:Nat):Int) 128))*bw)))),(ar0 ((ar0 (at_+ba))+1)),0)) ( am (IntKind.u64.wrap (v6+(IntKind.u64.wrap ((IntKind.u64.wrap (Int.tmod (((s.getD ((ar0 (at_+ba))).toNat 0).toNat:Nat):Int) 128))*bw)))) (IntKind.u64.wrap (bw*128)) (ar0 (ba+1)))))) ( Y9 n)
def Ey(n:Nat)(s:arY)(at_:Int):Nat→Int→Int→Int→Option (Int×Int×Int)
 | 0=>λ_ _ _=>none
 |m+1=>Sx n s at_ (Ey n s at_ m)
def qk(s:arY)(at_:Int):Option (Int×Int×Int):=cond (cond (decide (at_<0)) true (decide (((s.length:Nat):Int)<at_))) ( some (0,0,1)) ( Ey n s at_ n 0 1 0)
def KD(n:Nat)(u:Int):ar3:=cond (decide ((Int.tmod u 2)=1)) ( some (ar0 ((ar0 (0-(ar0 (IntKind.u64.wrap (Int.tdiv u 2)))))-1))) ( some (ar0 (IntKind.u64.wrap (Int.tdiv u 2))))
def nL(s:arY)(at_:Int):Option (Int×Int×Int):=(qk n s at_).bind λr1=>cond (!decide (r1.2.2=0)) ( some (0,0,r1.2.2)) ( (KD n r1.1).bind λr3=>some (r3,r1.2.1,0))
def pn(s:arY)(at_:Int)(cq:Int):Option (Int×Int×Int):=(qk n s at_).bind λr1=>cond (!decide (r1.2.2=0)) ( some (0,0,r1.2.2)) ( cond (cond (decide (cq<0)) true (decide ((IntKind.u64.wrap cq)<r1.1))) ( some (0,0,2)) ( cond (decide ((IntKind.u64.wrap (ar0 (((s.length:Nat):Int)-r1.2.1)))<r1.1)) ( some (0,0,6)) ( some ((ar0 r1.1),r1.2.1,0))))
def ql(s:arY)(at_:Int)(cq:Int):Option (arY×Int×Int):=(qk n s at_).bind λr1=>cond (!decide (r1.2.2=0)) ( some (([]:arY),0,r1.2.2)) ( cond (cond (decide (cq<0)) true (decide ((IntKind.u64.wrap cq)<r1.1))) ( some (([]:arY),0,2)) ( cond (decide ((IntKind.u64.wrap (ar0 (((s.length:Nat):Int)-r1.2.1)))<r1.1)) ( some (([]:arY),0,6)) ( av (lG r1.2.1 (ar0 (r1.2.1+(ar0 r1.1))) s.length)<|some (((s.take ((ar0 (r1.2.1+(ar0 r1.1)))).toNat).drop (r1.2.1).toNat),(ar0 (r1.2.1+(ar0 r1.1))),0))))
def Sy(n:Nat)(c6:Int):Option bk:=some (⟨1,c6,[]⟩:bk)
def An(s:arY)(at_:Int):Option (bk×Int×Int):=(qk n s at_).bind λr1=>cond (!decide (r1.2.2=0)) ( some ((⟨0,0,[]⟩:bk),0,r1.2.2)) ( cond (decide (r1.1=0)) ( some ((⟨0,0,[]⟩:bk),r1.2.1,0)) ( cond (decide (r1.1=1)) ( (nL n s r1.2.1).bind λbu=>cond (!decide (bu.2.2=0)) ( some ((⟨0,0,[]⟩:bk),0,bu.2.2)) ( (Sy n bu.1).bind λbC=>some (bC,bu.2.1,0))) ( cond (!decide (r1.1=2)) ( some ((⟨0,0,[]⟩:bk),0,5)) ( (ql n s r1.2.1 64).bind λb7=>cond (!decide (b7.2.2=0)) ( some ((⟨0,0,[]⟩:bk),0,b7.2.2)) ( (D7 n b7.1).bind λbc=>cond (!bc) ( some ((⟨0,0,[]⟩:bk),0,5)) ( some ((⟨2,0,b7.1⟩:bk),b7.2.1,0)))))))
def Sz(n:Nat):ar2:=some true
def KE(l:List bG)(am:Int→ar2)(v6:Int):ar2:=cond (decide (v6<((l.length:Nat):Int))) ( av (aM v6 l.length)<|(w5 n ((ar1 l v6).Key)).bind λcn=>av ((!cn)||(!(decide (0<v6))||aM v6 l.length))<|av ((!cn)||(!(decide (0<v6))||aM (ar0 (v6-1)) l.length))<|cond (cond (!cn) true (cond (decide (0<v6)) ((Op.bytesLess ((ar1 l v6).Key) ((ar1 l (ar0 (v6-1))).Key))||(decide (((ar1 l v6).Key)=((ar1 l (ar0 (v6-1))).Key)))) false)) ( some false) ( am (ar0 (v6+1)))) ( Sz n)
def Ao(n:Nat)(l:List bG):Nat→Int→ar2
 | 0=>λ_=>none
 |m+1=>KE n l (Ao n l m)
def KF(l:List bG):ar2:=Ao n l n 0
def SA(l:List bG):ar2:=(KF n l).bind λcn=>some cn
def KG(l:List bG)(am:Int→ar2)(v4:Int):ar2:=cond (decide (v4<((l.length:Nat):Int))) ( av (aM v4 l.length)<|(uC n ((ar1 l v4).bY)).bind λbr=>cond (!br) ( some false) ( am (ar0 (v4+1)))) ( SA n l)
def Ap(n:Nat)(l:List bG):Nat→Int→ar2
 | 0=>λ_=>none
 |m+1=>KG n l (Ap n l m)
def KH(l:List bG):ar2:=Ap n l n 0
def SB(l:List bG):ar2:=(KH n l).bind λbr=>some br
def KI(l:List bG)(am:Int→ar2)(v3:Int):ar2:=cond (decide (v3<((l.length:Nat):Int))) ( av (aM v3 l.length)<|cond (decide (((ar1 l v3).bY).Kind=0)) ( some false) ( am (ar0 (v3+1)))) ( SB n l)
def Aq(n:Nat)(l:List bG):Nat→Int→ar2
 | 0=>λ_=>none
 |m+1=>KI n l (Aq n l m)
def Ez(l:List bG):ar2:=Aq n l n 0
def KJ(bQ:List bG)(b4:Int):Option ((List bG)×Int×Int):=(Ez n bQ).bind λdZ=>cond (!dZ) ( some (([]:List bG),0,5)) ( some (bQ,b4,0))
def KK(s:arY)(r1:Int×Int×Int)(am:(List bG)→Int→Int→Option ((List bG)×Int×Int))(v9:List bG)(v10:Int)(v11:Int):Option ((List bG)×Int×Int):=cond (decide (v10<r1.1)) ( (ql n s v11 24).bind λaS=>cond (!decide (aS.2.2=0)) ( some (([]:List bG),0,aS.2.2)) ( (An n s aS.2.1).bind λcb=>cond (!decide (cb.2.2=0)) ( some (([]:List bG),0,cb.2.2)) ( av (room (v9.length+([(⟨aS.1,cb.1⟩:bG)]:List bG).length) 48)<|am (v9++([(⟨aS.1,cb.1⟩:bG)]:List bG)) (ar0 (v10+1)) cb.2.1))) ( KJ n v9 v11)
def xc(n:Nat)(s:arY)(r1:Int×Int×Int):Nat→(List bG)→Int→Int→Option ((List bG)×Int×Int)
 | 0=>λ_ _ _=>none
 |m+1=>KK n s r1 (xc n s r1 m)
def KL(s:arY)(at_:Int):Option ((List bG)×Int×Int):=(pn n s at_ 2147483647).bind λr1=>cond (!decide (r1.2.2=0)) ( some (([]:List bG),0,r1.2.2)) ( xc n s r1 n ([]:List bG) 0 r1.2.1)
def SC(n:Nat)(at_:Int)(bA:List Row):Option (be×Int):=some ((⟨at_,at_,bA⟩:be),0)
def KM(l:List bG)(at_:Int)(am:(List Row)→Int→Option (be×Int))(ba:List Row)(v9:Int):Option (be×Int):=cond (decide (v9<((l.length:Nat):Int))) ( av (aM v9 l.length)<|av (aM v9 l.length)<|av (room (ba.length+([(⟨(ar1 l v9).Key,[⟨at_,⟨((ar1 l v9).bY).Kind,((ar1 l v9).bY).N,((ar1 l v9).bY).S⟩⟩]⟩:Row)]:List Row).length) 40)<|am (ba++([(⟨(ar1 l v9).Key,[⟨at_,⟨((ar1 l v9).bY).Kind,((ar1 l v9).bY).N,((ar1 l v9).bY).S⟩⟩]⟩:Row)]:List Row)) (ar0 (v9+1))) ( SC n at_ ba)
def Ar(n:Nat)(l:List bG)(at_:Int):Nat→(List Row)→Int→Option (be×Int)
 | 0=>λ_ _=>none
 |m+1=>KM n l at_ (Ar n l at_ m)
def EA(l:List bG)(at_:Int):Option (be×Int):=(Ez n l).bind λr1=>cond (cond (cond (!r1) true (decide (at_<0))) true (decide (1099511627776<at_))) ( some ((⟨0,0,[]⟩:be),1)) ( Ar n l at_ n ([]:List Row) 0)
def KN(s:arY)(at_:Int):Option (Part×Int×Int):=(nL n s at_).bind λr1=>cond (!decide (r1.2.2=0)) ( some ((⟨0,[],0,0,[]⟩:Part),0,r1.2.2)) ( (ql n s r1.2.1 24).bind λr3=>cond (!decide (r3.2.2=0)) ( some ((⟨0,[],0,0,[]⟩:Part),0,r3.2.2)) ( (nL n s r3.2.1).bind λbu=>cond (!decide (bu.2.2=0)) ( some ((⟨0,[],0,0,[]⟩:Part),0,bu.2.2)) ( (nL n s bu.2.1).bind λbC=>cond (!decide (bC.2.2=0)) ( some ((⟨0,[],0,0,[]⟩:Part),0,bC.2.2)) ( (ql n s bC.2.1 24).bind λb7=>cond (!decide (b7.2.2=0)) ( some ((⟨0,[],0,0,[]⟩:Part),0,b7.2.2)) ( some ((⟨r1.1,r3.1,bu.1,bC.1,b7.1⟩:Part),b7.2.1,0))))))
def KO(r1:Int×Int×Int)(bQ:List Part)(b4:Int):Option (cp×Int×Int):=(D' n (⟨r1.1,bQ⟩:cp)).bind λdZ=>cond (!dZ) ( some ((⟨0,[]⟩:cp),0,5)) ( some ((⟨r1.1,bQ⟩:cp),b4,0))
def KP(s:arY)(r3:Int×Int×Int)(r1:Int×Int×Int)(am:(List Part)→Int→Int→Option (cp×Int×Int))(v10:List Part)(v11:Int)(v12:Int):Option (cp×Int×Int):=cond (decide (v12<r3.1)) ( (KN n s v11).bind λcb=>cond (!decide (cb.2.2=0)) ( some ((⟨0,[]⟩:cp),0,cb.2.2)) ( av (room (v10.length+([cb.1]:List Part).length) 56)<|am (v10++([cb.1]:List Part)) cb.2.1 (ar0 (v12+1)))) ( KO n r1 v10 v11)
def xd(n:Nat)(s:arY)(r3:Int×Int×Int)(r1:Int×Int×Int):Nat→(List Part)→Int→Int→Option (cp×Int×Int)
 | 0=>λ_ _ _=>none
 |m+1=>KP n s r3 r1 (xd n s r3 r1 m)
def KQ(s:arY)(at_:Int):Option (cp×Int×Int):=(nL n s at_).bind λr1=>cond (!decide (r1.2.2=0)) ( some ((⟨0,[]⟩:cp),0,r1.2.2)) ( (pn n s r1.2.1 16).bind λr3=>cond (!decide (r3.2.2=0)) ( some ((⟨0,[]⟩:cp),0,r3.2.2)) ( xd n s r3 r1 n ([]:List Part) r3.2.1 0))
def KR(n:Nat)(s:arY)(at_:Int):Option (Bool×Int×Int):=cond (cond (decide (at_<0)) true (decide (((s.length:Nat):Int)<at_))) ( some (false,0,1)) ( cond (decide (at_=((s.length:Nat):Int))) ( some (false,0,6)) ( av (aM at_ s.length)<|cond (decide (1<(((s.getD (at_).toNat 0).toNat:Nat):Int))) ( some (false,0,5)) ( av (aM at_ s.length)<|some ((decide ((((s.getD (at_).toNat 0).toNat:Nat):Int)=1)),(ar0 (at_+1)),0))))
def EB(n:Nat)(bQ:Int)(b4:Int)(v20:List bk):Option ((List bk)×Int×Int):=some (v20,bQ,b4)
def As(s:arY)(r1:Int×Int×Int)(am:Int→Int→Int→(List bk)→Option ((List bk)×Int×Int))(ba:Int)(v9:Int)(v10:Int)(v11:List bk):Option ((List bk)×Int×Int):=cond (cond (decide (v9<r1.1)) (decide (v10=0)) false) ( (An n s ba).bind λaS=>av (room (v11.length+([aS.1]:List bk).length) 32)<|am aS.2.1 (ar0 (v9+1)) aS.2.2 (v11++([aS.1]:List bk))) ( EB n ba v10 v11)
def uG(n:Nat)(s:arY)(r1:Int×Int×Int):Nat→Int→Int→Int→(List bk)→Option ((List bk)×Int×Int)
 | 0=>λ_ _ _ _=>none
 |m+1=>As n s r1 (uG n s r1 m)
def EC(s:arY)(at_:Int):Option ((List bk)×Int×Int):=(pn n s at_ 6).bind λr1=>uG n s r1 n r1.2.1 0 r1.2.2 ([]:List bk)
def At(n:Nat)(bu:arY×Int×Int)(r1:Int×Int×Int)(r3:Int×Int×Int)(bw:Int)(ba:Int):Option (Request×Bool×Int×Int):=some ((⟨(ar0 ba),(ar0 bw),bu.1,[],false,⟨false,[],[]⟩⟩:Request),(cond (decide (r1.1≤32)) (decide (r3.1≤1099511627776)) false),bu.2.1,0)
def SD(s:arY)(at_:Int):Option (Request×Bool×Int×Int):=(qk n s at_).bind λr1=>cond (!decide (r1.2.2=0)) ( some ((⟨0,0,[],[],false,⟨false,[],[]⟩⟩:Request),false,0,r1.2.2)) ( (qk n s r1.2.1).bind λr3=>cond (!decide (r3.2.2=0)) ( some ((⟨0,0,[],[],false,⟨false,[],[]⟩⟩:Request),false,0,r3.2.2)) ( (ql n s r3.2.1 16).bind λbu=>cond (!decide (bu.2.2=0)) ( some ((⟨0,0,[],[],false,⟨false,[],[]⟩⟩:Request),false,0,bu.2.2)) ( cond (!(cond (decide (r1.1≤32)) (decide (r3.1≤1099511627776)) false)) ( At n bu r1 r3 0 0) ( At n bu r1 r3 r3.1 r1.1))))
def ED(n:Nat)(bQ:Int)(b4:Int)(v20:List arY):Option ((List arY)×Int×Int):=some (v20,bQ,b4)
def Au(s:arY)(r1:Int×Int×Int)(am:Int→Int→Int→(List arY)→Option ((List arY)×Int×Int))(ba:Int)(v9:Int)(v10:Int)(v11:List arY):Option ((List arY)×Int×Int):=cond (cond (decide (v9<r1.1)) (decide (v10=0)) false) ( (ql n s ba 24).bind λaS=>av (room (v11.length+([aS.1]:List arY).length) 16)<|am aS.2.1 (ar0 (v9+1)) aS.2.2 (v11++([aS.1]:List arY))) ( ED n ba v10 v11)
def uH(n:Nat)(s:arY)(r1:Int×Int×Int):Nat→Int→Int→Int→(List arY)→Option ((List arY)×Int×Int)
 | 0=>λ_ _ _ _=>none
 |m+1=>Au n s r1 (uH n s r1 m)
def Av(s:arY)(at_:Int):Option ((List arY)×Int×Int):=(pn n s at_ 64).bind λr1=>uH n s r1 n r1.2.1 0 r1.2.2 ([]:List arY)
def EE(r1:Request×Bool×Int×Int)(r3:(List bk)×Int×Int)(bu:Bool×Int×Int)(v9:List arY)(v10:List arY)(v11:Int):Option (Request×Int×Int):=Option.bind (cond (!(!r1.2.1)) (Al n (⟨r1.1.Client,r1.1.Seq,r1.1.a_,r3.1,bu.1,⟨r1.1.bD.eg,v9,v10⟩⟩:Request)) (some default)) λaS=>cond (cond (!r1.2.1) true (!decide (aS=0))) ( some ((⟨0,0,[],[],false,⟨false,[],[]⟩⟩:Request),0,5)) ( some ((⟨r1.1.Client,r1.1.Seq,r1.1.a_,r3.1,bu.1,⟨r1.1.bD.eg,v9,v10⟩⟩:Request),v11,0))
def KS(s:arY)(at_:Int):Option (Request×Int×Int):=(SD n s at_).bind λr1=>cond (!decide (r1.2.2.2=0)) ( some ((⟨0,0,[],[],false,⟨false,[],[]⟩⟩:Request),0,r1.2.2.2)) ( (EC n s r1.2.2.1).bind λr3=>cond (!decide (r3.2.2=0)) ( some ((⟨0,0,[],[],false,⟨false,[],[]⟩⟩:Request),0,r3.2.2)) ( (KR n s r3.2.1).bind λbu=>cond (!decide (bu.2.2=0)) ( some ((⟨0,0,[],[],false,⟨false,[],[]⟩⟩:Request),0,bu.2.2)) ( cond bu.1 ( (Av n s bu.2.1).bind λbC=>cond (!decide (bC.2.2=0)) ( some ((⟨0,0,[],[],false,⟨false,[],[]⟩⟩:Request),0,bC.2.2)) ( (Av n s bC.2.1).bind λcn=>cond (!decide (cn.2.2=0)) ( some ((⟨0,0,[],[],false,⟨false,[],[]⟩⟩:Request),0,cn.2.2)) ( EE n r1 r3 bu bC.1 cn.1 cn.2.1))) ( EE n r1 r3 bu r1.1.bD.Reads r1.1.bD.dw bu.2.1))))
def SE(n:Nat)(ct:Int)(aQ:List Request):Option ((List Request)×Int×Int):=some (aQ,ct,0)
def KT(s:arY)(r1:Int×Int×Int)(am:Int→Int→(List Request)→Option ((List Request)×Int×Int))(ba:Int)(v9:Int)(v10:List Request):Option ((List Request)×Int×Int):=cond (decide (v9<r1.1)) ( (KS n s ba).bind λbc=>cond (!decide (bc.2.2=0)) ( some (([]:List Request),0,bc.2.2)) ( av (room (v10.length+([bc.1]:List Request).length) 120)<|am bc.2.1 (ar0 (v9+1)) (v10++([bc.1]:List Request)))) ( SE n ba v10)
def xe(n:Nat)(s:arY)(r1:Int×Int×Int):Nat→Int→Int→(List Request)→Option ((List Request)×Int×Int)
 | 0=>λ_ _ _=>none
 |m+1=>KT n s r1 (xe n s r1 m)
def KU(s:arY)(at_:Int):Option ((List Request)×Int×Int):=(pn n s at_ 64).bind λr1=>cond (!decide (r1.2.2=0)) ( some (([]:List Request),0,r1.2.2)) ( xe n s r1 n r1.2.1 0 ([]:List Request))
def xf(s:arY)(at_:Int)(cq:Int):Option (Int×Int×Int):=(qk n s at_).bind λr1=>cond (!decide (r1.2.2=0)) ( some (0,0,r1.2.2)) ( cond (decide (cq<r1.1)) ( some (0,0,5)) ( some ((ar0 r1.1),r1.2.1,0)))
def SF(n:Nat)(r1:Int×Int×Int)(r3:Int×Int×Int)(v20:List bk)(v21:Int):Option (Outcome×Int×Int):=some ((⟨r1.1,r3.1,v20⟩:Outcome),v21,0)
def KV(s:arY)(bu:Int×Int×Int)(r1:Int×Int×Int)(r3:Int×Int×Int)(am:(List bk)→Int→Int→Option (Outcome×Int×Int))(v12:List bk)(dG:Int)(bP:Int):Option (Outcome×Int×Int):=cond (decide (bP<bu.1)) ( (An n s dG).bind λcY=>cond (!decide (cY.2.2=0)) ( some ((⟨0,0,[]⟩:Outcome),0,cY.2.2)) ( av (room (v12.length+([cY.1]:List bk).length) 32)<|am (v12++([cY.1]:List bk)) cY.2.1 (ar0 (bP+1)))) ( SF n r1 r3 v12 dG)
def xg(n:Nat)(s:arY)(bu:Int×Int×Int)(r1:Int×Int×Int)(r3:Int×Int×Int):Nat→(List bk)→Int→Int→Option (Outcome×Int×Int)
 | 0=>λ_ _ _=>none
 |m+1=>KV n s bu r1 r3 (xg n s bu r1 r3 m)
def KW(s:arY)(at_:Int):Option (Outcome×Int×Int):=(xf n s at_ 9999).bind λr1=>cond (!decide (r1.2.2=0)) ( some ((⟨0,0,[]⟩:Outcome),0,r1.2.2)) ( (xf n s r1.2.1 9999).bind λr3=>cond (!decide (r3.2.2=0)) ( some ((⟨0,0,[]⟩:Outcome),0,r3.2.2)) ( (pn n s r3.2.1 16).bind λbu=>cond (!decide (bu.2.2=0)) ( some ((⟨0,0,[]⟩:Outcome),0,bu.2.2)) ( xg n s bu r1 r3 n ([]:List bk) bu.2.1 0)))
def SG(n:Nat)(r1:Int×Int×Int)(bh:Int×Int×Int)(v21:List dS)(e_:Int):Option (bH×Int×Int):=some ((⟨r1.1,bh.1,v21⟩:bH),e_,0)
def KX(s:arY)(bh:Int×Int×Int)(bC:Int)(r1:Int×Int×Int)(hy:(List dS)→Int→Int→Option (bH×Int×Int))(dG:List dS)(bP:Int)(bA:Int):Option (bH×Int×Int):=cond (decide (bA<bC)) ( (KW n s bP).bind λcj=>cond (!decide (cj.2.2=0)) ( some ((⟨0,0,[]⟩:bH),0,cj.2.2)) ( av (room (dG.length+([(⟨r1.1,(ar0 (bh.1-(ar0 (bC-bA)))),cj.1⟩:dS)]:List dS).length) 56)<|hy (dG++([(⟨r1.1,(ar0 (bh.1-(ar0 (bC-bA)))),cj.1⟩:dS)]:List dS)) cj.2.1 (ar0 (bA+1)))) ( SG n r1 bh dG bP)
def Aw(n:Nat)(s:arY)(bh:Int×Int×Int)(bC:Int)(r1:Int×Int×Int):Nat→(List dS)→Int→Int→Option (bH×Int×Int)
 | 0=>λ_ _ _=>none
 |m+1=>KX n s bh bC r1 (Aw n s bh bC r1 m)
def Ax(s:arY)(bh:Int×Int×Int)(r1:Int×Int×Int)(v5:Int):Option (bH×Int×Int):=cond (!decide (v5=0)) ( some ((⟨0,0,[]⟩:bH),0,v5)) ( (Ea n bh.1).bind λbC=>Aw n s bh bC r1 n ([]:List dS) bh.2.1 0)
def Ay(s:arY)(r1:Int×Int×Int)(v2:Int):Option (bH×Int×Int):=cond (!decide (v2=0)) ( some ((⟨0,0,[]⟩:bH),0,v2)) ( (xf n s r1.2.1 1099511627776).bind λbh=>cond (cond (decide (bh.2.2=0)) (decide (bh.1<1)) false) ( Ax n s bh r1 5) ( Ax n s bh r1 bh.2.2))
def KY(s:arY)(at_:Int):Option (bH×Int×Int):=(xf n s at_ 32).bind λr1=>cond (cond (decide (r1.2.2=0)) (decide (r1.1<1)) false) ( Ay n s r1 5) ( Ay n s r1 r1.2.2)
def KZ(ct:Int)(aQ:List bH):Option ((List bH)×Int×Int):=(Eb n aQ).bind λen=>cond (!en) ( some (([]:List bH),0,5)) ( some (aQ,ct,0))
def K0(s:arY)(r1:Int×Int×Int)(am:Int→Int→(List bH)→Option ((List bH)×Int×Int))(ba:Int)(v9:Int)(v10:List bH):Option ((List bH)×Int×Int):=cond (decide (v9<r1.1)) ( (KY n s ba).bind λbc=>cond (!decide (bc.2.2=0)) ( some (([]:List bH),0,bc.2.2)) ( av (room (v10.length+([bc.1]:List bH).length) 40)<|am bc.2.1 (ar0 (v9+1)) (v10++([bc.1]:List bH)))) ( KZ n ba v10)
def xh(n:Nat)(s:arY)(r1:Int×Int×Int):Nat→Int→Int→(List bH)→Option ((List bH)×Int×Int)
 | 0=>λ_ _ _=>none
 |m+1=>K0 n s r1 (xh n s r1 m)
def K1(s:arY)(at_:Int):Option ((List bH)×Int×Int):=(pn n s at_ 32).bind λr1=>cond (!decide (r1.2.2=0)) ( some (([]:List bH),0,r1.2.2)) ( xh n s r1 n r1.2.1 0 ([]:List bH))
def SH(n:Nat)(bQ:Int)(b4:List bz):Option ((List bz)×Int×Int):=some (b4,bQ,0)
def K2(s:arY)(r1:Int×Int×Int)(am:Int→Int→(List bz)→Option ((List bz)×Int×Int))(v9:Int)(v10:Int)(v11:List bz):Option ((List bz)×Int×Int):=cond (decide (v10<r1.1)) ( (ql n s v9 24).bind λaS=>cond (!decide (aS.2.2=0)) ( some (([]:List bz),0,aS.2.2)) ( (nL n s aS.2.1).bind λcb=>cond (!decide (cb.2.2=0)) ( some (([]:List bz),0,cb.2.2)) ( av (room (v11.length+([(⟨aS.1,cb.1⟩:bz)]:List bz).length) 24)<|am cb.2.1 (ar0 (v10+1)) (v11++([(⟨aS.1,cb.1⟩:bz)]:List bz))))) ( SH n v9 v11)
def xi(n:Nat)(s:arY)(r1:Int×Int×Int):Nat→Int→Int→(List bz)→Option ((List bz)×Int×Int)
 | 0=>λ_ _ _=>none
 |m+1=>K2 n s r1 (xi n s r1 m)
def K3(s:arY)(at_:Int):Option ((List bz)×Int×Int):=(pn n s at_ 32).bind λr1=>cond (!decide (r1.2.2=0)) ( some (([]:List bz),0,r1.2.2)) ( xi n s r1 n r1.2.1 0 ([]:List bz))
def SI(n:Nat)(v11:Int):ar3:=some v11
def K4(n:Nat)(am:Int→Int→ar3)(s:arY)(at_:Int)(v6:Int)(ba:Int):ar3:=am ba (ar0 (v6+1))
def SJ(s:arY)(at_:Int)(am:Int→Int→ar3)(v5:Int)(v6:Int):ar3:=cond (decide (v6<at_)) ( av (aM v6 s.length)<|cond (decide ((((s.getD (v6).toNat 0).toNat:Nat):Int)=10)) ( K4 n am s at_ v6 (ar0 (v5+1))) ( K4 n am s at_ v6 v5)) ( SI n v5)
def EF(n:Nat)(s:arY)(at_:Int):Nat→Int→Int→ar3
 | 0=>λ_ _=>none
 |m+1=>SJ n s at_ (EF n s at_ m)
def K5(s:arY)(at_:Int):ar3:=EF n s at_ n 0 0
def SK(n:Nat)(e_:Int):ar3:=some e_
def SL(n:Nat)(am:Int→ar3)(s:arY)(fj:Int→ar3)(bA:Int):ar3:=av (!(decide (bA<((s.length:Nat):Int)))||aM bA s.length)<|cond (cond (decide (bA<((s.length:Nat):Int))) (!decide ((((s.getD (bA).toNat 0).toNat:Nat):Int)=10)) false) ( fj (ar0 (bA+1))) ( am bA)
def EG(n:Nat)(am:Int→ar3)(s:arY):Nat→Int→ar3
 | 0=>λ_=>none
 |m+1=>SL n am s (EG n am s m)
def SM(s:arY)(am:Int→ar3)(v11:Int):ar3:=cond (decide (v11<((s.length:Nat):Int))) ( av (aM v11 s.length)<|cond (decide ((((s.getD (v11).toNat 0).toNat:Nat):Int)=35)) ( EG n am s n v11) ( av (aM v11 s.length)<|av ((decide ((((s.getD (v11).toNat 0).toNat:Nat):Int)=32))||aM v11 s.length)<|av ((cond (decide ((((s.getD (v11).toNat 0).toNat:Nat):Int)=32)) true (decide ((((s.getD (v11).toNat 0).toNat:Nat):Int)=9)))||aM v11 s.length)<|cond (cond (cond (decide ((((s.getD (v11).toNat 0).toNat:Nat):Int)=32)) true (decide ((((s.getD (v11).toNat 0).toNat:Nat):Int)=9))) true (decide ((((s.getD (v11).toNat 0).toNat:Nat):Int)=10))) ( am (ar0 (v11+1))) ( some v11))) ( SK n v11)
def EH(n:Nat)(s:arY):Nat→Int→ar3
 | 0=>λ_=>none
 |m+1=>SM n s (EH n s m)
def EI(s:arY)(at_:Int):ar3:=EH n s n at_
def SN(n:Nat):Option (List arY):=some ([([61,61]:arY),([33,61]:arY),([60,61]:arY),([62,61]:arY),([43,43]:arY),([40]:arY),([41]:arY),([123]:arY),([125]:arY),([44]:arY),([59]:arY),([58]:arY),([61]:arY),([60]:arY),([62]:arY),([43]:arY),([45]:arY),([42]:arY),([47]:arY),([37]:arY)]:List arY)
def SO(n:Nat)(s:arY):ar2:=av (!(decide (0<((s.length:Nat):Int)))||aM 0 s.length)<|some (cond (decide (0<((s.length:Nat):Int))) (cond (!decide ((((s.getD 0 0).toNat:Nat):Int)=48)) true (decide (((s.length:Nat):Int)=1))) false)
def SP(s:arY)(am:Int→ar2)(v4:Int):ar2:=cond (decide (v4<((s.length:Nat):Int))) ( av (aM v4 s.length)<|av ((decide ((((s.getD (v4).toNat 0).toNat:Nat):Int)<48))||aM v4 s.length)<|cond (cond (decide ((((s.getD (v4).toNat 0).toNat:Nat):Int)<48)) true (decide (57<(((s.getD (v4).toNat 0).toNat:Nat):Int)))) ( some false) ( am (ar0 (v4+1)))) ( SO n s)
def Az(n:Nat)(s:arY):Nat→Int→ar2
 | 0=>λ_=>none
 |m+1=>SP n s (Az n s m)
def SQ(s:arY):ar2:=Az n s n 0
def SR(n:Nat)(s:arY)(bA:Int):Option (Int×Int):=cond (cond (decide (0<((s.length:Nat):Int))) (decide ((((s.getD 0 0).toNat:Nat):Int)=45)) false) ( some ((ar0 (IntKind.u64.wrap (0-bA))),0)) ( some ((ar0 bA),0))
def SS(s:arY)(v3:arY)(v4:Int)(fj:Int→Int→Option (Int×Int))(v10:Int)(v11:Int):Option (Int×Int):=cond (decide (v11<((v3.length:Nat):Int))) ( av (aM v11 v3.length)<|cond (decide ((IntKind.u64.wrap (Int.tdiv (IntKind.u64.wrap (v4-(IntKind.u64.wrap (IntKind.u8.wrap ((((v3.getD (v11).toNat 0).toNat:Nat):Int)-48))))) 10))<v10)) ( some (0,3)) ( fj (IntKind.u64.wrap ((IntKind.u64.wrap (v10*10))+(IntKind.u64.wrap (IntKind.u8.wrap ((((v3.getD (v11).toNat 0).toNat:Nat):Int)-48))))) (ar0 (v11+1)))) ( SR n s v10)
def EJ(n:Nat)(s:arY)(v3:arY)(v4:Int):Nat→Int→Int→Option (Int×Int)
 | 0=>λ_ _=>none
 |m+1=>SS n s v3 v4 (EJ n s v3 v4 m)
def K6(s:arY)(v3:arY)(v4:Int):Option (Int×Int):=(SQ n v3).bind λbu=>cond (cond (!bu) true (cond (cond (decide (0<((s.length:Nat):Int))) (decide ((((s.getD 0 0).toNat:Nat):Int)=45)) false) (decide (v3=([48]:arY))) false)) ( some (0,5)) ( EJ n s v3 v4 n 0 0)
def K7(s:arY):Option (Int×Int):=av (!(decide (0<((s.length:Nat):Int)))||aM 0 s.length)<|cond (cond (decide (0<((s.length:Nat):Int))) (decide ((((s.getD 0 0).toNat:Nat):Int)=45)) false) ( av (hv 1 s.length)<|K6 n s (s.drop 1) 9223372036854775808) ( K6 n s s 9223372036854775807)
def K8(w:arY):Option (Token×Int):=av (aM 0 w.length)<|(Aa n (((w.getD 0 0).toNat:Nat):Int)).bind λr2=>cond r2 ( (Ed n w).bind λbh=>cond bh ( some ((⟨2,w,0,0⟩:Token),0)) ( (sO n w).bind λbr=>cond br ( some ((⟨1,w,0,0⟩:Token),0)) ( some ((⟨0,[],0,0⟩:Token),2)))) ( (K7 n w).bind λcn=>cond (!decide (cn.2=0)) ( some ((⟨0,[],0,0⟩:Token),cn.2)) ( some ((⟨3,[],cn.1,0⟩:Token),0)))
def ST(n:Nat)(b4:Int):Option (arY×Int×Int):=some (([]:arY),b4,6)
def K9(n:Nat)(am:Int→arY→Option (arY×Int×Int))(s:arY)(v10:arY)(bP:Int):Option (arY×Int×Int):=cond (decide (((v10.length:Nat):Int)=64)) ( some (([]:arY),bP,2)) ( av (lG bP (ar0 (bP+1)) s.length)<|av (b' (v10.length+((s.take ((ar0 (bP+1))).toNat).drop (bP).toNat).length))<|am (ar0 (bP+1)) (v10++((s.take ((ar0 (bP+1))).toNat).drop (bP).toNat)))
def SU(s:arY)(am:Int→arY→Option (arY×Int×Int))(v9:Int)(v10:arY):Option (arY×Int×Int):=cond (decide (v9<((s.length:Nat):Int))) ( av (aM v9 s.length)<|cond (decide ((((s.getD (v9).toNat 0).toNat:Nat):Int)=34)) ( some (v10,(ar0 (v9+1)),0)) ( cond (decide ((((s.getD (v9).toNat 0).toNat:Nat):Int)=92)) ( cond (decide ((ar0 (v9+1))=((s.length:Nat):Int))) ( some (([]:arY),(ar0 (v9+1)),6)) ( av (aM (ar0 (v9+1)) s.length)<|av (!(!decide ((((s.getD ((ar0 (v9+1))).toNat 0).toNat:Nat):Int)=34))||aM (ar0 (v9+1)) s.length)<|cond (cond (!decide ((((s.getD ((ar0 (v9+1))).toNat 0).toNat:Nat):Int)=34)) (!decide ((((s.getD ((ar0 (v9+1))).toNat 0).toNat:Nat):Int)=92)) false) ( some (([]:arY),(ar0 (v9+1)),5)) ( K9 n am s v10 (ar0 (v9+1))))) ( cond (cond (decide ((((s.getD (v9).toNat 0).toNat:Nat):Int)<32)) true (decide (126<(((s.getD (v9).toNat 0).toNat:Nat):Int)))) ( some (([]:arY),v9,5)) ( K9 n am s v10 v9)))) ( ST n v9)
def EK(n:Nat)(s:arY):Nat→Int→arY→Option (arY×Int×Int)
 | 0=>λ_ _=>none
 |m+1=>SU n s (EK n s m)
def SV(s:arY)(at_:Int):Option (arY×Int×Int):=EK n s n (ar0 (at_+1)) ([]:arY)
def SW(n:Nat)(at_:Int):Option (Token×Int×Int):=some ((⟨0,[],0,0⟩:Token),at_,5)
def SX(s:arY)(at_:Int)(cP:(List arY))(am:Int→Option (Token×Int×Int))(bQ:Int):Option (Token×Int×Int):=cond (decide (bQ<((cP.length:Nat):Int))) ( av (aM bQ cP.length)<|av (!(decide ((ar0 (at_+(((ar1 cP bQ).length:Nat):Int)))≤((s.length:Nat):Int)))||aM bQ cP.length)<|av (!(decide ((ar0 (at_+(((ar1 cP bQ).length:Nat):Int)))≤((s.length:Nat):Int)))||lG at_ (ar0 (at_+(((ar1 cP bQ).length:Nat):Int))) s.length)<|av (!(decide ((ar0 (at_+(((ar1 cP bQ).length:Nat):Int)))≤((s.length:Nat):Int)))||aM bQ cP.length)<|cond (cond (decide ((ar0 (at_+(((ar1 cP bQ).length:Nat):Int)))≤((s.length:Nat):Int))) (decide (((s.take ((ar0 (at_+(((ar1 cP bQ).length:Nat):Int)))).toNat).drop (at_).toNat)=(ar1 cP bQ))) false) ( av (aM bQ cP.length)<|av (aM bQ cP.length)<|some ((⟨5,(ar1 cP bQ),0,0⟩:Token),(ar0 (at_+(((ar1 cP bQ).length:Nat):Int))),0)) ( am (ar0 (bQ+1)))) ( SW n at_)
def AA(n:Nat)(s:arY)(at_:Int)(cP:(List arY)):Nat→Int→Option (Token×Int×Int)
 | 0=>λ_=>none
 |m+1=>SX n s at_ cP (AA n s at_ cP m)
def K'(s:arY)(at_:Int):Option (Token×Int×Int):=av (aM at_ s.length)<|cond (decide ((((s.getD (at_).toNat 0).toNat:Nat):Int)=34)) ( (SV n s at_).bind λr3=>some ((⟨4,r3.1,0,0⟩:Token),r3.2.1,r3.2.2)) ( av (aM at_ s.length)<|(Ee n (((s.getD (at_).toNat 0).toNat:Nat):Int)).bind λbu=>cond bu ( (J_ n s at_).bind λbC=>av (lG at_ bC s.length)<|(K8 n ((s.take (bC).toNat).drop (at_).toNat)).bind λb7=>some (b7.1,bC,b7.2)) ( (SN n).bind λcP=>AA n s at_ cP n 0))
def SY(n:Nat)(aQ:List Token):Option ((List Token)×Int×Int):=some (aQ,0,0)
def K_(src:arY)(am:(List Token)→Int→Option ((List Token)×Int×Int))(v9:List Token)(v10:Int):Option ((List Token)×Int×Int):=cond (decide (v10<((src.length:Nat):Int))) ( (K5 n src v10).bind λbc=>(K' n src v10).bind λaS=>cond (!decide (aS.2.2=0)) ( some (([]:List Token),(ar0 (bc+1)),aS.2.2)) ( av (room (v9.length+([(⟨aS.1.Kind,aS.1.Text,aS.1.N,(ar0 (bc+1))⟩:Token)]:List Token).length) 40)<|(EI n src aS.2.1).bind λdK=>am (v9++([(⟨aS.1.Kind,aS.1.Text,aS.1.N,(ar0 (bc+1))⟩:Token)]:List Token)) dK)) ( SY n v9)
def AB(n:Nat)(src:arY):Nat→(List Token)→Int→Option ((List Token)×Int×Int)
 | 0=>λ_ _=>none
 |m+1=>K_ n src (AB n src m)
def La(src:arY):Option ((List Token)×Int×Int):=cond (decide (16384<((src.length:Nat):Int))) ( some (([]:List Token),0,2)) ( (EI n src 0).bind λr2=>AB n src n ([]:List Token) r2)
def Lb(n:Nat)(l:List Token)(at_:Int)(f:Int):ar3:=cond (cond (decide (f=0)) (decide (at_<((l.length:Nat):Int))) false) ( some 5) ( some f)
def Lc(n:Nat)(l:List Token)(at_:Int):ar3:=cond (decide (((l.length:Nat):Int)=0)) ( some 1) ( av (aM (cond (decide ((ar0 (((l.length:Nat):Int)-1))<at_)) (ar0 (((l.length:Nat):Int)-1)) at_) l.length)<|some ((ar1 l (cond (decide ((ar0 (((l.length:Nat):Int)-1))<at_)) (ar0 (((l.length:Nat):Int)-1)) at_)).lp))
def kD(n:Nat)(l:List Token)(at_:Int)(text:arY):ar2:=av (!(decide (at_<((l.length:Nat):Int)))||aM at_ l.length)<|av (!(decide (at_<((l.length:Nat):Int)))||((decide ((ar1 l at_).Kind=2))||aM at_ l.length))<|av (!(cond (decide (at_<((l.length:Nat):Int))) (cond (decide ((ar1 l at_).Kind=2)) true (decide ((ar1 l at_).Kind=5))) false)||aM at_ l.length)<|some (cond (cond (decide (at_<((l.length:Nat):Int))) (cond (decide ((ar1 l at_).Kind=2)) true (decide ((ar1 l at_).Kind=5))) false) (decide (((ar1 l at_).Text)=text)) false)
def uI(n:Nat)(l:List Token)(at_:Int):ar3:=cond (decide (((l.length:Nat):Int)≤at_)) ( some 6) ( some 5)
def Ld(n:Nat)(dG:Int):Option (Int×Int):=some (dG,0)
def Le(l:List Token)(words:List arY)(am:Int→Int→Option (Int×Int))(v6:Int)(bw:Int):Option (Int×Int):=cond (decide (bw<((words.length:Nat):Int))) ( av (aM bw words.length)<|(kD n l v6 (words.getD (bw).toNat default)).bind λb7=>cond (!b7) ( (uI n l v6).bind λcP=>some (v6,cP)) ( am (ar0 (v6+1)) (ar0 (bw+1)))) ( Ld n v6)
def EL(n:Nat)(l:List Token)(words:List arY):Nat→Int→Int→Option (Int×Int)
 | 0=>λ_ _=>none
 |m+1=>Le n l words (EL n l words m)
def kh(l:List Token)(at_:Int)(words:List arY):Option (Int×Int):=EL n l words n at_ 0
def SZ(n:Nat):ar3:=some 0
def S0(l:List Token)(at_:Int)(level:Int)(am:Int→ar3)(v6:Int):ar3:=cond (decide (v6<((([([111,114]:arY),([97,110,100]:arY),([61,61]:arY),([33,61]:arY),([60]:arY),([60,61]:arY),([62]:arY),([62,61]:arY),([43,43]:arY),([43]:arY),([45]:arY),([42]:arY),([47]:arY),([37]:arY)]:List arY).length:Nat):Int))) ( av (aM v6 ([1,2,4,4,4,4,4,4,5,6,6,7,7,7]:List Int).length)<|av (!(decide ((([1,2,4,4,4,4,4,4,5,6,6,7,7,7]:List Int).getD (v6).toNat default)=level))||aM v6 ([([111,114]:arY),([97,110,100]:arY),([61,61]:arY),([33,61]:arY),([60]:arY),([60,61]:arY),([62]:arY),([62,61]:arY),([43,43]:arY),([43]:arY),([45]:arY),([42]:arY),([47]:arY),([37]:arY)]:List arY).length)<|Option.bind (cond (decide ((([1,2,4,4,4,4,4,4,5,6,6,7,7,7]:List Int).getD (v6).toNat default)=level)) (kD n l at_ (([([111,114]:arY),([97,110,100]:arY),([61,61]:arY),([33,61]:arY),([60]:arY),([60,61]:arY),([62]:arY),([62,61]:arY),([43,43]:arY),([43]:arY),([45]:arY),([42]:arY),([47]:arY),([37]:arY)]:List arY).getD (v6).toNat default)) (some default)) λb7=>cond (cond (decide ((([1,2,4,4,4,4,4,4,5,6,6,7,7,7]:List Int).getD (v6).toNat default)=level)) b7 false) ( av (aM v6 ([17,16,10,11,12,13,14,15,19,4,5,6,7,8]:List Int).length)<|some (([17,16,10,11,12,13,14,15,19,4,5,6,7,8]:List Int).getD (v6).toNat default)) ( am (ar0 (v6+1)))) ( SZ n)
def EM(n:Nat)(l:List Token)(at_:Int)(level:Int):Nat→Int→ar3
 | 0=>λ_=>none
 |m+1=>S0 n l at_ level (EM n l at_ level m)
def S1(l:List Token)(at_:Int)(level:Int):ar3:=EM n l at_ level n 0
def Lf(l:List Token)(at_:Int)(level:Int):ar3:=Option.bind (cond (decide (level=3)) (kD n l at_ ([110,111,116]:arY)) (some default)) λr1=>cond (cond (decide (level=3)) r1 false) ( some 18) ( Option.bind (cond (decide (level=8)) (kD n l at_ ([45]:arY)) (some default)) λr3=>cond (cond (decide (level=8)) r3 false) ( some 9) ( some 0))
def S2(n:Nat):ar3:=some 0
def S3(l:List Token)(at_:Int)(am:Int→ar3)(v5:Int):ar3:=cond (decide (v5<((([([116,101,120,116]:arY),([108,101,110]:arY),([103,101,116,105,110,116]:arY),([103,101,116,115,116,114]:arY),([104,97,115]:arY),([110,111,119]:arY),([114,97,110,100,111,109]:arY),([110,111,100,101]:arY)]:List arY).length:Nat):Int))) ( av (aM v5 ([([116,101,120,116]:arY),([108,101,110]:arY),([103,101,116,105,110,116]:arY),([103,101,116,115,116,114]:arY),([104,97,115]:arY),([110,111,119]:arY),([114,97,110,100,111,109]:arY),([110,111,100,101]:arY)]:List arY).length)<|(kD n l at_ (([([116,101,120,116]:arY),([108,101,110]:arY),([103,101,116,105,110,116]:arY),([103,101,116,115,116,114]:arY),([104,97,115]:arY),([110,111,119]:arY),([114,97,110,100,111,109]:arY),([110,111,100,101]:arY)]:List arY).getD (v5).toNat default)).bind λbC=>cond bC ( av (aM v5 ([20,21,22,23,24,25,26,27]:List Int).length)<|some (([20,21,22,23,24,25,26,27]:List Int).getD (v5).toNat default)) ( am (ar0 (v5+1)))) ( S2 n)
def EN(n:Nat)(l:List Token)(at_:Int):Nat→Int→ar3
 | 0=>λ_=>none
 |m+1=>S3 n l at_ (EN n l at_ m)
def S4(l:List Token)(at_:Int):ar3:=EN n l at_ n 0
def xj(n:Nat)(h6:(List Token)→Int→Int→Int→Option (Expr×Int×Int))(iT:(List Token)→Int→Int→Option (Expr×Int×Int))(iA:(List Token)→Int→Int→Option (Expr×Int×Int))(v30:Int)(v31:Int):Option (Expr×Int×Int):=some ((⟨0,0,[],[]⟩:Expr),v30,v31)
def sT(h6:(List Token)→Int→Int→Int→Option (Expr×Int×Int))(iT:(List Token)→Int→Int→Option (Expr×Int×Int))(iA:(List Token)→Int→Int→Option (Expr×Int×Int))(l:List Token)(level:Int)(c6:Int)(am:Int→Int→arY→(List Expr)→Int→Int→Option (Expr×Int×Int))(ct:Int)(aQ:Int)(bQ:arY)(b4:List Expr)(v20:Int)(v21:Int):Option (Expr×Int×Int):=cond (decide (v21=0)) ( (S1 n l v20 level).bind λde=>cond (decide (de=0)) ( some ((⟨ct,aQ,bQ,b4⟩:Expr),v20,0)) ( (h6 l (ar0 (v20+1)) (ar0 (level+1)) c6).bind λea=>cond (cond (decide (ea.2.2=0)) (decide (level=4)) false) ( some ((⟨de,0,[],[⟨ct,aQ,bQ,b4⟩,ea.1]⟩:Expr),ea.2.1,0)) ( am de 0 ([]:arY) ([(⟨ct,aQ,bQ,b4⟩:Expr),ea.1]:List Expr) ea.2.1 ea.2.2))) ( xj n h6 iT iA v20 v21)
def qm(n:Nat)(h6:(List Token)→Int→Int→Int→Option (Expr×Int×Int))(iT:(List Token)→Int→Int→Option (Expr×Int×Int))(iA:(List Token)→Int→Int→Option (Expr×Int×Int))(l:List Token)(level:Int)(c6:Int):Nat→Int→Int→arY→(List Expr)→Int→Int→Option (Expr×Int×Int)
 | 0=>λ_ _ _ _ _ _=>none
 |m+1=>sT n h6 iT iA l level c6 (qm n h6 iT iA l level c6 m)
def EO(h6:(List Token)→Int→Int→Int→Option (Expr×Int×Int))(iT:(List Token)→Int→Int→Option (Expr×Int×Int))(iA:(List Token)→Int→Int→Option (Expr×Int×Int))(l:List Token)(at_:Int)(level:Int)(c6:Int):Option (Expr×Int×Int):=cond (decide (level=9)) ( (iT l at_ c6).bind λr2=>some (r2.1,r2.2.1,r2.2.2)) ( (Lf n l at_ level).bind λr3=>cond (!decide (r3=0)) ( cond (decide (c6=24)) ( some ((⟨0,0,[],[]⟩:Expr),at_,2)) ( (h6 l (ar0 (at_+1)) level (ar0 (c6+1))).bind λbr=>some ((⟨r3,0,[],[br.1]⟩:Expr),br.2.1,br.2.2))) ( (h6 l at_ (ar0 (level+1)) c6).bind λbC=>qm n h6 iT iA l level c6 n bC.1.Op bC.1.N bC.1.S bC.1.au bC.2.1 bC.2.2))
def EP(h6:(List Token)→Int→Int→Int→Option (Expr×Int×Int))(iT:(List Token)→Int→Int→Option (Expr×Int×Int))(iA:(List Token)→Int→Int→Option (Expr×Int×Int))(l:List Token)(at_:Int)(c6:Int):Option (Expr×Int×Int):=(S4 n l at_).bind λbu=>cond (decide (25≤bu)) ( (kh n l (ar0 (at_+1)) ([([40]:arY),([41]:arY)]:List arY)).bind λbC=>some ((⟨bu,0,[],[]⟩:Expr),bC.1,bC.2)) ( Option.bind (cond (decide (bu=0)) (kD n l at_ ([40]:arY)) (some default)) λcn=>cond (cond (decide (bu=0)) (!cn) false) ( (uI n l at_).bind λcP=>some ((⟨0,0,[],[]⟩:Expr),at_,cP)) ( cond (decide (c6=24)) ( some ((⟨0,0,[],[]⟩:Expr),at_,2)) ( cond (decide (bu=0)) ( (iA l at_ (ar0 (c6+1))).bind λcb=>some (cb.1,cb.2.1,cb.2.2)) ( (iA l (ar0 (at_+1)) (ar0 (c6+1))).bind λdK=>some ((⟨bu,0,[],[dK.1]⟩:Expr),dK.2.1,dK.2.2)))))
def Lg(h6:(List Token)→Int→Int→Int→Option (Expr×Int×Int))(iT:(List Token)→Int→Int→Option (Expr×Int×Int))(iA:(List Token)→Int→Int→Option (Expr×Int×Int))(l:List Token)(at_:Int)(c6:Int):Option (Expr×Int×Int):=cond (decide (at_<((l.length:Nat):Int))) ( av (aM at_ l.length)<|cond (decide ((ar1 l at_).Kind=3)) ( av (aM at_ l.length)<|some ((⟨1,(ar1 l at_).N,[],[]⟩:Expr),(ar0 (at_+1)),0)) ( cond (decide ((ar1 l at_).Kind=4)) ( av (aM at_ l.length)<|some ((⟨2,0,(ar1 l at_).Text,[]⟩:Expr),(ar0 (at_+1)),0)) ( cond (decide ((ar1 l at_).Kind=1)) ( av (aM at_ l.length)<|some ((⟨3,0,(ar1 l at_).Text,[]⟩:Expr),(ar0 (at_+1)),0)) ( EP n h6 iT iA l at_ c6)))) ( EP n h6 iT iA l at_ c6)
def EQ(h6:(List Token)→Int→Int→Int→Option (Expr×Int×Int))(iT:(List Token)→Int→Int→Option (Expr×Int×Int))(iA:(List Token)→Int→Int→Option (Expr×Int×Int))(l:List Token)(at_:Int)(c6:Int):Option (Expr×Int×Int):=(kh n l at_ ([([40]:arY)]:List arY)).bind λr1=>cond (!decide (r1.2=0)) ( some ((⟨0,0,[],[]⟩:Expr),r1.1,r1.2)) ( (h6 l r1.1 1 c6).bind λr3=>cond (!decide (r3.2.2=0)) ( some ((⟨0,0,[],[]⟩:Expr),r3.2.1,r3.2.2)) ( (kh n l r3.2.1 ([([41]:arY)]:List arY)).bind λbu=>some (r3.1,bu.1,bu.2)))
def po:Nat→((List Token)→Int→Int→Int→Option (Expr×Int×Int))×((List Token)→Int→Int→Option (Expr×Int×Int))×((List Token)→Int→Int→Option (Expr×Int×Int))
 | 0=>(λ_ _ _ _=>none,λ_ _ _=>none,λ_ _ _=>none)
 |m+1=>(EO m ((po m).1) ((po m).2.1) ((po m).2.2),Lg m ((po m).1) ((po m).2.1) ((po m).2.2),EQ m ((po m).1) ((po m).2.1) ((po m).2.2))
def nM:(List Token)→Int→Int→Int→Option (Expr×Int×Int):=(po n).1
def sU:(List Token)→Int→Int→Option (Expr×Int×Int):=(po n).2.1
def uJ:(List Token)→Int→Int→Option (Expr×Int×Int):=(po n).2.2
def S5(n:Nat):ar3:=some 0
def S6(l:List Token)(at_:Int)(am:Int→ar3)(v5:Int):ar3:=cond (decide (v5<((([([108,101,116]:arY),([112,117,116]:arY),([100,101,108,101,116,101]:arY),([105,102]:arY),([102,111,114]:arY),([101,109,105,116]:arY),([97,98,111,114,116]:arY)]:List arY).length:Nat):Int))) ( av (aM v5 ([([108,101,116]:arY),([112,117,116]:arY),([100,101,108,101,116,101]:arY),([105,102]:arY),([102,111,114]:arY),([101,109,105,116]:arY),([97,98,111,114,116]:arY)]:List arY).length)<|(kD n l at_ (([([108,101,116]:arY),([112,117,116]:arY),([100,101,108,101,116,101]:arY),([105,102]:arY),([102,111,114]:arY),([101,109,105,116]:arY),([97,98,111,114,116]:arY)]:List arY).getD (v5).toNat default)).bind λbC=>cond bC ( av (aM v5 ([1,3,4,5,6,7,8]:List Int).length)<|some (([1,3,4,5,6,7,8]:List Int).getD (v5).toNat default)) ( am (ar0 (v5+1)))) ( S5 n)
def ER(n:Nat)(l:List Token)(at_:Int):Nat→Int→ar3
 | 0=>λ_=>none
 |m+1=>S6 n l at_ (ER n l at_ m)
def S7(l:List Token)(at_:Int):ar3:=ER n l at_ n 0
def rr(l:List Token)(at_:Int)(kind:Int):Option (Token×Int×Int):=av ((decide (((l.length:Nat):Int)≤at_))||aM at_ l.length)<|cond (cond (decide (((l.length:Nat):Int)≤at_)) true (!decide ((ar1 l at_).Kind=kind))) ( (uI n l at_).bind λr3=>some ((⟨0,[],0,0⟩:Token),at_,r3)) ( av (aM at_ l.length)<|some ((ar1 l at_),(ar0 (at_+1)),0))
def S8(n:Nat)(fo:(List Token)→Int→Int→Option ((List Stmt)×Int×Int))(fw:(List Token)→Int→Int→Option (Stmt×Int×Int))(fv:(List Token)→Int→Stmt→Int→Option (Stmt×Int×Int))(fx:(List Token)→Int→Stmt→Int→Option (Stmt×Int×Int))(ct:Int)(aQ:List Stmt):Option ((List Stmt)×Int×Int):=some (aQ,(ar0 (ct+1)),0)
def S9(fo:(List Token)→Int→Int→Option ((List Stmt)×Int×Int))(fw:(List Token)→Int→Int→Option (Stmt×Int×Int))(fv:(List Token)→Int→Stmt→Int→Option (Stmt×Int×Int))(fx:(List Token)→Int→Stmt→Int→Option (Stmt×Int×Int))(l:List Token)(depth:Int)(am:Int→(List Stmt)→Option ((List Stmt)×Int×Int))(v9:Int)(v10:List Stmt):Option ((List Stmt)×Int×Int):=(kD n l v9 ([125]:arY)).bind λbc=>cond (!bc) ( (fw l v9 depth).bind λaS=>cond (!decide (aS.2.2=0)) ( some (([]:List Stmt),aS.2.1,aS.2.2)) ( av (room (v10.length+([(⟨aS.1.Op,aS.1.Name,aS.1.Max,⟨aS.1.A.Op,aS.1.A.N,aS.1.A.S,aS.1.A.au⟩,⟨aS.1.B.Op,aS.1.B.N,aS.1.B.S,aS.1.B.au⟩,aS.1.Body,aS.1.bK⟩:Stmt)]:List Stmt).length) 192)<|am aS.2.1 (v10++([(⟨aS.1.Op,aS.1.Name,aS.1.Max,⟨aS.1.A.Op,aS.1.A.N,aS.1.A.S,aS.1.A.au⟩,⟨aS.1.B.Op,aS.1.B.N,aS.1.B.S,aS.1.B.au⟩,aS.1.Body,aS.1.bK⟩:Stmt)]:List Stmt)))) ( S8 n fo fw fv fx v9 v10)
def ES(n:Nat)(fo:(List Token)→Int→Int→Option ((List Stmt)×Int×Int))(fw:(List Token)→Int→Int→Option (Stmt×Int×Int))(fv:(List Token)→Int→Stmt→Int→Option (Stmt×Int×Int))(fx:(List Token)→Int→Stmt→Int→Option (Stmt×Int×Int))(l:List Token)(depth:Int):Nat→Int→(List Stmt)→Option ((List Stmt)×Int×Int)
 | 0=>λ_ _=>none
 |m+1=>S9 n fo fw fv fx l depth (ES n fo fw fv fx l depth m)
def Lh(fo:(List Token)→Int→Int→Option ((List Stmt)×Int×Int))(fw:(List Token)→Int→Int→Option (Stmt×Int×Int))(fv:(List Token)→Int→Stmt→Int→Option (Stmt×Int×Int))(fx:(List Token)→Int→Stmt→Int→Option (Stmt×Int×Int))(l:List Token)(at_:Int)(depth:Int):Option ((List Stmt)×Int×Int):=(kh n l at_ ([([123]:arY)]:List arY)).bind λr1=>cond (!decide (r1.2=0)) ( some (([]:List Stmt),r1.1,r1.2)) ( cond (decide (12<depth)) ( some (([]:List Stmt),(ar0 (r1.1-1)),2)) ( ES n fo fw fv fx l depth n r1.1 ([]:List Stmt)))
def uK(n:Nat)(fo:(List Token)→Int→Int→Option ((List Stmt)×Int×Int))(fw:(List Token)→Int→Int→Option (Stmt×Int×Int))(fv:(List Token)→Int→Stmt→Int→Option (Stmt×Int×Int))(fx:(List Token)→Int→Stmt→Int→Option (Stmt×Int×Int))(l:List Token)(depth:Int)(v4:Int)(ba:arY)(aS:Expr×Int×Int)(aQ:List Expr)(bQ:Int)(b4:Int)(v20:arY)(v21:Int):Option (Stmt×Int×Int):=(fx l v21 (⟨v4,ba,0,aS.1,⟨bQ,b4,v20,aQ⟩,[],[]⟩:Stmt) depth).bind λde=>some ((⟨de.1.Op,de.1.Name,de.1.Max,⟨de.1.A.Op,de.1.A.N,de.1.A.S,de.1.A.au⟩,⟨de.1.B.Op,de.1.B.N,de.1.B.S,de.1.B.au⟩,de.1.Body,de.1.bK⟩:Stmt),de.2.1,de.2.2)
def ET(fo:(List Token)→Int→Int→Option ((List Stmt)×Int×Int))(fw:(List Token)→Int→Int→Option (Stmt×Int×Int))(fv:(List Token)→Int→Stmt→Int→Option (Stmt×Int×Int))(fx:(List Token)→Int→Stmt→Int→Option (Stmt×Int×Int))(l:List Token)(aS:Expr×Int×Int)(depth:Int)(v4:Int)(ba:arY)(bP:arY):Option (Stmt×Int×Int):=(kh n l aS.2.1 ([bP]:List arY)).bind λcY=>cond (!decide (cY.2=0)) ( some ((⟨v4,ba,0,aS.1,⟨0,0,[],[]⟩,[],[]⟩:Stmt),cY.1,cY.2)) ( (nM n l cY.1 1 0).bind λcj=>cond (!decide (cj.2.2=0)) ( some ((⟨v4,ba,0,aS.1,cj.1,[],[]⟩:Stmt),cj.2.1,cj.2.2)) ( uK n fo fw fv fx l depth v4 ba aS cj.1.au cj.1.Op cj.1.N cj.1.S cj.2.1))
def m8(fo:(List Token)→Int→Int→Option ((List Stmt)×Int×Int))(fw:(List Token)→Int→Int→Option (Stmt×Int×Int))(fv:(List Token)→Int→Stmt→Int→Option (Stmt×Int×Int))(fx:(List Token)→Int→Stmt→Int→Option (Stmt×Int×Int))(l:List Token)(depth:Int)(v4:Int)(ba:arY)(v9:Int):Option (Stmt×Int×Int):=cond (decide (v4=8)) ( (fv l v9 (⟨v4,ba,0,⟨0,0,[],[]⟩,⟨0,0,[],[]⟩,[],[]⟩:Stmt) depth).bind λbc=>some ((⟨bc.1.Op,bc.1.Name,bc.1.Max,⟨bc.1.A.Op,bc.1.A.N,bc.1.A.S,bc.1.A.au⟩,⟨bc.1.B.Op,bc.1.B.N,bc.1.B.S,bc.1.B.au⟩,bc.1.Body,bc.1.bK⟩:Stmt),bc.2.1,bc.2.2)) ( (nM n l v9 1 0).bind λaS=>cond (!decide (aS.2.2=0)) ( some ((⟨v4,ba,0,aS.1,⟨0,0,[],[]⟩,[],[]⟩:Stmt),aS.2.1,aS.2.2)) ( cond (cond (decide (v4=3)) true (decide (v4=6))) ( cond (decide (v4=6)) ( ET n fo fw fv fx l aS depth v4 ba ([116,111]:arY)) ( ET n fo fw fv fx l aS depth v4 ba ([61]:arY))) ( uK n fo fw fv fx l depth v4 ba aS ([]:List Expr) 0 0 ([]:arY) aS.2.1)))
def qn(fo:(List Token)→Int→Int→Option ((List Stmt)×Int×Int))(fw:(List Token)→Int→Int→Option (Stmt×Int×Int))(fv:(List Token)→Int→Stmt→Int→Option (Stmt×Int×Int))(fx:(List Token)→Int→Stmt→Int→Option (Stmt×Int×Int))(l:List Token)(depth:Int)(v4:Int)(v5:Int):Option (Stmt×Int×Int):=cond (cond (cond (decide (v4=1)) true (decide (v4=2))) true (decide (v4=6))) ( (rr n l (ar0 (v5+1)) 1).bind λbr=>cond (!decide (br.2.2=0)) ( some ((⟨v4,[],0,⟨0,0,[],[]⟩,⟨0,0,[],[]⟩,[],[]⟩:Stmt),br.2.1,br.2.2)) ( (kh n l br.2.1 ([([61]:arY)]:List arY)).bind λbC=>cond (!decide (bC.2=0)) ( some ((⟨v4,br.1.Text,0,⟨0,0,[],[]⟩,⟨0,0,[],[]⟩,[],[]⟩:Stmt),bC.1,bC.2)) ( m8 n fo fw fv fx l depth v4 br.1.Text bC.1))) ( m8 n fo fw fv fx l depth v4 ([]:arY) (ar0 (v5+1)))
def Li(fo:(List Token)→Int→Int→Option ((List Stmt)×Int×Int))(fw:(List Token)→Int→Int→Option (Stmt×Int×Int))(fv:(List Token)→Int→Stmt→Int→Option (Stmt×Int×Int))(fx:(List Token)→Int→Stmt→Int→Option (Stmt×Int×Int))(l:List Token)(at_:Int)(depth:Int):Option (Stmt×Int×Int):=(S7 n l at_).bind λr1=>cond (decide (r1=0)) ( av ((decide (((l.length:Nat):Int)≤at_))||aM at_ l.length)<|cond (cond (decide (((l.length:Nat):Int)≤at_)) true (!decide ((ar1 l at_).Kind=1))) ( (uI n l at_).bind λr3=>some ((⟨r1,[],0,⟨0,0,[],[]⟩,⟨0,0,[],[]⟩,[],[]⟩:Stmt),at_,r3)) ( qn n fo fw fv fx l depth 2 (ar0 (at_-1)))) ( qn n fo fw fv fx l depth r1 at_)
def EU(fo:(List Token)→Int→Int→Option ((List Stmt)×Int×Int))(fw:(List Token)→Int→Int→Option (Stmt×Int×Int))(fv:(List Token)→Int→Stmt→Int→Option (Stmt×Int×Int))(fx:(List Token)→Int→Stmt→Int→Option (Stmt×Int×Int))(l:List Token)(at_:Int)(s:Stmt)(depth:Int):Option (Stmt×Int×Int):=(rr n l at_ 3).bind λr1=>cond (!decide (r1.2.2=0)) ( some ((⟨s.Op,s.Name,s.Max,⟨s.A.Op,s.A.N,s.A.S,s.A.au⟩,⟨s.B.Op,s.B.N,s.B.S,s.B.au⟩,s.Body,s.bK⟩:Stmt),r1.2.1,r1.2.2)) ( cond (decide (s.Op=8)) ( (kh n l r1.2.1 ([([59]:arY)]:List arY)).bind λbh=>some ((⟨s.Op,s.Name,r1.1.N,⟨s.A.Op,s.A.N,s.A.S,s.A.au⟩,⟨s.B.Op,s.B.N,s.B.S,s.B.au⟩,s.Body,s.bK⟩:Stmt),bh.1,bh.2)) ( (fo l r1.2.1 (ar0 (depth+1))).bind λbu=>some ((⟨s.Op,s.Name,r1.1.N,⟨s.A.Op,s.A.N,s.A.S,s.A.au⟩,⟨s.B.Op,s.B.N,s.B.S,s.B.au⟩,bu.1,s.bK⟩:Stmt),bu.2.1,bu.2.2)))
def Lj(n:Nat)(fo:(List Token)→Int→Int→Option ((List Stmt)×Int×Int))(fw:(List Token)→Int→Int→Option (Stmt×Int×Int))(fv:(List Token)→Int→Stmt→Int→Option (Stmt×Int×Int))(fx:(List Token)→Int→Stmt→Int→Option (Stmt×Int×Int))(s:Stmt)(br:(List Stmt)×Int×Int)(v9:List Stmt)(v10:Int)(v11:Int):Option (Stmt×Int×Int):=some ((⟨s.Op,s.Name,s.Max,⟨s.A.Op,s.A.N,s.A.S,s.A.au⟩,⟨s.B.Op,s.B.N,s.B.S,s.B.au⟩,br.1,v9⟩:Stmt),v10,v11)
def AC(fo:(List Token)→Int→Int→Option ((List Stmt)×Int×Int))(fw:(List Token)→Int→Int→Option (Stmt×Int×Int))(fv:(List Token)→Int→Stmt→Int→Option (Stmt×Int×Int))(fx:(List Token)→Int→Stmt→Int→Option (Stmt×Int×Int))(l:List Token)(at_:Int)(s:Stmt)(depth:Int):Option (Stmt×Int×Int):=cond (decide (s.Op=6)) ( (kh n l at_ ([([109,97,120]:arY)]:List arY)).bind λr2=>cond (!decide (r2.2=0)) ( some ((⟨s.Op,s.Name,s.Max,⟨s.A.Op,s.A.N,s.A.S,s.A.au⟩,⟨s.B.Op,s.B.N,s.B.S,s.B.au⟩,s.Body,s.bK⟩:Stmt),r2.1,r2.2)) ( (fv l r2.1 (⟨s.Op,s.Name,s.Max,⟨s.A.Op,s.A.N,s.A.S,s.A.au⟩,⟨s.B.Op,s.B.N,s.B.S,s.B.au⟩,s.Body,s.bK⟩:Stmt) depth).bind λbh=>some ((⟨bh.1.Op,bh.1.Name,bh.1.Max,⟨bh.1.A.Op,bh.1.A.N,bh.1.A.S,bh.1.A.au⟩,⟨bh.1.B.Op,bh.1.B.N,bh.1.B.S,bh.1.B.au⟩,bh.1.Body,bh.1.bK⟩:Stmt),bh.2.1,bh.2.2))) ( cond (decide (s.Op=5)) ( (fo l at_ (ar0 (depth+1))).bind λbr=>Option.bind (cond (decide (br.2.2=0)) (kD n l br.2.1 ([101,108,115,101]:arY)) (some default)) λbC=>cond (cond (decide (br.2.2=0)) bC false) ( (fo l (ar0 (br.2.1+1)) (ar0 (depth+1))).bind λcn=>Lj n fo fw fv fx s br cn.1 cn.2.1 cn.2.2) ( Lj n fo fw fv fx s br s.bK br.2.1 br.2.2)) ( (kh n l at_ ([([59]:arY)]:List arY)).bind λcb=>some ((⟨s.Op,s.Name,s.Max,⟨s.A.Op,s.A.N,s.A.S,s.A.au⟩,⟨s.B.Op,s.B.N,s.B.S,s.B.au⟩,s.Body,s.bK⟩:Stmt),cb.1,cb.2)))
def k2:Nat→((List Token)→Int→Int→Option ((List Stmt)×Int×Int))×((List Token)→Int→Int→Option (Stmt×Int×Int))×((List Token)→Int→Stmt→Int→Option (Stmt×Int×Int))×((List Token)→Int→Stmt→Int→Option (Stmt×Int×Int))
 | 0=>(λ_ _ _=>none,λ_ _ _=>none,λ_ _ _ _=>none,λ_ _ _ _=>none)
 |m+1=>(Lh m ((k2 m).1) ((k2 m).2.1) ((k2 m).2.2.1) ((k2 m).2.2.2),Li m ((k2 m).1) ((k2 m).2.1) ((k2 m).2.2.1) ((k2 m).2.2.2),EU m ((k2 m).1) ((k2 m).2.1) ((k2 m).2.2.1) ((k2 m).2.2.2),AC m ((k2 m).1) ((k2 m).2.1) ((k2 m).2.2.1) ((k2 m).2.2.2))
def mh:(List Token)→Int→Int→Option ((List Stmt)×Int×Int):=(k2 n).1
def nN:(List Token)→Int→Int→Option (Stmt×Int×Int):=(k2 n).2.1
def oB:(List Token)→Int→Stmt→Int→Option (Stmt×Int×Int):=(k2 n).2.2.1
def m9:(List Token)→Int→Stmt→Int→Option (Stmt×Int×Int):=(k2 n).2.2.2
def EV(dM:Int→(List Param)→Option ((List Param)×Int×Int))(l:List Token)(en:Int×Int)(ct:List Param)(cV:Token×Int×Int)(gP:Int):Option ((List Param)×Int×Int):=av (room (ct.length+([(⟨cV.1.Text,gP⟩:Param)]:List Param).length) 24)<|(kD n l (ar0 (en.1+1)) ([41]:arY)).bind λft=>cond ft ( some ((ct++([(⟨cV.1.Text,gP⟩:Param)]:List Param)),(ar0 ((ar0 (en.1+1))+1)),0)) ( (kh n l (ar0 (en.1+1)) ([([44]:arY)]:List arY)).bind λr26=>cond (!decide (r26.2=0)) ( some (([]:List Param),r26.1,r26.2)) ( dM r26.1 (ct++([(⟨cV.1.Text,gP⟩:Param)]:List Param))))
def EW(l:List Token)(dM:Int→(List Param)→Option ((List Param)×Int×Int))(bA:Int)(ct:List Param):Option ((List Param)×Int×Int):=(rr n l bA 1).bind λcV=>cond (!decide (cV.2.2=0)) ( some (([]:List Param),cV.2.1,cV.2.2)) ( (kh n l cV.2.1 ([([58]:arY)]:List arY)).bind λen=>cond (!decide (en.2=0)) ( some (([]:List Param),en.1,en.2)) ( (kD n l en.1 ([105,110,116]:arY)).bind λe9=>cond e9 ( EV n dM l en ct cV 1) ( (kD n l en.1 ([115,116,114]:arY)).bind λdZ=>cond dZ ( EV n dM l en ct cV 2) ( (kD n l en.1 ([98,111,111,108]:arY)).bind λe0=>cond e0 ( EV n dM l en ct cV 3) ( (uI n l en.1).bind λde=>some (([]:List Param),en.1,de))))))
def uL(n:Nat)(l:List Token):Nat→Int→(List Param)→Option ((List Param)×Int×Int)
 | 0=>λ_ _=>none
 |m+1=>EW n l (uL n l m)
def S'(l:List Token)(at_:Int):Option ((List Param)×Int×Int):=(kD n l at_ ([41]:arY)).bind λr1=>cond r1 ( some (([]:List Param),(ar0 (at_+1)),0)) ( uL n l n at_ ([]:List Param))
def AD(l:List Token)(at_:Int):Option (a_×Int×Int):=(kh n l at_ ([([112,114,111,99]:arY)]:List arY)).bind λr1=>cond (!decide (r1.2=0)) ( some ((⟨[],[],[]⟩:a_),r1.1,r1.2)) ( (rr n l r1.1 1).bind λr3=>cond (!decide (r3.2.2=0)) ( some ((⟨[],[],[]⟩:a_),r3.2.1,r3.2.2)) ( (kh n l r3.2.1 ([([40]:arY)]:List arY)).bind λbu=>cond (!decide (bu.2=0)) ( some ((⟨[],[],[]⟩:a_),bu.1,bu.2)) ( (S' n l bu.1).bind λbC=>cond (!decide (bC.2.2=0)) ( some ((⟨[],[],[]⟩:a_),bC.2.1,bC.2.2)) ( (mh n l bC.2.1 0).bind λb7=>some ((⟨r3.1.Text,bC.1,b7.1⟩:a_),b7.2.1,b7.2.2)))))
def EX(src:arY):Option (a_×Int×Int):=(La n src).bind λr1=>cond (!decide (r1.2.2=0)) ( some ((⟨[],[],[]⟩:a_),r1.2.1,r1.2.2)) ( (AD n r1.1 0).bind λr3=>(Lb n r1.1 r3.2.1 r3.2.2).bind λbh=>cond (!decide (bh=0)) ( (Lc n r1.1 r3.2.1).bind λbr=>some ((⟨[],[],[]⟩:a_),br,bh)) ( (Em n r3.1).bind λbC=>cond (!decide (bC=0)) ( some ((⟨[],[],[]⟩:a_),0,bC)) ( some (r3.1,0,0))))
def S_(n:Nat)(aQ:List a_):Option ((List a_)×Bool):=some (aQ,true)
def Lk(l:List arY)(am:(List a_)→Int→Option ((List a_)×Bool))(ba:List a_)(v9:Int):Option ((List a_)×Bool):=cond (decide (v9<((l.length:Nat):Int))) ( av (aM v9 l.length)<|(EX n (ar1 l v9)).bind λbc=>Option.bind (cond (!(!decide (bc.2.2=0))) (xa n bc.1) (some default)) λaS=>av ((!decide (bc.2.2=0))||aM v9 l.length)<|cond (cond (!decide (bc.2.2=0)) true (!(decide (aS=(ar1 l v9))))) ( some (([]:List a_),false)) ( av (room (ba.length+([bc.1]:List a_).length) 64)<|am (ba++([bc.1]:List a_)) (ar0 (v9+1)))) ( S_ n ba)
def AE(n:Nat)(l:List arY):Nat→(List a_)→Int→Option ((List a_)×Bool)
 | 0=>λ_ _=>none
 |m+1=>Lk n l (AE n l m)
def Ll(l:List arY):Option ((List a_)×Bool):=AE n l n ([]:List a_) 0
def Ta(n:Nat)(ct:Int)(aQ:List arY):Option ((List arY)×Int×Int):=some (aQ,ct,0)
def Lm(s:arY)(r1:Int×Int×Int)(am:Int→Int→(List arY)→Option ((List arY)×Int×Int))(ba:Int)(v9:Int)(v10:List arY):Option ((List arY)×Int×Int):=cond (decide (v9<r1.1)) ( (ql n s ba 16384).bind λbc=>cond (!decide (bc.2.2=0)) ( some (([]:List arY),0,bc.2.2)) ( av (room (v10.length+([bc.1]:List arY).length) 16)<|am bc.2.1 (ar0 (v9+1)) (v10++([bc.1]:List arY)))) ( Ta n ba v10)
def xk(n:Nat)(s:arY)(r1:Int×Int×Int):Nat→Int→Int→(List arY)→Option ((List arY)×Int×Int)
 | 0=>λ_ _ _=>none
 |m+1=>Lm n s r1 (xk n s r1 m)
def Ln(s:arY)(at_:Int):Option ((List arY)×Int×Int):=(pn n s at_ 16).bind λr1=>cond (!decide (r1.2.2=0)) ( some (([]:List arY),0,r1.2.2)) ( xk n s r1 n r1.2.1 0 ([]:List arY))
def sV(s:arY):Option (dg×Int):=cond (decide (16384<((s.length:Nat):Int))) ( some ((⟨0,⟨0,0,[]⟩,[],[],⟨0,[]⟩,[],[],0⟩:dg),2)) ( (nL n s 0).bind λr2=>cond (!decide (r2.2.2=0)) ( some ((⟨0,⟨0,0,[]⟩,[],[],⟨0,[]⟩,[],[],0⟩:dg),r2.2.2)) ( (KL n s r2.2.1).bind λbh=>cond (!decide (bh.2.2=0)) ( some ((⟨0,⟨0,0,[]⟩,[],[],⟨0,[]⟩,[],[],0⟩:dg),bh.2.2)) ( (Ln n s bh.2.1).bind λbr=>cond (!decide (br.2.2=0)) ( some ((⟨0,⟨0,0,[]⟩,[],[],⟨0,[]⟩,[],[],0⟩:dg),br.2.2)) ( (K1 n s br.2.1).bind λcn=>cond (!decide (cn.2.2=0)) ( some ((⟨0,⟨0,0,[]⟩,[],[],⟨0,[]⟩,[],[],0⟩:dg),cn.2.2)) ( (KQ n s cn.2.1).bind λcP=>cond (!decide (cP.2.2=0)) ( some ((⟨0,⟨0,0,[]⟩,[],[],⟨0,[]⟩,[],[],0⟩:dg),cP.2.2)) ( (K3 n s cP.2.1).bind λaS=>cond (!decide (aS.2.2=0)) ( some ((⟨0,⟨0,0,[]⟩,[],[],⟨0,[]⟩,[],[],0⟩:dg),aS.2.2)) ( (KU n s aS.2.1).bind λdK=>cond (!decide (dK.2.2=0)) ( some ((⟨0,⟨0,0,[]⟩,[],[],⟨0,[]⟩,[],[],0⟩:dg),dK.2.2)) ( (qk n s dK.2.1).bind λcj=>cond (!decide (cj.2.2=0)) ( some ((⟨0,⟨0,0,[]⟩,[],[],⟨0,[]⟩,[],[],0⟩:dg),cj.2.2)) ( (Ll n br.1).bind λen=>cond (cond (cond (cond (!decide (cj.2.1=((s.length:Nat):Int))) true (decide (r2.1<0))) true (decide (1099511627776<r2.1))) true (!en.2)) ( some ((⟨0,⟨0,0,[]⟩,[],[],⟨0,[]⟩,[],[],0⟩:dg),5)) ( (EA n bh.1 r2.1).bind λdZ=>(Ex n (⟨r2.1,dZ.1,en.1,cn.1,cP.1,aS.1,dK.1,cj.1⟩:dg)).bind λe0=>cond (!e0) ( some ((⟨0,⟨0,0,[]⟩,[],[],⟨0,[]⟩,[],[],0⟩:dg),5)) ( some ((⟨r2.1,dZ.1,en.1,cn.1,cP.1,aS.1,dK.1,cj.1⟩:dg),0))))))))))))
def Tb(s:arY):ar2:=cond (cond (decide (2000<((s.length:Nat):Int))) (decide (((s.length:Nat):Int)≤16384)) false) ( (JV n).bind λr2=>some r2) ( (w3 n s).bind λr3=>(sV n s).bind λbh=>(zX n r3.1 bh.1).bind λbu=>Option.bind (cond (cond bu (decide (r3.2=bh.2)) false) (JV n) (some default)) λbr=>some (cond (cond bu (decide (r3.2=bh.2)) false) br false))
end Go.Ab.Y

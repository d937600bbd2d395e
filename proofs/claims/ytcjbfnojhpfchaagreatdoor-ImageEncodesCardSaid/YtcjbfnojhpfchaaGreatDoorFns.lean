/- What each function computes, over plain data, with fuel. Printed by a program. -/
import Derived.Test.YtcjbfnojhpfchaaGreatDoorHand
set_option linter.all false
namespace Go.Ab.Y
open Go Go.Ab Go.Proofs
variable (n:Nat)
def I4(n:Nat)(c:Int):al9:=some (cond (cond (cond (cond (cond (cond (decide (97≤c)) (decide (c≤122)) false) true (cond (decide (48≤c)) (decide (c≤57)) false)) true (decide (c=47))) true (decide (c=46))) true (decide (c=95))) true (decide (c=45)))
def I5(n:Nat):al9:=some true
def CY(s:al5)(aj:Int→al9)(v5:Int):al9:=cond (decide (v5<((s.length:Nat):Int))) ( av (aN v5 s.length)<|(I4 n (((s.getD (v5).toNat 0).toNat:Nat):Int)).bind λcT=>cond (!cT) ( some false) ( aj (al7 (v5+1)))) ( I5 n)
def vt(n:Nat)(s:al5):Nat→Int→al9
 | 0=>λ_=>none
 |m+1=>CY n s (vt n s m)
def CZ(s:al5):al9:=cond (decide (24<((s.length:Nat):Int))) ( some false) ( vt n s n 0)
def tb(k:al5):al9:=Option.bind (cond (!(decide (k=([]:al5)))) (CZ n k) (some default)) λah=>some (cond (!(decide (k=([]:al5)))) ah false)
def I6(n:Nat)(l:List al5):al9:=some (decide (((l.length:Nat):Int)≤64))
def C0(l:List al5)(aj:Int→al9)(v5:Int):al9:=cond (decide (v5<((l.length:Nat):Int))) ( av (aN v5 l.length)<|(tb n (al8 l v5)).bind λcT=>av ((!cT)||(!(decide (0<v5))||aN (al7 (v5-1)) l.length))<|cond (cond (!cT) true (cond (decide (0<v5)) ((Op.bytesLess (al8 l v5) (al8 l (al7 (v5-1))))||(decide ((al8 l v5)=(al8 l (al7 (v5-1)))))) false)) ( some false) ( aj (al7 (v5+1)))) ( I6 n l)
def vu(n:Nat)(l:List al5):Nat→Int→al9
 | 0=>λ_=>none
 |m+1=>C0 n l (vu n l m)
def yL(l:List al5):al9:=vu n l n 0
def yM(f:eP):al9:=cond f.dI ( some (cond (decide (((f.Reads.length:Nat):Int)=0)) (decide (((f.b_.length:Nat):Int)=0)) false)) ( (yL n f.Reads).bind λao=>Option.bind (cond ao (yL n f.b_) (some default)) λaE=>some (cond ao aE false))
def I7(n:Nat):al9:=some false
def hE(v1:Bool):al9:=cond v1 ( some true) ( I7 n)
def yN(s:al5):al9:=cond (decide (s=([112,114,111,99]:al5))) ( hE n (decide (s=([112,114,111,99]:al5)))) ( cond (decide (s=([108,101,116]:al5))) ( hE n (decide (s=([108,101,116]:al5)))) ( cond (decide (s=([112,117,116]:al5))) ( hE n (decide (s=([112,117,116]:al5)))) ( cond (decide (s=([100,101,108,101,116,101]:al5))) ( hE n (decide (s=([100,101,108,101,116,101]:al5)))) ( cond (decide (s=([105,102]:al5))) ( hE n (decide (s=([105,102]:al5)))) ( cond (decide (s=([101,108,115,101]:al5))) ( hE n (decide (s=([101,108,115,101]:al5)))) ( cond (decide (s=([102,111,114]:al5))) ( hE n (decide (s=([102,111,114]:al5)))) ( cond (decide (s=([116,111]:al5))) ( hE n (decide (s=([116,111]:al5)))) ( cond (decide (s=([109,97,120]:al5))) ( hE n (decide (s=([109,97,120]:al5)))) ( cond (decide (s=([101,109,105,116]:al5))) ( hE n (decide (s=([101,109,105,116]:al5)))) ( cond (decide (s=([97,98,111,114,116]:al5))) ( hE n (decide (s=([97,98,111,114,116]:al5)))) ( cond (decide (s=([110,111,116]:al5))) ( hE n (decide (s=([110,111,116]:al5)))) ( cond (decide (s=([97,110,100]:al5))) ( hE n (decide (s=([97,110,100]:al5)))) ( cond (decide (s=([111,114]:al5))) ( hE n (decide (s=([111,114]:al5)))) ( cond (decide (s=([105,110,116]:al5))) ( hE n (decide (s=([105,110,116]:al5)))) ( cond (decide (s=([115,116,114]:al5))) ( hE n (decide (s=([115,116,114]:al5)))) ( cond (decide (s=([98,111,111,108]:al5))) ( hE n (decide (s=([98,111,111,108]:al5)))) ( cond (decide (s=([116,101,120,116]:al5))) ( hE n (decide (s=([116,101,120,116]:al5)))) ( cond (decide (s=([108,101,110]:al5))) ( hE n (decide (s=([108,101,110]:al5)))) ( cond (decide (s=([103,101,116,105,110,116]:al5))) ( hE n (decide (s=([103,101,116,105,110,116]:al5)))) ( cond (decide (s=([103,101,116,115,116,114]:al5))) ( hE n (decide (s=([103,101,116,115,116,114]:al5)))) ( cond (decide (s=([104,97,115]:al5))) ( hE n (decide (s=([104,97,115]:al5)))) ( cond (decide (s=([110,111,119]:al5))) ( hE n (decide (s=([110,111,119]:al5)))) ( cond (decide (s=([114,97,110,100,111,109]:al5))) ( hE n (decide (s=([114,97,110,100,111,109]:al5)))) ( hE n (decide (s=([110,111,100,101]:al5)))))))))))))))))))))))))))
def yO(n:Nat)(c:Int):al9:=some (cond (decide (97≤c)) (decide (c≤122)) false)
def qu(s:al5):al9:=av (!(cond (!(decide (s=([]:al5)))) (decide (((s.length:Nat):Int)≤16)) false)||aN 0 s.length)<|Option.bind (cond (cond (!(decide (s=([]:al5)))) (decide (((s.length:Nat):Int)≤16)) false) (yO n (IntKind.i32.wrap (((s.getD 0 0).toNat:Nat):Int))) (some default)) λao=>Option.bind (cond (cond (cond (!(decide (s=([]:al5)))) (decide (((s.length:Nat):Int)≤16)) false) ao false) (vq n s) (some default)) λaE=>Option.bind (cond (cond (cond (cond (!(decide (s=([]:al5)))) (decide (((s.length:Nat):Int)≤16)) false) ao false) (decide (aE=((s.length:Nat):Int))) false) (yN n s) (some default)) λbp=>some (cond (cond (cond (cond (!(decide (s=([]:al5)))) (decide (((s.length:Nat):Int)≤16)) false) ao false) (decide (aE=((s.length:Nat):Int))) false) (!bp) false)
def Sq(n:Nat)(s:al5):al9:=some (decide (((s.length:Nat):Int)≤64))
def I8(s:al5)(aj:Int→al9)(v4:Int):al9:=cond (decide (v4<((s.length:Nat):Int))) ( av (aN v4 s.length)<|av ((decide ((((s.getD (v4).toNat 0).toNat:Nat):Int)<32))||aN v4 s.length)<|cond (cond (decide ((((s.getD (v4).toNat 0).toNat:Nat):Int)<32)) true (decide (126<(((s.getD (v4).toNat 0).toNat:Nat):Int)))) ( some false) ( aj (al7 (v4+1)))) ( Sq n s)
def yP(n:Nat)(s:al5):Nat→Int→al9
 | 0=>λ_=>none
 |m+1=>I8 n s (yP n s m)
def yQ(s:al5):al9:=yP n s n 0
def rv(v:bw):al9:=cond (decide (v.Kind=0)) ( some ((decide (v.Kind=0))&&((decide (v.N=0))&&((decide (v.S=([]:al5)))&&true)))) ( cond (decide (v.Kind=1)) ( some (decide (v.S=([]:al5)))) ( cond (decide (v.Kind=2)) ( Option.bind (cond (decide (v.N=0)) (yQ n v.S) (some default)) λbp=>some (cond (decide (v.N=0)) bp false)) ( some false)))
def I9(v:bw):al9:=Option.bind (cond (!(decide (v.Kind=0))) (rv n v) (some default)) λah=>some (cond (decide (v.Kind=0)) true (!ah))
def I'(n:Nat):al':=some (-1)
def C1(s:List bw)(aj:Int→al')(v4:Int):al':=cond (decide (v4<((s.length:Nat):Int))) ( av (aN v4 s.length)<|(I9 n (al8 s v4)).bind λbL=>cond bL ( some v4) ( aj (al7 (v4+1)))) ( I' n)
def vv(n:Nat)(s:List bw):Nat→Int→al'
 | 0=>λ_=>none
 |m+1=>C1 n s (vv n s m)
def I_(s:List bw):al':=vv n s n 0
def Ja(s:List bw):al9:=(I_ n s).bind λah=>some (decide (0≤ah))
def oy(ad:Request):al':=cond (cond (cond (cond (decide (ad.Client<1)) true (decide (32<ad.Client))) true (decide (ad.Seq<1))) true (decide (1099511627776<ad.Seq))) ( some 1) ( (qu n ad.be).bind λao=>cond (!ao) ( some 7) ( cond (decide (6<((ad.au.length:Nat):Int))) ( some 2) ( (Ja n ad.au).bind λbV=>cond bV ( some 1) ( (yM n ad.bi).bind λcT=>cond (cond (cond (!cT) true ad.bi.dI) true (cond (!ad.dO) (decide (0<(al7 (((ad.bi.Reads.length:Nat):Int)+((ad.bi.b_.length:Nat):Int))))) false)) ( some 1) ( some 0)))))
def C2(n:Nat)(b:List Int)(c:Int):Option (List Int):=av (room (b.length+([c]:List Int).length) 1)<|some (b++([c]:List Int))
def Jb(v9:Int)(v10:List Int):Option al5:=(C2 n v10 (IntKind.u8.wrap v9)).bind λbX=>av (lj bX)<|some (hl bX)
def Jc(aj:Int→(List Int)→Option al5)(v4:Int)(v5:List Int):Option al5:=cond (decide (128≤v4)) ( (C2 n v5 (sb .u8 (IntKind.u8.wrap v4) 128)).bind λbL=>aj (n3 .u64 v4 7) bL) ( Jb n v4 v5)
def yR(n:Nat):Nat→Int→(List Int)→Option al5
 | 0=>λ_ _=>none
 |m+1=>Jc n (yR n m)
def gV(u:Int):Option al5:=yR n n u ([]:List Int)
def oz(s:al5):Option al5:=(gV n (IntKind.u64.wrap ((s.length:Nat):Int))).bind λah=>av (br (ah.length+s.length))<|some (ah++s)
def Jd(n:Nat)(bu:al5):Option al5:=some bu
def C3(l:List al5)(aj:Int→al5→Option al5)(bm:Int)(bn:al5):Option al5:=cond (decide (bm<((l.length:Nat):Int))) ( av (aN bm l.length)<|(oz n (al8 l bm)).bind λdV=>av (br (bn.length+dV.length))<|aj (al7 (bm+1)) (bn++dV)) ( Jd n bn)
def vw(n:Nat)(l:List al5):Nat→Int→al5→Option al5
 | 0=>λ_ _=>none
 |m+1=>C3 n l (vw n l m)
def yS(l:List al5):Option al5:=(gV n (IntKind.u64.wrap ((l.length:Nat):Int))).bind λah=>vw n l n 0 ah
def pA(er:Int):Option al5:=(gV n (o9 .u64 (p8 .u64 (IntKind.u64.wrap er) 1) (IntKind.u64.wrap (n3 .i64 er 63)))).bind λah=>some ah
def tc(v:bw):Option al5:=cond (decide (v.Kind=1)) ( (gV n 1).bind λao=>(pA n v.N).bind λaE=>av (br (ao.length+aE.length))<|some (ao++aE)) ( cond (decide (v.Kind=2)) ( (gV n 2).bind λbL=>(oz n v.S).bind λcT=>av (br (bL.length+cT.length))<|some (bL++cT)) ( (gV n 0).bind λcH=>some cH))
def Je(n:Nat)(b:Bool):Option al5:=cond b ( some ([1]:al5)) ( some ([0]:al5))
def yT(n:Nat)(fl:al5):Option al5:=some fl
def yU(ad:Request)(cJ:al5):Option al5:=(Je n ad.dO).bind λef=>av (br (cJ.length+ef.length))<|cond ad.dO ( (yS n ad.bi.Reads).bind λeM=>(yS n ad.bi.b_).bind λeU=>av (br (eM.length+eU.length))<|av (br ((cJ++ef).length+(eM++eU).length))<|yT n ((cJ++ef)++(eM++eU))) ( yT n (cJ++ef))
def C4(ad:Request)(ee:al5→Int→Option al5)(bA:al5)(dg:Int):Option al5:=cond (decide (dg<((ad.au.length:Nat):Int))) ( av (aN dg ad.au.length)<|(tc n (al8 ad.au dg)).bind λfu=>av (br (bA.length+fu.length))<|ee (bA++fu) (al7 (dg+1))) ( yU n ad bA)
def vx(n:Nat)(ad:Request):Nat→al5→Int→Option al5
 | 0=>λ_ _=>none
 |m+1=>C4 n ad (vx n ad m)
def C5(ad:Request):Option al5:=(oy n ad).bind λah=>cond (!decide (ah=0)) ( some ([]:al5)) ( (gV n (IntKind.u64.wrap ad.Client)).bind λaE=>(gV n (IntKind.u64.wrap ad.Seq)).bind λbp=>av (br (aE.length+bp.length))<|(oz n ad.be).bind λbL=>av (br ((aE++bp).length+bL.length))<|(gV n (IntKind.u64.wrap ((ad.au.length:Nat):Int))).bind λc7=>av (br (((aE++bp)++bL).length+c7.length))<|vx n ad n (((aE++bp)++bL)++c7) 0)
def Jf(n:Nat)(aT:al5):Option al5:=some aT
def C6(l:List Request)(aj:Int→al5→Option al5)(v9:Int)(v10:al5):Option al5:=cond (decide (v9<((l.length:Nat):Int))) ( av (aN v9 l.length)<|(oy n (⟨(al8 l v9).Client,(al8 l v9).Seq,(al8 l v9).be,(al8 l v9).au,(al8 l v9).dO,⟨((al8 l v9).bi).dI,((al8 l v9).bi).Reads,((al8 l v9).bi).b_⟩⟩:Request)).bind λfm=>cond (!decide (fm=0)) ( some ([]:al5)) ( (C5 n (⟨(al8 l v9).Client,(al8 l v9).Seq,(al8 l v9).be,(al8 l v9).au,(al8 l v9).dO,⟨((al8 l v9).bi).dI,((al8 l v9).bi).Reads,((al8 l v9).bi).b_⟩⟩:Request)).bind λdk=>av (br (v10.length+dk.length))<|aj (al7 (v9+1)) (v10++dk))) ( Jf n v10)
def vy(n:Nat)(l:List Request):Nat→Int→al5→Option al5
 | 0=>λ_ _=>none
 |m+1=>C6 n l (vy n l m)
def vz(l:List Request):Option al5:=cond (decide (64<((l.length:Nat):Int))) ( some ([]:al5)) ( (gV n (IntKind.u64.wrap ((l.length:Nat):Int))).bind λao=>vy n l n 0 ao)
def Jg(n:Nat):al9:=some true
def C7(floor:Int)(last:Int)(ad:Row)(aj:Int→al9)(bn:Int):al9:=cond (decide (bn<((ad.bl.length:Nat):Int))) ( av (aN bn ad.bl.length)<|Option.bind (cond (!(cond (decide ((al8 ad.bl bn).fe<floor)) true (decide (last<(al8 ad.bl bn).fe)))) (rv n (⟨((al8 ad.bl bn).b7).Kind,((al8 ad.bl bn).b7).N,((al8 ad.bl bn).b7).S⟩:bw)) (some default)) λdV=>cond (cond (cond (decide ((al8 ad.bl bn).fe<floor)) true (decide (last<(al8 ad.bl bn).fe))) true (!dV)) ( some false) ( av (!(decide (0<bn))||aN (al7 (bn-1)) ad.bl.length)<|av (!(decide (0<bn))||((decide ((al8 ad.bl bn).fe≤(al8 ad.bl (al7 (bn-1))).fe))||aN (al7 (bn-1)) ad.bl.length))<|cond (cond (decide (0<bn)) (cond (decide ((al8 ad.bl bn).fe≤(al8 ad.bl (al7 (bn-1))).fe)) true ((decide (((al8 ad.bl bn).b7).Kind=((al8 ad.bl (al7 (bn-1))).b7).Kind))&&((decide (((al8 ad.bl bn).b7).N=((al8 ad.bl (al7 (bn-1))).b7).N))&&((decide (((al8 ad.bl bn).b7).S=((al8 ad.bl (al7 (bn-1))).b7).S))&&true)))) false) ( some false) ( aj (al7 (bn+1))))) ( Jg n)
def vA(n:Nat)(floor:Int)(last:Int)(ad:Row):Nat→Int→al9
 | 0=>λ_=>none
 |m+1=>C7 n floor last ad (vA n floor last ad m)
def C8(ad:Row)(floor:Int)(last:Int):al9:=av ((decide (((ad.bl.length:Nat):Int)=0))||aN 0 ad.bl.length)<|cond (cond (decide (((ad.bl.length:Nat):Int)=0)) true (decide (((ad.bl.getD 0 default).b7).Kind=0))) ( some false) ( vA n floor last ad n 0)
def Jh(n:Nat):al9:=some true
def C9(s:aG)(aj:Int→al9)(bm:Int):al9:=cond (decide (bm<((s.Rows.length:Nat):Int))) ( av (aN bm s.Rows.length)<|(tb n ((al8 s.Rows bm).Key)).bind λcH=>av ((!cH)||(!(decide (0<bm))||aN (al7 (bm-1)) s.Rows.length))<|Option.bind (cond (!(cond (!cH) true (cond (decide (0<bm)) ((Op.bytesLess ((al8 s.Rows bm).Key) ((al8 s.Rows (al7 (bm-1))).Key))||(decide (((al8 s.Rows bm).Key)=((al8 s.Rows (al7 (bm-1))).Key)))) false))) (C8 n (al8 s.Rows bm) s.cq s.b0) (some default)) λbX=>cond (cond (cond (!cH) true (cond (decide (0<bm)) ((Op.bytesLess ((al8 s.Rows bm).Key) ((al8 s.Rows (al7 (bm-1))).Key))||(decide (((al8 s.Rows bm).Key)=((al8 s.Rows (al7 (bm-1))).Key)))) false)) true (!bX)) ( some false) ( aj (al7 (bm+1)))) ( Jh n)
def vB(n:Nat)(s:aG):Nat→Int→al9
 | 0=>λ_=>none
 |m+1=>C9 n s (vB n s m)
def vC(s:aG):al9:=cond (cond (cond (decide (s.cq<0)) true (decide (s.b0<s.cq))) true (decide (1099511627776<s.b0))) ( some false) ( vB n s n 0)
def C'(n:Nat)(s:aG)(at_:Int):al':=cond (cond (decide (at_<s.cq)) true (decide (s.b0<at_))) ( some 15) ( some 0)
def Ji(n:Nat)(v6:Int):al':=some v6
def Jj(at_:Int)(ad:Row)(aj:Int→al')(v3:Int):al':=av (!(decide (v3<((ad.bl.length:Nat):Int)))||aN v3 ad.bl.length)<|cond (cond (decide (v3<((ad.bl.length:Nat):Int))) (decide ((al8 ad.bl v3).fe≤at_)) false) ( aj (al7 (v3+1))) ( Ji n v3)
def yV(n:Nat)(at_:Int)(ad:Row):Nat→Int→al'
 | 0=>λ_=>none
 |m+1=>Jj n at_ ad (yV n at_ ad m)
def C_(ad:Row)(at_:Int):al':=yV n at_ ad n 0
def Da(ad:Row)(at_:Int):Option bw:=(C_ n ad at_).bind λah=>cond (decide (ah=0)) ( some (⟨0,0,[]⟩:bw)) ( av (aN (al7 (ah-1)) ad.bl.length)<|some (⟨((al8 ad.bl (al7 (ah-1))).b7).Kind,((al8 ad.bl (al7 (ah-1))).b7).N,((al8 ad.bl (al7 (ah-1))).b7).S⟩:bw))
def Jk(n:Nat)(cO:List bE):Option ((List bE)×Int):=some (cO,0)
def yW(n:Nat)(aj:Int→(List bE)→Option ((List bE)×Int))(at_:Int)(s:aG)(v11:Int)(dg:List bE):Option ((List bE)×Int):=aj (al7 (v11+1)) dg
def Jl(at_:Int)(s:aG)(aj:Int→(List bE)→Option ((List bE)×Int))(v11:Int)(v12:List bE):Option ((List bE)×Int):=cond (decide (v11<((s.Rows.length:Nat):Int))) ( av (aN v11 s.Rows.length)<|(Da n (al8 s.Rows v11) at_).bind λez=>cond (!decide (ez.Kind=0)) ( av (room (v12.length+([(⟨(al8 s.Rows v11).Key,ez⟩:bE)]:List bE).length) 48)<|yW n aj at_ s v11 (v12++([(⟨(al8 s.Rows v11).Key,ez⟩:bE)]:List bE))) ( yW n aj at_ s v11 v12)) ( Jk n v12)
def yX(n:Nat)(at_:Int)(s:aG):Nat→Int→(List bE)→Option ((List bE)×Int)
 | 0=>λ_ _=>none
 |m+1=>Jl n at_ s (yX n at_ s m)
def yY(s:aG)(at_:Int):Option ((List bE)×Int):=(vC n s).bind λah=>cond (!ah) ( some (([]:List bE),1)) ( (C' n s at_).bind λaE=>cond (!decide (aE=0)) ( some (([]:List bE),aE)) ( yX n at_ s n 0 ([]:List bE)))
def Jm(n:Nat)(jH:al5):Option al5:=some jH
def Db(p:cd)(aj:Int→al5→Option al5)(aT:Int)(ch:al5):Option al5:=cond (decide (aT<((p.aD.length:Nat):Int))) ( av (aN aT p.aD.length)<|(pA n ((al8 p.aD aT).Id)).bind λdY=>(oz n ((al8 p.aD aT).dS)).bind λfh=>av (br (dY.length+fh.length))<|(pA n ((al8 p.aD aT).Node)).bind λef=>av (br ((dY++fh).length+ef.length))<|(pA n ((al8 p.aD aT).ff)).bind λeM=>av (br (((dY++fh)++ef).length+eM.length))<|(oz n ((al8 p.aD aT).gd)).bind λdB=>av (br ((((dY++fh)++ef)++eM).length+dB.length))<|av (br (ch.length+((((dY++fh)++ef)++eM)++dB).length))<|aj (al7 (aT+1)) (ch++((((dY++fh)++ef)++eM)++dB))) ( Jm n ch)
def vD(n:Nat)(p:cd):Nat→Int→al5→Option al5
 | 0=>λ_ _=>none
 |m+1=>Db n p (vD n p m)
def yZ(p:cd):Option al5:=(pA n p.Version).bind λah=>(gV n (IntKind.u64.wrap ((p.aD.length:Nat):Int))).bind λao=>av (br (ah.length+ao.length))<|vD n p n 0 (ah++ao)
def Jn(n:Nat)(y:Param)(ab:Param):al9:=some (decide (y.Name=ab.Name))
def Jo(n:Nat)(ab:Param):al':=some (-1)
def Jp(s:List Param)(ab:Param)(aj:Int→al')(v4:Int):al':=cond (decide (v4<((s.length:Nat):Int))) ( av (aN v4 s.length)<|(Jn n (al8 s v4) ab).bind λbL=>cond bL ( some v4) ( aj (al7 (v4+1)))) ( Jo n ab)
def vE(n:Nat)(s:List Param)(ab:Param):Nat→Int→al'
 | 0=>λ_=>none
 |m+1=>Jp n s ab (vE n s ab m)
def Jq(s:List Param)(ab:Param):al':=vE n s ab n 0
def Dc(s:List Param)(ab:Param):al9:=(Jq n s ab).bind λah=>some (decide (0≤ah))
def Jr(n:Nat):al':=some 0
def Js(l:List Param)(aj:Int→al')(bm:Int):al':=cond (decide (bm<((l.length:Nat):Int))) ( av (aN bm l.length)<|(qu n ((al8 l bm).Name)).bind λcH=>cond (!cH) ( some 7) ( cond (cond (decide ((al8 l bm).fy<1)) true (decide (3<(al8 l bm).fy))) ( some 10) ( av (gS bm l.length)<|(Dc n (l.take (bm).toNat) (al8 l bm)).bind λbX=>cond bX ( some 8) ( aj (al7 (bm+1)))))) ( Jr n)
def vF(n:Nat)(l:List Param):Nat→Int→al'
 | 0=>λ_=>none
 |m+1=>Js n l (vF n l m)
def Dd(l:List Param):al':=cond (decide (6<((l.length:Nat):Int))) ( some 2) ( vF n l n 0)
def De(n:Nat)(op:Int):al':=cond (cond (decide (op<1)) true (decide (27<op))) ( some (-1)) ( cond (cond (decide (op≤3)) true (decide (25≤op))) ( some 0) ( cond (cond (cond (decide (op=9)) true (decide (op=18))) true (decide (20≤op))) ( some 1) ( some 2)))
def Jt(n:Nat)(s:al5):al9:=some (decide (((s.length:Nat):Int)≤64))
def Ju(s:al5)(aj:Int→al9)(v4:Int):al9:=cond (decide (v4<((s.length:Nat):Int))) ( av (aN v4 s.length)<|av ((decide ((((s.getD (v4).toNat 0).toNat:Nat):Int)<32))||aN v4 s.length)<|cond (cond (decide ((((s.getD (v4).toNat 0).toNat:Nat):Int)<32)) true (decide (126<(((s.getD (v4).toNat 0).toNat:Nat):Int)))) ( some false) ( aj (al7 (v4+1)))) ( Jt n s)
def vG(n:Nat)(s:al5):Nat→Int→al9
 | 0=>λ_=>none
 |m+1=>Ju n s (vG n s m)
def Jv(s:al5):al9:=vG n s n 0
def Df(e:Expr)(depth:Int):al':=(De n e.Op).bind λah=>cond (cond (cond (decide (ah<0)) true (cond (!decide (e.Op=1)) (!decide (e.N=0)) false)) true (cond (cond (!decide (e.Op=2)) (!decide (e.Op=3)) false) (!(decide (e.S=([]:al5)))) false)) ( some 1) ( Option.bind (cond (decide (e.Op=3)) (qu n e.S) (some default)) λaE=>cond (cond (decide (e.Op=3)) (!aE) false) ( some 7) ( Option.bind (cond ((!(cond (decide (e.Op=1)) (decide (e.N<0)) false))&&(decide (e.Op=2))) (Jv n e.S) (some default)) λbV=>cond (cond (cond (cond (decide (e.Op=1)) (decide (e.N<0)) false) true (cond (decide (e.Op=2)) (!bV) false)) true (!decide (((e.au.length:Nat):Int)=ah))) ( some 1) ( cond (decide (12<depth)) ( some 2) ( some 0))))
def Jw(n:Nat)(mh:Expr→Int→al'):al':=some 0
def Jx(mh:Expr→Int→al')(depth:Int)(e:Expr)(aj:Int→al')(v6:Int):al':=cond (decide (v6<((e.au.length:Nat):Int))) ( av (aN v6 e.au.length)<|(mh (al8 e.au v6) (al7 (depth+1))).bind λc7=>cond (!decide (c7=0)) ( some c7) ( aj (al7 (v6+1)))) ( Jw n mh)
def y0(n:Nat)(mh:Expr→Int→al')(depth:Int)(e:Expr):Nat→Int→al'
 | 0=>λ_=>none
 |m+1=>Jx n mh depth e (y0 n mh depth e m)
def Jy(mh:Expr→Int→al')(e:Expr)(depth:Int):al':=(Df n e depth).bind λah=>cond (!decide (ah=0)) ( some ah) ( y0 n mh depth e n 0)
def vH:Nat→Expr→Int→al'
 | 0=>λ_ _=>none
 |m+1=>Jy m (vH m)
def y1(e:Expr):al':=(vH n e 1).bind λah=>some ah
def vI(n:Nat)(e:Expr):al9:=some (cond (cond (cond (decide (e.Op=0)) (decide (e.N=0)) false) (decide (e.S=([]:al5))) false) (decide (((e.au.length:Nat):Int)=0)) false)
def Dg(s:Stmt)(u:kb):al9:=Option.bind (cond ((!(cond (!u.name) (!(decide (s.Name=([]:al5)))) false))&&(!u.a)) (vI n (⟨s.A.Op,s.A.N,s.A.S,s.A.au⟩:Expr)) (some default)) λah=>Option.bind (cond ((!(cond (cond (!u.name) (!(decide (s.Name=([]:al5)))) false) true (cond (!u.a) (!ah) false)))&&(!u.b)) (vI n (⟨s.B.Op,s.B.N,s.B.S,s.B.au⟩:Expr)) (some default)) λao=>cond (cond (cond (cond (cond (cond (cond (!u.name) (!(decide (s.Name=([]:al5)))) false) true (cond (!u.a) (!ah) false)) true (cond (!u.b) (!ao) false)) true (cond (!u.max) (!decide (s.Max=0)) false)) true (cond (!u.body) (decide (0<((s.Body.length:Nat):Int))) false)) true (cond (!u.other) (decide (0<((s.bN.length:Nat):Int))) false)) ( some false) ( cond (decide (s.Op=6)) ( some (cond (decide (1≤s.Max)) (decide (s.Max≤16)) false)) ( cond (decide (s.Op=8)) ( some (cond (decide (0≤s.Max)) (decide (s.Max≤999)) false)) ( some true)))
def Jz(n:Nat):Option (kb×Bool):=some ((⟨false,false,false,false,false,false⟩:kb),false)
def Dh(op:Int)(v2:Bool):Option (kb×Bool):=cond v2 ( some ((⟨false,true,false,false,false,false⟩:kb),true)) ( cond (decide (op=5)) ( some ((⟨false,true,false,false,true,true⟩:kb),true)) ( cond (decide (op=6)) ( some ((⟨true,true,true,true,true,false⟩:kb),true)) ( cond (decide (op=8)) ( some ((⟨false,false,false,true,false,false⟩:kb),true)) ( Jz n))))
def Di(op:Int)(v1:Bool):Option (kb×Bool):=cond v1 ( some ((⟨true,true,false,false,false,false⟩:kb),true)) ( cond (decide (op=3)) ( some ((⟨false,true,true,false,false,false⟩:kb),true)) ( cond (decide (op=4)) ( Dh n op (decide (op=4))) ( Dh n op (decide (op=7)))))
def Dj(op:Int):Option (kb×Bool):=cond (decide (op=1)) ( Di n op (decide (op=1))) ( Di n op (decide (op=2)))
def Dk(n:Nat)(depth:Int):al':=cond (decide (12<depth)) ( some 2) ( some 0)
def Dl(depth:Int)(s:Stmt)(ah:kb×Bool):al':=cond ah.1.b ( (y1 n (⟨s.B.Op,s.B.N,s.B.S,s.B.au⟩:Expr)).bind λcT=>cond (!decide (cT=0)) ( some cT) ( Dk n depth)) ( Dk n depth)
def Dm(s:Stmt)(depth:Int):al':=(Dj n s.Op).bind λah=>Option.bind (cond (!(!ah.2)) (Dg n (⟨s.Op,s.Name,s.Max,⟨s.A.Op,s.A.N,s.A.S,s.A.au⟩,⟨s.B.Op,s.B.N,s.B.S,s.B.au⟩,s.Body,s.bN⟩:Stmt) ah.1) (some default)) λao=>cond (cond (!ah.2) true (!ao)) ( some 1) ( Option.bind (cond ah.1.name (qu n s.Name) (some default)) λbp=>cond (cond ah.1.name (!bp) false) ( some 7) ( cond ah.1.a ( (y1 n (⟨s.A.Op,s.A.N,s.A.S,s.A.au⟩:Expr)).bind λbL=>cond (!decide (bL=0)) ( some bL) ( Dl n depth s ah)) ( Dl n depth s ah)))
def Dn(s:Stmt)(depth:Int)(ab:Int):al':=cond (decide (ab=0)) ( (Dm n (⟨s.Op,s.Name,s.Max,⟨s.A.Op,s.A.N,s.A.S,s.A.au⟩,⟨s.B.Op,s.B.N,s.B.S,s.B.au⟩,s.Body,s.bN⟩:Stmt) depth).bind λao=>some ao) ( some ab)
def JA(n:Nat)(a0:Expr):Option Unit:=some ()
def JB(n:Nat)(oA:Expr→Int→Int→al')(e:Expr)(fZ:Int)(cN:Int→Int→al')(v6:Int)(bm:Int):al':=cond (decide (bm<((e.au.length:Nat):Int))) ( av (aN bm e.au.length)<|(oA (al8 e.au bm) v6 fZ).bind λcH=>cN cH (al7 (bm+1))) ( some v6)
def y2(n:Nat)(oA:Expr→Int→Int→al')(e:Expr)(fZ:Int):Nat→Int→Int→al'
 | 0=>λ_ _=>none
 |m+1=>JB n oA e fZ (y2 n oA e fZ m)
def JC(oA:Expr→Int→Int→al')(e:Expr)(iK:Int)(fZ:Int):al':=cond (decide (iK=0)) ( some iK) ( y2 n oA e fZ n (al7 (iK-1)) 0)
def vJ:Nat→Expr→Int→Int→al'
 | 0=>λ_ _ _=>none
 |m+1=>JC m (vJ m)
def y3(e:Expr)(iK:Int)(fZ:Int):al':=Option.bind (cond (!(decide (iK=0))) (vI n e) (some default)) λah=>cond (cond (decide (iK=0)) true ah) ( some iK) ( (JA n e).bind λaE=>(vJ n e iK fZ).bind λbp=>some bp)
def JD(nF:(List Stmt)→Int→Int→Int→Option (Int×Int))(depth:Int)(l:List Stmt)(cN:Int→Int→Int→Option (Int×Int))(v10:Int)(v11:Int)(v12:Int):Option (Int×Int):=cond (decide (v12<((l.length:Nat):Int))) ( av (aN v12 l.length)<|cond (decide (v10=0)) ( some (v10,v11)) ( (Dn n (⟨(al8 l v12).Op,(al8 l v12).Name,(al8 l v12).Max,⟨((al8 l v12).A).Op,((al8 l v12).A).N,((al8 l v12).A).S,((al8 l v12).A).au⟩,⟨((al8 l v12).B).Op,((al8 l v12).B).N,((al8 l v12).B).S,((al8 l v12).B).au⟩,(al8 l v12).Body,(al8 l v12).bN⟩:Stmt) depth v11).bind λez=>(y3 n (⟨((al8 l v12).A).Op,((al8 l v12).A).N,((al8 l v12).A).S,((al8 l v12).A).au⟩:Expr) (al7 (v10-1)) ez).bind λdv=>(y3 n (⟨((al8 l v12).B).Op,((al8 l v12).B).N,((al8 l v12).B).S,((al8 l v12).B).au⟩:Expr) dv ez).bind λdW=>(nF ((al8 l v12).Body) (al7 (depth+1)) dW ez).bind λet=>(nF ((al8 l v12).bN) (al7 (depth+1)) et.1 et.2).bind λfu=>cN fu.1 fu.2 (al7 (v12+1)))) ( some (v10,v11))
def y4(n:Nat)(nF:(List Stmt)→Int→Int→Int→Option (Int×Int))(depth:Int)(l:List Stmt):Nat→Int→Int→Int→Option (Int×Int)
 | 0=>λ_ _ _=>none
 |m+1=>JD n nF depth l (y4 n nF depth l m)
def JE(nF:(List Stmt)→Int→Int→Int→Option (Int×Int))(l:List Stmt)(depth:Int)(iK:Int)(fZ:Int):Option (Int×Int):=y4 n nF depth l n iK fZ 0
def td:Nat→(List Stmt)→Int→Int→Int→Option (Int×Int)
 | 0=>λ_ _ _ _=>none
 |m+1=>JE m (td m)
def JF(p:be)(ab:Int):Option (Int×Int):=(td n p.Body 1 401 ab).bind λah=>some ((al7 (401-ah.1)),ah.2)
def y5(p:be):al':=(qu n p.Name).bind λah=>cond (!ah) ( some 7) ( (Dd n p.Params).bind λaE=>cond (!decide (aE=0)) ( some aE) ( (JF n p aE).bind λbV=>cond (cond (decide (bV.2=0)) (decide (400<bV.1)) false) ( some 2) ( some bV.2)))
def Do(n:Nat)(ty:Int):Option al5:=cond (decide (ty=1)) ( some ([105,110,116]:al5)) ( cond (decide (ty=2)) ( some ([115,116,114]:al5)) ( some ([98,111,111,108]:al5)))
def pB(n:Nat)(op:Int):Option (Unit ⊕ Unit ⊕ Unit ⊕ Unit ⊕ Unit ⊕ Unit ⊕ Unit ⊕ Unit):=cond (decide (op=1)) ( some (.inl ())) ( cond (decide (op=2)) ( some (.inr (.inl ()))) ( cond (decide (op=3)) ( some (.inr (.inr (.inl ())))) ( cond (decide (op=4)) ( some (.inr (.inr (.inr (.inl ()))))) ( cond (decide (op=5)) ( some (.inr (.inr (.inr (.inr (.inl ())))))) ( cond (decide (op=6)) ( some (.inr (.inr (.inr (.inr (.inr (.inl ()))))))) ( cond (decide (op=7)) ( some (.inr (.inr (.inr (.inr (.inr (.inr (.inl ())))))))) ( some (.inr (.inr (.inr (.inr (.inr (.inr (.inr ()))))))))))))))
def te(er:Int):Option al5:=(CV n er 10).bind λah=>some ah
def vK(n:Nat)(bY:List Int)(b3:Int):Option Unit:=some ()
def Dp(c:Int)(bY:List Int)(b3:Int):Option (List Int):=(vK n bY b3).bind λah=>av (room (bY.length+([c]:List Int).length) 1)<|some (bY++([c]:List Int))
def y6(s:al5)(bY:List Int)(b3:Int):Option (Int×(List Int)):=(vK n bY b3).bind λah=>av (room (bY.length+s.length) 1)<|some (((s.length:Nat):Int),(bY++s.map λb=>(b.toNat:Int)))
def JG(b3:Int)(v20:List Int):Option (List Int):=(Dp n 10 v20 b3).bind λfh=>some fh
def JH(parts:List al5)(b3:Int)(ee:(List Int)→Int→Option (List Int))(bu:List Int)(bA:Int):Option (List Int):=cond (decide (bA<((parts.length:Nat):Int))) ( av (aN bA parts.length)<|(y6 n (al8 parts bA) bu b3).bind λet=>ee et.2 (al7 (bA+1))) ( JG n b3 bu)
def y7(n:Nat)(parts:List al5)(b3:Int):Nat→(List Int)→Int→Option (List Int)
 | 0=>λ_ _=>none
 |m+1=>JH n parts b3 (y7 n parts b3 m)
def JI(parts:List al5)(b3:Int)(v9:List Int):Option (List Int):=y7 n parts b3 n v9 0
def JJ(parts:List al5)(b3:Int)(dx:(List Int)→Int→Option (List Int))(v4:List Int)(v5:Int):Option (List Int):=cond (decide (v5<b3)) ( (y6 n ([32,32,32,32]:al5) v4 b3).bind λbL=>dx bL.2 (al7 (v5+1))) ( JI n parts b3 v4)
def y8(n:Nat)(parts:List al5)(b3:Int):Nat→(List Int)→Int→Option (List Int)
 | 0=>λ_ _=>none
 |m+1=>JJ n parts b3 (y8 n parts b3 m)
def lk(parts:List al5)(bY:List Int)(b3:Int):Option (List Int):=y8 n parts b3 n bY 0
def JK(s:Stmt)(bY:List Int)(b3:Int):Option (List Int):=(te n s.Max).bind λah=>(lk n ([([97,98,111,114,116,32]:al5),ah,([59]:al5)]:List al5) bY b3).bind λao=>some ao
def JL(n:Nat):al9:=some true
def JM(s:al5)(aj:Int→al9)(v4:Int):al9:=cond (decide (v4<((s.length:Nat):Int))) ( av (aN v4 s.length)<|av ((decide ((((s.getD (v4).toNat 0).toNat:Nat):Int)<32))||aN v4 s.length)<|cond (cond (decide ((((s.getD (v4).toNat 0).toNat:Nat):Int)<32)) true (decide (126<(((s.getD (v4).toNat 0).toNat:Nat):Int)))) ( some false) ( aj (al7 (v4+1)))) ( JL n)
def y9(n:Nat)(s:al5):Nat→Int→al9
 | 0=>λ_=>none
 |m+1=>JM n s (y9 n s m)
def JN(s:al5):al9:=y9 n s n 0
def qv(n:Nat)(bY:List Int):Option (al5×(List Int)):=av (lj bY&&decide (bY.length≤9223372036854775807))<|some (hl bY,bY)
def vL(n:Nat)(bY:List Int):Option Unit:=some ()
def pC(c:Int)(bY:List Int):Option (List Int):=(vL n bY).bind λah=>av (room (bY.length+([c]:List Int).length) 1)<|some (bY++([c]:List Int))
def JO(gH:List Int):Option (al5×Int):=(pC n 34 gH).bind λeU=>(qv n eU).bind λdB=>some (dB.1,0)
def JP(n:Nat)(aj:(List Int)→Int→Option (al5×Int))(s:al5)(bA:Int)(cJ:List Int):Option (al5×Int):=aj cJ (al7 (bA+1))
def Dq(aj:(List Int)→Int→Option (al5×Int))(s:al5)(bA:Int)(cO:List Int):Option (al5×Int):=av (aN bA s.length)<|(pC n (((s.getD (bA).toNat 0).toNat:Nat):Int) cO).bind λfh=>JP n aj s bA fh
def JQ(s:al5)(aj:(List Int)→Int→Option (al5×Int))(bu:List Int)(bA:Int):Option (al5×Int):=cond (decide (bA<((s.length:Nat):Int))) ( av (aN bA s.length)<|av ((decide ((((s.getD (bA).toNat 0).toNat:Nat):Int)=34))||aN bA s.length)<|cond (cond (decide ((((s.getD (bA).toNat 0).toNat:Nat):Int)=34)) true (decide ((((s.getD (bA).toNat 0).toNat:Nat):Int)=92))) ( (pC n 92 bu).bind λfu=>Dq n aj s bA fu) ( Dq n aj s bA bu)) ( JO n bu)
def y'(n:Nat)(s:al5):Nat→(List Int)→Int→Option (al5×Int)
 | 0=>λ_ _=>none
 |m+1=>JQ n s (y' n s m)
def Dr(s:al5):Option (al5×Int):=cond (decide (64<((s.length:Nat):Int))) ( some (([]:al5),2)) ( (JN n s).bind λao=>cond (!ao) ( some (([]:al5),1)) ( (pC n 34 ([]:List Int)).bind λbp=>y' n s n bp 0))
def JR(n:Nat):al':=some 9
def y_(op:Int)(v3:Bool):al':=cond v3 ( some 7) ( cond (decide (op=9)) ( some 8) ( JR n))
def Ds(op:Int)(v2:Bool):al':=cond v2 ( some 6) ( cond (decide (op=6)) ( y_ n op (decide (op=6))) ( cond (decide (op=7)) ( y_ n op (decide (op=7))) ( y_ n op (decide (op=8)))))
def rx(op:Int)(v1:Bool):al':=cond v1 ( some 4) ( cond (decide (op=19)) ( some 5) ( cond (decide (op=4)) ( Ds n op (decide (op=4))) ( Ds n op (decide (op=5)))))
def za(op:Int):al':=cond (decide (op=17)) ( some 1) ( cond (decide (op=16)) ( some 2) ( cond (decide (op=18)) ( some 3) ( cond (decide (op=10)) ( rx n op (decide (op=10))) ( cond (decide (op=11)) ( rx n op (decide (op=11))) ( cond (decide (op=12)) ( rx n op (decide (op=12))) ( cond (decide (op=13)) ( rx n op (decide (op=13))) ( cond (decide (op=14)) ( rx n op (decide (op=14))) ( rx n op (decide (op=15))))))))))
def Dt(n:Nat)(op:Int):Option al5:=cond (decide (op=17)) ( some ([111,114]:al5)) ( cond (decide (op=16)) ( some ([97,110,100]:al5)) ( cond (decide (op=10)) ( some ([61,61]:al5)) ( cond (decide (op=11)) ( some ([33,61]:al5)) ( cond (decide (op=12)) ( some ([60]:al5)) ( cond (decide (op=13)) ( some ([60,61]:al5)) ( cond (decide (op=14)) ( some ([62]:al5)) ( cond (decide (op=15)) ( some ([62,61]:al5)) ( cond (decide (op=19)) ( some ([43,43]:al5)) ( cond (decide (op=4)) ( some ([43]:al5)) ( cond (decide (op=5)) ( some ([45]:al5)) ( cond (decide (op=6)) ( some ([42]:al5)) ( cond (decide (op=7)) ( some ([47]:al5)) ( some ([37]:al5))))))))))))))
def Du(n:Nat)(op:Int):Option al5:=cond (decide (op=20)) ( some ([116,101,120,116]:al5)) ( cond (decide (op=21)) ( some ([108,101,110]:al5)) ( cond (decide (op=22)) ( some ([103,101,116,105,110,116]:al5)) ( cond (decide (op=23)) ( some ([103,101,116,115,116,114]:al5)) ( cond (decide (op=24)) ( some ([104,97,115]:al5)) ( cond (decide (op=25)) ( some ([110,111,119]:al5)) ( cond (decide (op=26)) ( some ([114,97,110,100,111,109]:al5)) ( cond (decide (op=27)) ( some ([110,111,100,101]:al5)) ( some ([]:al5)))))))))
def Dv(pD:Expr→Option al5)(mY:Expr→Int→Option al5)(e:Expr):Option al5:=(za n e.Op).bind λah=>cond (decide (e.Op=1)) ( (te n e.N).bind λaE=>some aE) ( cond (decide (e.Op=2)) ( (Dr n e.S).bind λbV=>some bV.1) ( cond (decide (e.Op=3)) ( some e.S) ( cond (decide (e.Op=18)) ( av (aN 0 e.au.length)<|(mY (e.au.getD 0 default) ah).bind λcH=>av (br (([110,111,116,32]:al5).length+cH.length))<|some (([110,111,116,32]:al5)++cH)) ( cond (decide (e.Op=9)) ( av (aN 0 e.au.length)<|(mY (e.au.getD 0 default) ah).bind λdk=>av (br (([45]:al5).length+dk.length))<|some (([45]:al5)++dk)) ( cond (cond (decide (ah=9)) (decide (((e.au.length:Nat):Int)=0)) false) ( (Du n e.Op).bind λdW=>av (br (dW.length+([40,41]:al5).length))<|some (dW++([40,41]:al5))) ( cond (decide (ah=9)) ( (Du n e.Op).bind λe4=>av (br (e4.length+([40]:al5).length))<|av (aN 0 e.au.length)<|(pD (e.au.getD 0 default)).bind λdn=>av (br ((e4++([40]:al5)).length+dn.length))<|av (br (((e4++([40]:al5))++dn).length+([41]:al5).length))<|some (((e4++([40]:al5))++dn)++([41]:al5))) ( cond (decide (ah=4)) ( av (aN 0 e.au.length)<|(mY (e.au.getD 0 default) 5).bind λdB=>av (br (dB.length+([32]:al5).length))<|(Dt n e.Op).bind λfo=>av (br ((dB++([32]:al5)).length+fo.length))<|av (br (((dB++([32]:al5))++fo).length+([32]:al5).length))<|av (aN 1 e.au.length)<|(mY (e.au.getD 1 default) 5).bind λnG=>av (br ((((dB++([32]:al5))++fo)++([32]:al5)).length+nG.length))<|some ((((dB++([32]:al5))++fo)++([32]:al5))++nG)) ( av (aN 0 e.au.length)<|(mY (e.au.getD 0 default) ah).bind λmZ=>av (br (mZ.length+([32]:al5).length))<|(Dt n e.Op).bind λoB=>av (br ((mZ++([32]:al5)).length+oB.length))<|av (br (((mZ++([32]:al5))++oB).length+([32]:al5).length))<|av (aN 1 e.au.length)<|(mY (e.au.getD 1 default) (al7 (ah+1))).bind λgN=>av (br ((((mZ++([32]:al5))++oB)++([32]:al5)).length+gN.length))<|some ((((mZ++([32]:al5))++oB)++([32]:al5))++gN)))))))))
def Dw(pD:Expr→Option al5)(mY:Expr→Int→Option al5)(e:Expr)(least:Int):Option al5:=(za n e.Op).bind λah=>cond (decide (ah<least)) ( (pD e).bind λaE=>av (br (([40]:al5).length+aE.length))<|av (br ((([40]:al5)++aE).length+([41]:al5).length))<|some ((([40]:al5)++aE)++([41]:al5))) ( (pD e).bind λbL=>some bL)
def vM:Nat→(Expr→Option al5)×(Expr→Int→Option al5)
 | 0=>(λ_=>none,λ_ _=>none)
 |m+1=>(Dv m ((vM m).1) ((vM m).2),Dw m ((vM m).1) ((vM m).2))
def kZ:Expr→Option al5:=(vM n).1
def tf:Expr→Int→Option al5:=(vM n).2
def JS(s:Stmt)(bY:List Int)(b3:Int):Option (List Int):=(kZ n (⟨s.A.Op,s.A.N,s.A.S,s.A.au⟩:Expr)).bind λah=>(lk n ([s.Name,([32,61,32]:al5),ah,([59]:al5)]:List al5) bY b3).bind λao=>some ao
def JT(s:Stmt)(bY:List Int)(b3:Int):Option (List Int):=(kZ n (⟨s.A.Op,s.A.N,s.A.S,s.A.au⟩:Expr)).bind λah=>(lk n ([([108,101,116,32]:al5),s.Name,([32,61,32]:al5),ah,([59]:al5)]:List al5) bY b3).bind λao=>some ao
def JU(s:Stmt)(bY:List Int)(b3:Int):Option (List Int):=(kZ n (⟨s.A.Op,s.A.N,s.A.S,s.A.au⟩:Expr)).bind λah=>(lk n ([([101,109,105,116,32]:al5),ah,([59]:al5)]:List al5) bY b3).bind λao=>some ao
def JV(s:Stmt)(bY:List Int)(b3:Int):Option (List Int):=(kZ n (⟨s.A.Op,s.A.N,s.A.S,s.A.au⟩:Expr)).bind λah=>(kZ n (⟨s.B.Op,s.B.N,s.B.S,s.B.au⟩:Expr)).bind λao=>(lk n ([([112,117,116,32]:al5),ah,([32,61,32]:al5),ao,([59]:al5)]:List al5) bY b3).bind λaE=>some aE
def JW(s:Stmt)(bY:List Int)(b3:Int):Option (List Int):=(kZ n (⟨s.A.Op,s.A.N,s.A.S,s.A.au⟩:Expr)).bind λah=>(lk n ([([100,101,108,101,116,101,32]:al5),ah,([59]:al5)]:List al5) bY b3).bind λao=>some ao
def JX(n:Nat)(hq:(List Stmt)→(List Int)→Int→Option ((List Int)×Int))(hQ:Stmt→(List Int)→Int→Option ((List Int)×Int))(hR:Stmt→(List Int)→Int→Option ((List Int)×Int))(jH:List Int)(gm:Int):Option ((List Int)×Int):=some (jH,(al7 (gm-1)))
def JY(hq:(List Stmt)→(List Int)→Int→Option ((List Int)×Int))(hQ:Stmt→(List Int)→Int→Option ((List Int)×Int))(hR:Stmt→(List Int)→Int→Option ((List Int)×Int))(l:List Stmt)(aj:(List Int)→Int→Int→Option ((List Int)×Int))(bA:List Int)(dg:Int)(aT:Int):Option ((List Int)×Int):=cond (decide (aT<((l.length:Nat):Int))) ( av (aN aT l.length)<|(pB n ((al8 l aT).Op)).bind λe4=>hA.on e4 (λacH=>(JT n (⟨(al8 l aT).Op,(al8 l aT).Name,(al8 l aT).Max,⟨((al8 l aT).A).Op,((al8 l aT).A).N,((al8 l aT).A).S,((al8 l aT).A).au⟩,⟨((al8 l aT).B).Op,((al8 l aT).B).N,((al8 l aT).B).S,((al8 l aT).B).au⟩,(al8 l aT).Body,(al8 l aT).bN⟩:Stmt) bA dg).bind λfh=>aj fh dg (al7 (aT+1))) (λSr=>hA.on Sr (λacI=>(JS n (⟨(al8 l aT).Op,(al8 l aT).Name,(al8 l aT).Max,⟨((al8 l aT).A).Op,((al8 l aT).A).N,((al8 l aT).A).S,((al8 l aT).A).au⟩,⟨((al8 l aT).B).Op,((al8 l aT).B).N,((al8 l aT).B).S,((al8 l aT).B).au⟩,(al8 l aT).Body,(al8 l aT).bN⟩:Stmt) bA dg).bind λdn=>aj dn dg (al7 (aT+1))) (λSs=>hA.on Ss (λacJ=>(JV n (⟨(al8 l aT).Op,(al8 l aT).Name,(al8 l aT).Max,⟨((al8 l aT).A).Op,((al8 l aT).A).N,((al8 l aT).A).S,((al8 l aT).A).au⟩,⟨((al8 l aT).B).Op,((al8 l aT).B).N,((al8 l aT).B).S,((al8 l aT).B).au⟩,(al8 l aT).Body,(al8 l aT).bN⟩:Stmt) bA dg).bind λef=>aj ef dg (al7 (aT+1))) (λSt=>hA.on St (λacK=>(JW n (⟨(al8 l aT).Op,(al8 l aT).Name,(al8 l aT).Max,⟨((al8 l aT).A).Op,((al8 l aT).A).N,((al8 l aT).A).S,((al8 l aT).A).au⟩,⟨((al8 l aT).B).Op,((al8 l aT).B).N,((al8 l aT).B).S,((al8 l aT).B).au⟩,(al8 l aT).Body,(al8 l aT).bN⟩:Stmt) bA dg).bind λfi=>aj fi dg (al7 (aT+1))) (λSu=>hA.on Su (λacL=>(hQ (⟨(al8 l aT).Op,(al8 l aT).Name,(al8 l aT).Max,⟨((al8 l aT).A).Op,((al8 l aT).A).N,((al8 l aT).A).S,((al8 l aT).A).au⟩,⟨((al8 l aT).B).Op,((al8 l aT).B).N,((al8 l aT).B).S,((al8 l aT).B).au⟩,(al8 l aT).Body,(al8 l aT).bN⟩:Stmt) bA dg).bind λeM=>aj eM.1 eM.2 (al7 (aT+1))) (λSv=>hA.on Sv (λacM=>(hR (⟨(al8 l aT).Op,(al8 l aT).Name,(al8 l aT).Max,⟨((al8 l aT).A).Op,((al8 l aT).A).N,((al8 l aT).A).S,((al8 l aT).A).au⟩,⟨((al8 l aT).B).Op,((al8 l aT).B).N,((al8 l aT).B).S,((al8 l aT).B).au⟩,(al8 l aT).Body,(al8 l aT).bN⟩:Stmt) bA dg).bind λeU=>aj eU.1 eU.2 (al7 (aT+1))) (λSw=>hA.on Sw (λacN=>(JU n (⟨(al8 l aT).Op,(al8 l aT).Name,(al8 l aT).Max,⟨((al8 l aT).A).Op,((al8 l aT).A).N,((al8 l aT).A).S,((al8 l aT).A).au⟩,⟨((al8 l aT).B).Op,((al8 l aT).B).N,((al8 l aT).B).S,((al8 l aT).B).au⟩,(al8 l aT).Body,(al8 l aT).bN⟩:Stmt) bA dg).bind λdB=>aj dB dg (al7 (aT+1))) (λacO=>(JK n (⟨(al8 l aT).Op,(al8 l aT).Name,(al8 l aT).Max,⟨((al8 l aT).A).Op,((al8 l aT).A).N,((al8 l aT).A).S,((al8 l aT).A).au⟩,⟨((al8 l aT).B).Op,((al8 l aT).B).N,((al8 l aT).B).S,((al8 l aT).B).au⟩,(al8 l aT).Body,(al8 l aT).bN⟩:Stmt) bA dg).bind λll=>aj ll dg (al7 (aT+1)))))))))) ( JX n hq hQ hR bA dg)
def zb(n:Nat)(hq:(List Stmt)→(List Int)→Int→Option ((List Int)×Int))(hQ:Stmt→(List Int)→Int→Option ((List Int)×Int))(hR:Stmt→(List Int)→Int→Option ((List Int)×Int))(l:List Stmt):Nat→(List Int)→Int→Int→Option ((List Int)×Int)
 | 0=>λ_ _ _=>none
 |m+1=>JY n hq hQ hR l (zb n hq hQ hR l m)
def Dx(hq:(List Stmt)→(List Int)→Int→Option ((List Int)×Int))(hQ:Stmt→(List Int)→Int→Option ((List Int)×Int))(hR:Stmt→(List Int)→Int→Option ((List Int)×Int))(l:List Stmt)(bY:List Int)(b3:Int):Option ((List Int)×Int):=zb n hq hQ hR l n bY (al7 (b3+1)) 0
def Dy(hq:(List Stmt)→(List Int)→Int→Option ((List Int)×Int))(hQ:Stmt→(List Int)→Int→Option ((List Int)×Int))(hR:Stmt→(List Int)→Int→Option ((List Int)×Int))(v6:List Int)(bm:Int):Option ((List Int)×Int):=(lk n ([([125]:al5)]:List al5) v6 bm).bind λc7=>some (c7,bm)
def Dz(hq:(List Stmt)→(List Int)→Int→Option ((List Int)×Int))(hQ:Stmt→(List Int)→Int→Option ((List Int)×Int))(hR:Stmt→(List Int)→Int→Option ((List Int)×Int))(s:Stmt)(bY:List Int)(b3:Int):Option ((List Int)×Int):=(kZ n (⟨s.A.Op,s.A.N,s.A.S,s.A.au⟩:Expr)).bind λah=>(lk n ([([105,102,32]:al5),ah,([32,123]:al5)]:List al5) bY b3).bind λao=>(hq s.Body ao b3).bind λaE=>cond (decide (0<((s.bN.length:Nat):Int))) ( (lk n ([([125,32,101,108,115,101,32,123]:al5)]:List al5) aE.1 aE.2).bind λbp=>(hq s.bN bp aE.2).bind λbV=>Dy n hq hQ hR bV.1 bV.2) ( Dy n hq hQ hR aE.1 aE.2)
def DA(hq:(List Stmt)→(List Int)→Int→Option ((List Int)×Int))(hQ:Stmt→(List Int)→Int→Option ((List Int)×Int))(hR:Stmt→(List Int)→Int→Option ((List Int)×Int))(s:Stmt)(bY:List Int)(b3:Int):Option ((List Int)×Int):=(kZ n (⟨s.A.Op,s.A.N,s.A.S,s.A.au⟩:Expr)).bind λah=>(kZ n (⟨s.B.Op,s.B.N,s.B.S,s.B.au⟩:Expr)).bind λao=>(te n s.Max).bind λaE=>(lk n ([([102,111,114,32]:al5),s.Name,([32,61,32]:al5),ah,([32,116,111,32]:al5),ao,([32,109,97,120,32]:al5),aE,([32,123]:al5)]:List al5) bY b3).bind λbp=>(hq s.Body bp b3).bind λbV=>(lk n ([([125]:al5)]:List al5) bV.1 bV.2).bind λbL=>some (bL,bV.2)
def nH:Nat→((List Stmt)→(List Int)→Int→Option ((List Int)×Int))×(Stmt→(List Int)→Int→Option ((List Int)×Int))×(Stmt→(List Int)→Int→Option ((List Int)×Int))
 | 0=>(λ_ _ _=>none,λ_ _ _=>none,λ_ _ _=>none)
 |m+1=>(Dx m ((nH m).1) ((nH m).2.1) ((nH m).2.2),Dz m ((nH m).1) ((nH m).2.1) ((nH m).2.2),DA m ((nH m).1) ((nH m).2.1) ((nH m).2.2))
def pE:(List Stmt)→(List Int)→Int→Option ((List Int)×Int):=(nH n).1
def tg:Stmt→(List Int)→Int→Option ((List Int)×Int):=(nH n).2.1
def th:Stmt→(List Int)→Int→Option ((List Int)×Int):=(nH n).2.2
def DB(n:Nat)(bY:List Int)(b3:Int):Option (al5×(List Int)):=av (lj bY&&decide (bY.length≤9223372036854775807))<|some (hl bY,bY)
def JZ(p:be)(cO:List al5):Option al5:=(CW n cO ([44,32]:al5)).bind λdY=>(lk n ([([112,114,111,99,32]:al5),p.Name,([40]:al5),dY,([41,32,123]:al5)]:List al5) ([]:List Int) 0).bind λfh=>(pE n p.Body fh 0).bind λdn=>(lk n ([([125]:al5)]:List al5) dn.1 dn.2).bind λef=>(DB n ef dn.2).bind λfi=>some fi.1
def J0(p:be)(aj:Int→(List al5)→Option al5)(v10:Int)(v11:List al5):Option al5:=cond (decide (v10<((p.Params.length:Nat):Int))) ( av (aN v10 p.Params.length)<|av (br (((al8 p.Params v10).Name).length+([58,32]:al5).length))<|(Do n ((al8 p.Params v10).fy)).bind λez=>av (br ((((al8 p.Params v10).Name)++([58,32]:al5)).length+ez.length))<|av (room (v11.length+([((((al8 p.Params v10).Name)++([58,32]:al5))++ez)]:List al5).length) 16)<|aj (al7 (v10+1)) (v11++([((((al8 p.Params v10).Name)++([58,32]:al5))++ez)]:List al5))) ( JZ n p v11)
def zc(n:Nat)(p:be):Nat→Int→(List al5)→Option al5
 | 0=>λ_ _=>none
 |m+1=>J0 n p (zc n p m)
def ry(p:be):Option al5:=(y5 n p).bind λah=>cond (!decide (ah=0)) ( some ([]:al5)) ( zc n p n 0 ([]:List al5))
def DC(n:Nat)(next:Int):al':=some (cond (decide ((al7 (next-1))<8)) (al7 (next-1)) 8)
def J1(n:Nat):al9:=some false
def J2(n:Nat):al9:=some true
def DD(o:Outcome)(ee:Int→al9)(v4:Int):al9:=cond (decide (v4<((o.Out.length:Nat):Int))) ( av (aN v4 o.Out.length)<|(rv n (al8 o.Out v4)).bind λbL=>cond (cond (!bL) true (decide ((al8 o.Out v4).Kind=0))) ( some false) ( ee (al7 (v4+1)))) ( J2 n)
def ti(n:Nat)(o:Outcome):Nat→Int→al9
 | 0=>λ_=>none
 |m+1=>DD n o (ti n o m)
def zd(o:Outcome):al9:=cond (decide (o.Status=1)) ( cond (cond (!decide (o.Code=0)) true (decide (16<((o.Out.length:Nat):Int)))) ( some false) ( ti n o n 0)) ( cond (decide (o.Status=2)) ( some (cond (cond (decide (0≤o.Code)) (decide (o.Code≤1009)) false) (decide (((o.Out.length:Nat):Int)=0)) false)) ( J1 n))
def J3(n:Nat):al9:=some true
def DE(s:bI)(aj:Int→al9)(v6:Int):al9:=cond (decide (v6<((s.bG.length:Nat):Int))) ( av (aN v6 s.bG.length)<|Option.bind (cond (!(!((decide ((al8 s.bG v6).Client=s.Client))&&((decide ((al8 s.bG v6).Seq=(al7 ((al7 (s.Next-((s.bG.length:Nat):Int)))+v6))))&&true)))) (zd n (⟨((al8 s.bG v6).Outcome).Status,((al8 s.bG v6).Outcome).Code,((al8 s.bG v6).Outcome).Out⟩:Outcome)) (some default)) λc7=>cond (cond (!((decide ((al8 s.bG v6).Client=s.Client))&&((decide ((al8 s.bG v6).Seq=(al7 ((al7 (s.Next-((s.bG.length:Nat):Int)))+v6))))&&true))) true (!c7)) ( some false) ( aj (al7 (v6+1)))) ( J3 n)
def vN(n:Nat)(s:bI):Nat→Int→al9
 | 0=>λ_=>none
 |m+1=>DE n s (vN n s m)
def DF(s:bI):al9:=Option.bind (cond (!(cond (cond (cond (decide (s.Client<1)) true (decide (32<s.Client))) true (decide (s.Next<1))) true (decide (1099511627776<s.Next)))) (DC n s.Next) (some default)) λah=>cond (cond (cond (cond (cond (decide (s.Client<1)) true (decide (32<s.Client))) true (decide (s.Next<1))) true (decide (1099511627776<s.Next))) true (!decide (((s.bG.length:Nat):Int)=ah))) ( some false) ( vN n s n 0)
def J4(n:Nat):al9:=some true
def DG(l:List bI)(aj:Int→al9)(v5:Int):al9:=cond (decide (v5<((l.length:Nat):Int))) ( av (aN v5 l.length)<|(DF n (al8 l v5)).bind λcT=>av ((!cT)||(!(decide (0<v5))||aN (al7 (v5-1)) l.length))<|cond (cond (!cT) true (cond (decide (0<v5)) (decide ((al8 l v5).Client≤(al8 l (al7 (v5-1))).Client)) false)) ( some false) ( aj (al7 (v5+1)))) ( J4 n)
def vO(n:Nat)(l:List bI):Nat→Int→al9
 | 0=>λ_=>none
 |m+1=>DG n l (vO n l m)
def rz(l:List bI):al9:=vO n l n 0
def jm(s:al5)(bY:List Int):Option (Int×(List Int)):=(vL n bY).bind λah=>av (room (bY.length+s.length) 1)<|some (((s.length:Nat):Int),(bY++s.map λb=>(b.toNat:Int)))
def J5(DH:List Int):Option al5:=(qv n DH).bind λSx=>some Sx.1
def J6(n:Nat)(aj:(List Int)→Int→Option al5)(l:List bI)(eV:Int)(DI:List Int):Option al5:=aj DI (al7 (eV+1))
def J7(n:Nat)(dx:(List Int)→Int→Option al5)(aj:(List Int)→Int→Option al5)(l:List bI)(eV:Int)(hS:Int)(v109:List Int):Option al5:=dx v109 (al7 (hS+1))
def DJ(dx:(List Int)→Int→Option al5)(aj:(List Int)→Int→Option al5)(l:List bI)(eV:Int)(hS:Int)(pF:(List Int)→Int→Option al5)(ze:List Int)(tj:Int):Option al5:=cond (decide (tj<(((((((al8 l eV).bG).getD (hS).toNat default).Outcome).Out).length:Nat):Int))) ( av (aN tj (((((al8 l eV).bG).getD (hS).toNat default).Outcome).Out).length)<|(tc n ((((((al8 l eV).bG).getD (hS).toNat default).Outcome).Out).getD (tj).toNat default)).bind λrA=>(jm n rA ze).bind λSy=>pF Sy.2 (al7 (tj+1))) ( J7 n dx aj l eV hS ze)
def tk(n:Nat)(dx:(List Int)→Int→Option al5)(aj:(List Int)→Int→Option al5)(l:List bI)(eV:Int)(hS:Int):Nat→(List Int)→Int→Option al5
 | 0=>λ_ _=>none
 |m+1=>DJ n dx aj l eV hS (tk n dx aj l eV hS m)
def DK(aj:(List Int)→Int→Option al5)(l:List bI)(eV:Int)(dx:(List Int)→Int→Option al5)(zf:List Int)(hS:Int):Option al5:=cond (decide (hS<((((al8 l eV).bG).length:Nat):Int))) ( av (aN hS ((al8 l eV).bG).length)<|(gV n (IntKind.u64.wrap (((((al8 l eV).bG).getD (hS).toNat default).Outcome).Status))).bind λvP=>(gV n (IntKind.u64.wrap (((((al8 l eV).bG).getD (hS).toNat default).Outcome).Code))).bind λtl=>av (br (vP.length+tl.length))<|(gV n (IntKind.u64.wrap (((((((al8 l eV).bG).getD (hS).toNat default).Outcome).Out).length:Nat):Int))).bind λJ8=>av (br ((vP++tl).length+J8.length))<|(jm n ((vP++tl)++J8) zf).bind λDL=>tk n dx aj l eV hS n DL.2 0) ( J6 n aj l eV zf)
def tm(n:Nat)(aj:(List Int)→Int→Option al5)(l:List bI)(eV:Int):Nat→(List Int)→Int→Option al5
 | 0=>λ_ _=>none
 |m+1=>DK n aj l eV (tm n aj l eV m)
def DM(l:List bI)(aj:(List Int)→Int→Option al5)(v59:List Int)(eV:Int):Option al5:=cond (decide (eV<((l.length:Nat):Int))) ( av (aN eV l.length)<|(gV n (IntKind.u64.wrap ((al8 l eV).Client))).bind λJ9=>(gV n (IntKind.u64.wrap ((al8 l eV).Next))).bind λzg=>av (br (J9.length+zg.length))<|(jm n (J9++zg) v59).bind λrB=>tm n aj l eV n rB.2 0) ( J5 n v59)
def vQ(n:Nat)(l:List bI):Nat→(List Int)→Int→Option al5
 | 0=>λ_ _=>none
 |m+1=>DM n l (vQ n l m)
def zh(l:List bI):Option al5:=(rz n l).bind λah=>cond (!ah) ( some ([]:al5)) ( (gV n (IntKind.u64.wrap ((l.length:Nat):Int))).bind λaE=>(jm n aE ([]:List Int)).bind λbp=>vQ n l n bp.2 0)
def J'(cO:List Int):Option al5:=(qv n cO).bind λdY=>some dY.1
def DN(l:List bE)(aj:(List Int)→Int→Option al5)(v10:List Int)(v11:Int):Option al5:=cond (decide (v11<((l.length:Nat):Int))) ( av (aN v11 l.length)<|(oz n ((al8 l v11).Key)).bind λdk=>(jm n dk v10).bind λez=>(tc n (⟨((al8 l v11).b7).Kind,((al8 l v11).b7).N,((al8 l v11).b7).S⟩:bw)).bind λdv=>(jm n dv ez.2).bind λdW=>aj dW.2 (al7 (v11+1))) ( J' n v10)
def vR(n:Nat)(l:List bE):Nat→(List Int)→Int→Option al5
 | 0=>λ_ _=>none
 |m+1=>DN n l (vR n l m)
def DO(l:List bE):Option al5:=(gV n (IntKind.u64.wrap ((l.length:Nat):Int))).bind λah=>(jm n ah ([]:List Int)).bind λao=>vR n l n ao.2 0
def zi(ad:cb)(nI:List Int):Option al5:=(vz n ad.Queue).bind λzj=>(jm n zj nI).bind λkE=>(gV n ad.dj).bind λpG=>(jm n pG kE.2).bind λnJ=>(qv n nJ.2).bind λzk=>some zk.1
def DP(ad:cb)(ee:(List Int)→Int→Option al5)(nK:List Int)(v37:Int):Option al5:=cond (decide (v37<((ad.bj.length:Nat):Int))) ( av (aN v37 ad.bj.length)<|(oz n ((al8 ad.bj v37).Key)).bind λoC=>(jm n oC nK).bind λtn=>(pA n ((al8 ad.bj v37).Count)).bind λkc=>(jm n kc tn.2).bind λgN=>ee gN.2 (al7 (v37+1))) ( zi n ad nK)
def vS(n:Nat)(ad:cb):Nat→(List Int)→Int→Option al5
 | 0=>λ_ _=>none
 |m+1=>DP n ad (vS n ad m)
def vT(ad:cb)(cJ:List Int):Option al5:=(zh n ad.cR).bind λef=>(jm n ef cJ).bind λfi=>(yZ n ad.Place).bind λeM=>(jm n eM fi.2).bind λeU=>(gV n (IntKind.u64.wrap ((ad.bj.length:Nat):Int))).bind λdB=>(jm n dB eU.2).bind λll=>vS n ad n ll.2 0
def DQ(ad:cb)(dx:(List Int)→Int→Option al5)(bu:List Int)(bA:Int):Option al5:=cond (decide (bA<((ad.cf.length:Nat):Int))) ( av (aN bA ad.cf.length)<|(ry n (al8 ad.cf bA)).bind λet=>(oz n et).bind λfu=>(jm n fu bu).bind λe4=>dx e4.2 (al7 (bA+1))) ( vT n ad bu)
def vU(n:Nat)(ad:cb):Nat→(List Int)→Int→Option al5
 | 0=>λ_ _=>none
 |m+1=>DQ n ad (vU n ad m)
def tp(ad:cb):Option al5:=(yY n ad.aG ad.Pos).bind λah=>(pA n ad.Pos).bind λao=>(jm n ao ([]:List Int)).bind λaE=>(DO n ah.1).bind λbp=>(jm n bp aE.2).bind λbV=>(gV n (IntKind.u64.wrap ((ad.cf.length:Nat):Int))).bind λbL=>(jm n bL bV.2).bind λcT=>vU n ad n cT.2 0
def J_(n:Nat)(l:List bj):al9:=some (decide (((l.length:Nat):Int)≤32))
def DR(l:List bj)(aj:Int→al9)(v5:Int):al9:=cond (decide (v5<((l.length:Nat):Int))) ( av (aN v5 l.length)<|(tb n ((al8 l v5).Key)).bind λcT=>av ((cond (cond (!cT) true (decide ((al8 l v5).Count<1))) true (decide (1099511627776<(al8 l v5).Count)))||(!(decide (0<v5))||aN (al7 (v5-1)) l.length))<|cond (cond (cond (cond (!cT) true (decide ((al8 l v5).Count<1))) true (decide (1099511627776<(al8 l v5).Count))) true (cond (decide (0<v5)) (!(Op.bytesLess ((al8 l (al7 (v5-1))).Key) ((al8 l v5).Key))) false)) ( some false) ( aj (al7 (v5+1)))) ( J_ n l)
def vV(n:Nat)(l:List bj):Nat→Int→al9
 | 0=>λ_=>none
 |m+1=>DR n l (vV n l m)
def DS(l:List bj):al9:=vV n l n 0
def Ka(n:Nat):al9:=some true
def DT(l:List be)(aj:Int→al9)(v6:Int):al9:=cond (decide (v6<((l.length:Nat):Int))) ( av (aN v6 l.length)<|(ry n (al8 l v6)).bind λc7=>av ((cond (decide (c7=([]:al5))) true (decide (16384<((c7.length:Nat):Int))))||(!(decide (0<v6))||aN (al7 (v6-1)) l.length))<|cond (cond (cond (decide (c7=([]:al5))) true (decide (16384<((c7.length:Nat):Int)))) true (cond (decide (0<v6)) ((Op.bytesLess ((al8 l v6).Name) ((al8 l (al7 (v6-1))).Name))||(decide (((al8 l v6).Name)=((al8 l (al7 (v6-1))).Name)))) false)) ( some false) ( aj (al7 (v6+1)))) ( Ka n)
def vW(n:Nat)(l:List be):Nat→Int→al9
 | 0=>λ_=>none
 |m+1=>DT n l (vW n l m)
def DU(l:List be):al9:=cond (decide (16<((l.length:Nat):Int))) ( some false) ( vW n l n 0)
def Kb(n:Nat)(s:al5):al9:=some (decide (((s.length:Nat):Int)≤24))
def DV(s:al5)(aj:Int→al9)(v4:Int):al9:=cond (decide (v4<((s.length:Nat):Int))) ( av (aN v4 s.length)<|av ((decide ((((s.getD (v4).toNat 0).toNat:Nat):Int)<33))||aN v4 s.length)<|cond (cond (decide ((((s.getD (v4).toNat 0).toNat:Nat):Int)<33)) true (decide (126<(((s.getD (v4).toNat 0).toNat:Nat):Int)))) ( some false) ( aj (al7 (v4+1)))) ( Kb n s)
def vX(n:Nat)(s:al5):Nat→Int→al9
 | 0=>λ_=>none
 |m+1=>DV n s (vX n s m)
def zl(s:al5):al9:=vX n s n 0
def Kc(n:Nat)(x:Part)(ab:Int):al9:=some (decide (x.Id=ab))
def Kd(n:Nat)(ab:Int):al':=some (-1)
def DW(s:List Part)(ab:Int)(aj:Int→al')(v4:Int):al':=cond (decide (v4<((s.length:Nat):Int))) ( av (aN v4 s.length)<|(Kc n (al8 s v4) ab).bind λbL=>cond bL ( some v4) ( aj (al7 (v4+1)))) ( Kd n ab)
def vY(n:Nat)(s:List Part)(ab:Int):Nat→Int→al'
 | 0=>λ_=>none
 |m+1=>DW n s ab (vY n s ab m)
def Ke(s:List Part)(ab:Int):al':=vY n s ab n 0
def Kf(l:List Part)(id:Int):al':=(Ke n l id).bind λah=>some ah
def zm(n:Nat)(er:Int):al9:=some (cond (decide (1≤er)) (decide (er≤16)) false)
def Kg(n:Nat)(er:Int):al9:=some (cond (decide (1≤er)) (decide (er≤1099511627776)) false)
def DX(l:List Part)(i:Int):al9:=av (aN i l.length)<|cond (decide ((al8 l i).ff=0)) ( some (decide (((al8 l i).gd)=([]:al5)))) ( (zm n ((al8 l i).ff)).bind λaE=>Option.bind (cond (cond aE (!decide ((al8 l i).ff=(al8 l i).Node)) false) (zl n ((al8 l i).gd)) (some default)) λbp=>av (!(cond (cond (cond aE (!decide ((al8 l i).ff=(al8 l i).Node)) false) bp false) (!(Op.bytesLess ((al8 l i).gd) ((al8 l i).dS))) false)||((decide ((al7 (i+1))=((l.length:Nat):Int)))||aN (al7 (i+1)) l.length))<|some (cond (cond (cond (cond aE (!decide ((al8 l i).ff=(al8 l i).Node)) false) bp false) (!(Op.bytesLess ((al8 l i).gd) ((al8 l i).dS))) false) (cond (decide ((al7 (i+1))=((l.length:Nat):Int))) true (Op.bytesLess ((al8 l i).gd) ((al8 l (al7 (i+1))).dS))) false))
def Kh(n:Nat):al9:=some true
def DY(p:cd)(aj:Int→al9)(v12:Int):al9:=cond (decide (v12<((p.aD.length:Nat):Int))) ( av (aN v12 p.aD.length)<|Option.bind (cond (decide (0<v12)) (zl n ((al8 p.aD v12).dS)) (some default)) λez=>av (!(decide (0<v12))||((!ez)||aN (al7 (v12-1)) p.aD.length))<|cond (cond (decide (0<v12)) (cond (!ez) true ((Op.bytesLess ((al8 p.aD v12).dS) ((al8 p.aD (al7 (v12-1))).dS))||(decide (((al8 p.aD v12).dS)=((al8 p.aD (al7 (v12-1))).dS))))) false) ( some false) ( (Kg n ((al8 p.aD v12).Id)).bind λdW=>Option.bind (cond (!(!dW)) (zm n ((al8 p.aD v12).Node)) (some default)) λet=>Option.bind (cond (!(cond (!dW) true (!et))) (DX n p.aD v12) (some default)) λfu=>av ((cond (cond (!dW) true (!et)) true (!fu))||gS v12 p.aD.length)<|Option.bind (cond (!(cond (cond (!dW) true (!et)) true (!fu))) (Kf n (p.aD.take (v12).toNat) ((al8 p.aD v12).Id)) (some default)) λdY=>cond (cond (cond (cond (!dW) true (!et)) true (!fu)) true (decide (0≤dY))) ( some false) ( aj (al7 (v12+1))))) ( Kh n)
def tq(n:Nat)(p:cd):Nat→Int→al9
 | 0=>λ_=>none
 |m+1=>DY n p (tq n p m)
def zn(p:cd):al9:=av ((cond (cond (cond (decide (p.Version<0)) true (decide (1099511627776<p.Version))) true (decide (((p.aD.length:Nat):Int)<1))) true (decide (16<((p.aD.length:Nat):Int))))||aN 0 p.aD.length)<|cond (cond (cond (cond (cond (decide (p.Version<0)) true (decide (1099511627776<p.Version))) true (decide (((p.aD.length:Nat):Int)<1))) true (decide (16<((p.aD.length:Nat):Int)))) true (!(decide (((p.aD.getD 0 default).dS)=([]:al5))))) ( some false) ( tq n p n 0)
def Ki(ad:cb):al9:=(rz n ad.cR).bind λbX=>Option.bind (cond bX (zn n ad.Place) (some default)) λfm=>Option.bind (cond (cond bX fm false) (DS n ad.bj) (some default)) λdk=>some (cond (cond bX fm false) dk false)
def DZ(ad:cb)(aj:Int→al9)(bm:Int):al9:=cond (decide (bm<((ad.Queue.length:Nat):Int))) ( av (aN bm ad.Queue.length)<|(oy n (⟨(al8 ad.Queue bm).Client,(al8 ad.Queue bm).Seq,(al8 ad.Queue bm).be,(al8 ad.Queue bm).au,(al8 ad.Queue bm).dO,⟨((al8 ad.Queue bm).bi).dI,((al8 ad.Queue bm).bi).Reads,((al8 ad.Queue bm).bi).b_⟩⟩:Request)).bind λcH=>cond (!decide (cH=0)) ( some false) ( aj (al7 (bm+1)))) ( Ki n ad)
def tr(n:Nat)(ad:cb):Nat→Int→al9
 | 0=>λ_=>none
 |m+1=>DZ n ad (tr n ad m)
def tu(ad:cb):al9:=Option.bind (cond (!(cond (decide (ad.Pos<0)) true (decide (1099511627776<ad.Pos)))) (vC n ad.aG) (some default)) λah=>Option.bind (cond (!(cond (cond (cond (decide (ad.Pos<0)) true (decide (1099511627776<ad.Pos))) true (!ah)) true (!decide (ad.aG.b0=ad.Pos)))) (DU n ad.cf) (some default)) λao=>cond (cond (cond (cond (cond (cond (decide (ad.Pos<0)) true (decide (1099511627776<ad.Pos))) true (!ah)) true (!decide (ad.aG.b0=ad.Pos))) true (!ao)) true (decide (64<((ad.Queue.length:Nat):Int)))) ( some false) ( tr n ad n 0)
def zo(ad:cb):Option (al5×Int):=(tu n ad).bind λah=>cond (!ah) ( some (([]:al5),1)) ( (tp n ad).bind λaE=>cond (decide (16384<((aE.length:Nat):Int))) ( some (([]:al5),2)) ( some (aE,0)))
def Kj(n:Nat)(cE:Int):al':=some cE
def Sz(n:Nat)(p:bE):al9:=some (decide (p.b7.Kind=0))
def SA(n:Nat):al':=some (-1)
def SB(s:List bE)(aj:Int→al')(v4:Int):al':=cond (decide (v4<((s.length:Nat):Int))) ( av (aN v4 s.length)<|(Sz n (al8 s v4)).bind λbL=>cond bL ( some v4) ( aj (al7 (v4+1)))) ( SA n)
def Kk(n:Nat)(s:List bE):Nat→Int→al'
 | 0=>λ_=>none
 |m+1=>SB n s (Kk n s m)
def SC(s:List bE):al':=Kk n s n 0
def SD(s:List bE):al9:=(SC n s).bind λah=>some (decide (0≤ah))
def SE(n:Nat):al9:=some true
def SF(l:List bE)(aj:Int→al9)(v6:Int):al9:=cond (decide (v6<((l.length:Nat):Int))) ( av (aN v6 l.length)<|(tb n ((al8 l v6).Key)).bind λc7=>Option.bind (cond (!(!c7)) (rv n (⟨((al8 l v6).b7).Kind,((al8 l v6).b7).N,((al8 l v6).b7).S⟩:bw)) (some default)) λcH=>av ((cond (!c7) true (!cH))||(!(decide (0<v6))||aN (al7 (v6-1)) l.length))<|cond (cond (cond (!c7) true (!cH)) true (cond (decide (0<v6)) (!(Op.bytesLess ((al8 l (al7 (v6-1))).Key) ((al8 l v6).Key))) false)) ( some false) ( aj (al7 (v6+1)))) ( SE n)
def Kl(n:Nat)(l:List bE):Nat→Int→al9
 | 0=>λ_=>none
 |m+1=>SF n l (Kl n l m)
def SG(l:List bE):al9:=Kl n l n 0
def Km(l:List bE):al9:=(SG n l).bind λah=>Option.bind (cond ah (SD n l) (some default)) λao=>some (cond ah (!ao) false)
def SH(n:Nat)(er:Int):Option bw:=some (⟨1,er,[]⟩:bw)
def Kn(n:Nat)(s:al5)(at_:Int):al9:=some (cond (decide (at_<0)) true (decide (((s.length:Nat):Int)<at_)))
def SI(n:Nat):Option (Int×Int×Int):=some (0,0,5)
def SJ(s:al5)(at_:Int)(aj:Int→Int→Option (Int×Int×Int))(bm:Int)(bn:Int):Option (Int×Int×Int):=cond (decide (bm<10)) ( cond (decide (((s.length:Nat):Int)≤(al7 (at_+bm)))) ( some (0,0,6)) ( av (aN (al7 (at_+bm)) s.length)<|cond (cond (cond (decide (bm=9)) (decide (1<(((s.getD ((al7 (at_+bm))).toNat 0).toNat:Nat):Int))) false) true (cond (decide ((((s.getD ((al7 (at_+bm))).toNat 0).toNat:Nat):Int)=0)) (decide (0<bm)) false)) ( some (0,0,5)) ( av (n4 (al7 (7*bm)))<|cond (decide ((((s.getD ((al7 (at_+bm))).toNat 0).toNat:Nat):Int)<128)) ( some ((sb .u64 bn (p8 .u64 (IntKind.u64.wrap (uG .u8 (((s.getD ((al7 (at_+bm))).toNat 0).toNat:Nat):Int) 127)) (al7 (7*bm)))),(al7 ((al7 (at_+bm))+1)),0)) ( aj (al7 (bm+1)) (sb .u64 bn (p8 .u64 (IntKind.u64.wrap (uG .u8 (((s.getD ((al7 (at_+bm))).toNat 0).toNat:Nat):Int) 127)) (al7 (7*bm)))))))) ( SI n)
def Ko(n:Nat)(s:al5)(at_:Int):Nat→Int→Int→Option (Int×Int×Int)
 | 0=>λ_ _=>none
 |m+1=>SJ n s at_ (Ko n s at_ m)
def tv(s:al5)(at_:Int):Option (Int×Int×Int):=(Kn n s at_).bind λah=>cond ah ( some (0,0,1)) ( Ko n s at_ n 0 0)
def D0(s:al5)(at_:Int):Option (Int×Int×Int):=(tv n s at_).bind λah=>cond (!decide (ah.2.2=0)) ( some (0,0,ah.2.2)) ( some ((o9 .i64 (al7 (n3 .u64 ah.1 1)) (al7 (0-(al7 (uG .u64 ah.1 1))))),ah.2.1,0))
def qw(s:al5)(at_:Int)(cE:Int):Option (Int×Int×Int):=(tv n s at_).bind λah=>cond (!decide (ah.2.2=0)) ( some (0,0,ah.2.2)) ( cond (cond (decide (cE<0)) true (decide ((IntKind.u64.wrap cE)<ah.1))) ( some (0,0,2)) ( cond (decide ((IntKind.u64.wrap (al7 (((s.length:Nat):Int)-ah.2.1)))<ah.1)) ( some (0,0,6)) ( some ((al7 ah.1),ah.2.1,0))))
def vZ(s:al5)(at_:Int)(cE:Int):Option (al5×Int×Int):=(qw n s at_ cE).bind λah=>cond (!decide (ah.2.2=0)) ( some (([]:al5),0,ah.2.2)) ( av (nl ah.2.1 (al7 (ah.2.1+ah.1)) s.length)<|some (((s.take ((al7 (ah.2.1+ah.1))).toNat).drop (ah.2.1).toNat),(al7 (ah.2.1+ah.1)),0))
def Kp(n:Nat)(cH:al5×Int×Int)(v11:Int):Option (bw×Int×Int):=cond (!decide (v11=0)) ( some ((⟨0,0,[]⟩:bw),0,v11)) ( some ((⟨2,0,cH.1⟩:bw),cH.2.1,0))
def D1(s:al5)(at_:Int):Option (bw×Int×Int):=(tv n s at_).bind λah=>cond (!decide (ah.2.2=0)) ( some ((⟨0,0,[]⟩:bw),0,ah.2.2)) ( cond (decide (ah.1=0)) ( some ((⟨0,0,[]⟩:bw),ah.2.1,0)) ( cond (decide (ah.1=1)) ( (D0 n s ah.2.1).bind λbV=>cond (!decide (bV.2.2=0)) ( some ((⟨0,0,[]⟩:bw),0,bV.2.2)) ( (SH n bV.1).bind λcT=>some (cT,bV.2.1,0))) ( cond (decide (ah.1=2)) ( (vZ n s ah.2.1 64).bind λcH=>Option.bind (cond (decide (cH.2.2=0)) (yQ n cH.1) (some default)) λdV=>cond (cond (decide (cH.2.2=0)) (!dV) false) ( Kp n cH 5) ( Kp n cH cH.2.2)) ( some ((⟨0,0,[]⟩:bw),0,5)))))
def SK(ch:Int)(cO:List bE):Option ((List bE)×Int×Int):=(Km n cO).bind λdY=>cond (!dY) ( some (([]:List bE),0,5)) ( some (cO,ch,0))
def SL(s:al5)(ah:Int×Int×Int)(aj:Int→Int→(List bE)→Option ((List bE)×Int×Int))(v9:Int)(v10:Int)(v11:List bE):Option ((List bE)×Int×Int):=cond (decide (v10<ah.1)) ( (vZ n s v9 24).bind λfm=>cond (!decide (fm.2.2=0)) ( some (([]:List bE),0,fm.2.2)) ( (D1 n s fm.2.1).bind λdk=>cond (!decide (dk.2.2=0)) ( some (([]:List bE),0,dk.2.2)) ( av (room (v11.length+([(⟨fm.1,dk.1⟩:bE)]:List bE).length) 48)<|aj dk.2.1 (al7 (v10+1)) (v11++([(⟨fm.1,dk.1⟩:bE)]:List bE))))) ( SK n v9 v11)
def Kq(n:Nat)(s:al5)(ah:Int×Int×Int):Nat→Int→Int→(List bE)→Option ((List bE)×Int×Int)
 | 0=>λ_ _ _=>none
 |m+1=>SL n s ah (Kq n s ah m)
def SM(s:al5)(at_:Int):Option ((List bE)×Int×Int):=(qw n s at_ 2147483647).bind λah=>cond (!decide (ah.2.2=0)) ( some (([]:List bE),0,ah.2.2)) ( Kq n s ah n ah.2.1 0 ([]:List bE))
def SN(ab:fY):Option ((List bE)×Int×Int):=cond (!decide (ab.e=0)) ( some (([]:List bE),ab.at_,ab.e)) ( (SM n ab.s ab.at_).bind λao=>cond (!decide (ao.2.2=0)) ( some (([]:List bE),ab.at_,ao.2.2)) ( some (ao.1,ao.2.1,ao.2.2)))
def zp(ab:nE):Option (Int×Int×Int):=cond (!decide (ab.e=0)) ( some (0,ab.at_,ab.e)) ( (D0 n ab.s ab.at_).bind λao=>some (ao.1,ao.2.1,ao.2.2))
def Kr(ab:nE):Option (al5×Int×Int):=cond (!decide (ab.e=0)) ( some (([]:al5),ab.at_,ab.e)) ( (vZ n ab.s ab.at_ 24).bind λao=>some (ao.1,ao.2.1,ao.2.2))
def Ks(n:Nat)(s:al5)(v28:Int)(ah:Int×Int×Int)(v30:List Part)(jH:Int):Option (cd×Int×Int):=cond (!decide (jH=0)) ( some ((⟨0,[]⟩:cd),0,jH)) ( some ((⟨ah.1,v30⟩:cd),v28,0))
def SO(s:al5)(ah:Int×Int×Int)(v28:Int)(fl:Int)(v30:List Part):Option (cd×Int×Int):=Option.bind (cond (decide (fl=0)) (zn n (⟨ah.1,v30⟩:cd)) (some default)) λf0=>cond (cond (decide (fl=0)) (!f0) false) ( Ks n s v28 ah v30 5) ( Ks n s v28 ah v30 fl)
def SP(aE:Int×Int×Int)(s:al5)(ah:Int×Int×Int)(ee:Int→Int→(List Part)→Int→Option (cd×Int×Int))(bu:Int)(bA:Int)(dg:List Part)(aT:Int):Option (cd×Int×Int):=cond (decide (aT<aE.1)) ( (zp n (⟨s,bu,bA⟩:nE)).bind λfu=>(Kr n (⟨s,fu.2.1,fu.2.2⟩:nE)).bind λe4=>(zp n (⟨s,e4.2.1,e4.2.2⟩:nE)).bind λdY=>(zp n (⟨s,dY.2.1,dY.2.2⟩:nE)).bind λfh=>(Kr n (⟨s,fh.2.1,fh.2.2⟩:nE)).bind λdn=>av (room (dg.length+([(⟨fu.1,e4.1,dY.1,fh.1,dn.1⟩:Part)]:List Part).length) 56)<|ee dn.2.1 dn.2.2 (dg++([(⟨fu.1,e4.1,dY.1,fh.1,dn.1⟩:Part)]:List Part)) (al7 (aT+1))) ( SO n s ah bu bA dg)
def Kt(n:Nat)(aE:Int×Int×Int)(s:al5)(ah:Int×Int×Int):Nat→Int→Int→(List Part)→Int→Option (cd×Int×Int)
 | 0=>λ_ _ _ _=>none
 |m+1=>SP n aE s ah (Kt n aE s ah m)
def SQ(s:al5)(at_:Int):Option (cd×Int×Int):=(zp n (⟨s,at_,0⟩:nE)).bind λah=>cond (!decide (ah.2.2=0)) ( some ((⟨0,[]⟩:cd),0,ah.2.2)) ( (qw n s ah.2.1 16).bind λaE=>Kt n aE s ah n aE.2.1 aE.2.2 ([]:List Part) 0)
def SR(ab:fY):Option (cd×Int×Int):=cond (!decide (ab.e=0)) ( some ((⟨0,[]⟩:cd),ab.at_,ab.e)) ( (SQ n ab.s ab.at_).bind λao=>cond (!decide (ao.2.2=0)) ( some ((⟨0,[]⟩:cd),ab.at_,ao.2.2)) ( some (ao.1,ao.2.1,ao.2.2)))
def v7(n:Nat)(next:Int)(e:Int)(ab:ho):Option (Int×Int):=some (next,e)
def Ku(cE:Int)(ab:ho):Option (Int×Int×Int):=cond (!decide (ab.e=0)) ( some (0,ab.at_,ab.e)) ( (qw n ab.s ab.at_ cE).bind λao=>(v7 n ao.2.1 ao.2.2 ab).bind λaE=>some (ao.1,aE.1,aE.2))
def SS(s:al5)(at_:Int):Option (Bool×Int×Int):=(Kn n s at_).bind λah=>cond ah ( some (false,0,1)) ( cond (decide (at_=((s.length:Nat):Int))) ( some (false,0,6)) ( av (aN at_ s.length)<|cond (decide (1<(((s.getD (at_).toNat 0).toNat:Nat):Int))) ( some (false,0,5)) ( av (aN at_ s.length)<|some ((decide ((((s.getD (at_).toNat 0).toNat:Nat):Int)=1)),(al7 (at_+1)),0))))
def ST(ab:ho):Option (Bool×Int×Int):=cond (!decide (ab.e=0)) ( some (false,ab.at_,ab.e)) ( (SS n ab.s ab.at_).bind λao=>(v7 n ao.2.1 ao.2.2 ab).bind λaE=>some (ao.1,aE.1,aE.2))
def Kv(cE:Int)(ab:ho):Option (al5×Int×Int):=cond (!decide (ab.e=0)) ( some (([]:al5),ab.at_,ab.e)) ( (vZ n ab.s ab.at_ cE).bind λao=>(v7 n ao.2.1 ao.2.2 ab).bind λaE=>some (ao.1,aE.1,aE.2))
def SU(n:Nat)(ab:ho)(ch:Int)(cO:Int)(v20:List al5):Option ((List al5)×Int×Int):=some (v20,ch,cO)
def SV(ah:Int×Int×Int)(ab:ho)(aj:Int→Int→(List al5)→Int→Option ((List al5)×Int×Int))(bn:Int)(v9:Int)(v10:List al5)(v11:Int):Option ((List al5)×Int×Int):=cond (decide (v11<ah.1)) ( (Kv n 24 (⟨ab.s,bn,v9⟩:ho)).bind λfm=>av (room (v10.length+([fm.1]:List al5).length) 16)<|aj fm.2.1 fm.2.2 (v10++([fm.1]:List al5)) (al7 (v11+1))) ( SU n ab bn v9 v10)
def Kw(n:Nat)(ah:Int×Int×Int)(ab:ho):Nat→Int→Int→(List al5)→Int→Option ((List al5)×Int×Int)
 | 0=>λ_ _ _ _=>none
 |m+1=>SV n ah ab (Kw n ah ab m)
def Kx(ab:ho):Option ((List al5)×Int×Int):=(Ku n 64 ab).bind λah=>Kw n ah ab n ah.2.1 ah.2.2 ([]:List al5) 0
def Ky(ab:ho):Option (Int×Int×Int):=cond (!decide (ab.e=0)) ( some (0,ab.at_,ab.e)) ( (tv n ab.s ab.at_).bind λao=>(v7 n ao.2.1 ao.2.2 ab).bind λaE=>some (ao.1,aE.1,aE.2))
def SW(ab:ho):Option (bw×Int×Int):=cond (!decide (ab.e=0)) ( some ((⟨0,0,[]⟩:bw),ab.at_,ab.e)) ( (D1 n ab.s ab.at_).bind λao=>(v7 n ao.2.1 ao.2.2 ab).bind λaE=>some (ao.1,aE.1,aE.2))
def Kz(ah:Int×Int×Int)(ao:Int×Int×Int)(s:al5)(aE:al5×Int×Int)(gO:List bw)(fi:Bool×Int×Int)(mi:Int)(v28:Int)(fl:List al5)(v30:List al5):Option (Request×Int×Int):=cond (!decide (v28=0)) ( some ((⟨0,0,[],[],false,⟨false,[],[]⟩⟩:Request),0,v28)) ( cond (cond (decide (32<ah.1)) true (decide (1099511627776<ao.1))) ( some ((⟨0,0,[],[],false,⟨false,[],[]⟩⟩:Request),0,5)) ( (oy n (⟨(al7 ah.1),(al7 ao.1),aE.1,gO,fi.1,⟨false,fl,v30⟩⟩:Request)).bind λnG=>cond (!decide (nG=0)) ( some ((⟨0,0,[],[],false,⟨false,[],[]⟩⟩:Request),0,5)) ( some ((⟨(al7 ah.1),(al7 ao.1),aE.1,gO,fi.1,⟨false,fl,v30⟩⟩:Request),mi,0))))
def SX(ah:Int×Int×Int)(ao:Int×Int×Int)(s:al5)(aE:al5×Int×Int)(v21:Int)(cJ:Int)(gO:List bw):Option (Request×Int×Int):=(ST n (⟨s,v21,cJ⟩:ho)).bind λfi=>cond fi.1 ( (Kx n (⟨s,fi.2.1,fi.2.2⟩:ho)).bind λeM=>(Kx n (⟨s,eM.2.1,eM.2.2⟩:ho)).bind λeU=>Kz n ah ao s aE gO fi eU.2.1 eU.2.2 eM.1 eU.1) ( Kz n ah ao s aE gO fi fi.2.1 fi.2.2 ([]:List al5) ([]:List al5))
def SY(ah:Int×Int×Int)(ao:Int×Int×Int)(bp:Int×Int×Int)(s:al5)(aE:al5×Int×Int)(ee:Int→Int→(List bw)→Int→Option (Request×Int×Int))(v11:Int)(v12:Int)(b9:List bw)(bu:Int):Option (Request×Int×Int):=cond (decide (bu<bp.1)) ( (SW n (⟨s,v11,v12⟩:ho)).bind λdv=>av (room (b9.length+([dv.1]:List bw).length) 32)<|ee dv.2.1 dv.2.2 (b9++([dv.1]:List bw)) (al7 (bu+1))) ( SX n ah ao s aE v11 v12 b9)
def KA(n:Nat)(ah:Int×Int×Int)(ao:Int×Int×Int)(bp:Int×Int×Int)(s:al5)(aE:al5×Int×Int):Nat→Int→Int→(List bw)→Int→Option (Request×Int×Int)
 | 0=>λ_ _ _ _=>none
 |m+1=>SY n ah ao bp s aE (KA n ah ao bp s aE m)
def SZ(s:al5)(at_:Int):Option (Request×Int×Int):=(Ky n (⟨s,at_,0⟩:ho)).bind λah=>(Ky n (⟨s,ah.2.1,ah.2.2⟩:ho)).bind λao=>(Kv n 16 (⟨s,ao.2.1,ao.2.2⟩:ho)).bind λaE=>(Ku n 6 (⟨s,aE.2.1,aE.2.2⟩:ho)).bind λbp=>KA n ah ao bp s aE n bp.2.1 bp.2.2 ([]:List bw) 0
def S0(n:Nat)(dg:List Request)(aT:Int):Option ((List Request)×Int×Int):=some (dg,aT,0)
def S1(s:al5)(ah:Int×Int×Int)(aj:(List Request)→Int→Int→Option ((List Request)×Int×Int))(bn:List Request)(v9:Int)(v10:Int):Option ((List Request)×Int×Int):=cond (decide (v9<ah.1)) ( (SZ n s v10).bind λbX=>cond (!decide (bX.2.2=0)) ( some (([]:List Request),0,bX.2.2)) ( av (room (bn.length+([bX.1]:List Request).length) 120)<|aj (bn++([bX.1]:List Request)) (al7 (v9+1)) bX.2.1)) ( S0 n bn v10)
def KB(n:Nat)(s:al5)(ah:Int×Int×Int):Nat→(List Request)→Int→Int→Option ((List Request)×Int×Int)
 | 0=>λ_ _ _=>none
 |m+1=>S1 n s ah (KB n s ah m)
def S2(s:al5)(at_:Int):Option ((List Request)×Int×Int):=(qw n s at_ 64).bind λah=>cond (!decide (ah.2.2=0)) ( some (([]:List Request),0,ah.2.2)) ( KB n s ah n ([]:List Request) 0 ah.2.1)
def S3(ab:fY):Option ((List Request)×Int×Int):=cond (!decide (ab.e=0)) ( some (([]:List Request),ab.at_,ab.e)) ( (S2 n ab.s ab.at_).bind λao=>cond (!decide (ao.2.2=0)) ( some (([]:List Request),ab.at_,ao.2.2)) ( some (ao.1,ao.2.1,ao.2.2)))
def KC(n:Nat)(ao:Int×Int×Int)(ab:ka)(v3:Int):Option (Int×Int×Int):=cond (!decide (v3=0)) ( some (0,ab.at_,v3)) ( some ((al7 ao.1),ao.2.1,v3))
def zq(least:Int)(cE:Int)(ab:ka):Option (Int×Int×Int):=cond (!decide (ab.e=0)) ( some (0,ab.at_,ab.e)) ( (tv n ab.s ab.at_).bind λao=>cond (cond (decide (ao.2.2=0)) (cond (decide (ao.1<least)) true (decide (cE<ao.1))) false) ( KC n ao ab 5) ( KC n ao ab ao.2.2))
def S4(n:Nat)(ab:ka)(ah:Int×Int×Int)(ao:Int×Int×Int)(v21:Int)(cJ:Int)(gO:List bw):Option (Outcome×Int×Int):=some ((⟨ah.1,ao.1,gO⟩:Outcome),v21,cJ)
def S5(bp:Int×Int×Int)(ab:ka)(ah:Int×Int×Int)(ao:Int×Int×Int)(aj:Int→Int→(List bw)→Int→Option (Outcome×Int×Int))(v11:Int)(v12:Int)(b9:List bw)(bu:Int):Option (Outcome×Int×Int):=cond (cond (decide (bu<bp.1)) (decide (v12=0)) false) ( (D1 n ab.s v11).bind λdv=>av (room (b9.length+([dv.1]:List bw).length) 32)<|aj dv.2.1 dv.2.2 (b9++([dv.1]:List bw)) (al7 (bu+1))) ( S4 n ab ah ao v11 v12 b9)
def KD(n:Nat)(bp:Int×Int×Int)(ab:ka)(ah:Int×Int×Int)(ao:Int×Int×Int):Nat→Int→Int→(List bw)→Int→Option (Outcome×Int×Int)
 | 0=>λ_ _ _ _=>none
 |m+1=>S5 n bp ab ah ao (KD n bp ab ah ao m)
def S6(ab:ka):Option (Outcome×Int×Int):=(zq n 0 9999 ab).bind λah=>(zq n 0 9999 (⟨ab.s,ah.2.1,ah.2.2⟩:ka)).bind λao=>cond (!decide (ao.2.2=0)) ( some ((⟨ah.1,ao.1,[]⟩:Outcome),ao.2.1,ao.2.2)) ( (qw n ab.s ao.2.1 16).bind λbp=>KD n bp ab ah ao n bp.2.1 bp.2.2 ([]:List bw) 0)
def S7(n:Nat)(ab:ka)(ah:Int×Int×Int)(ao:Int×Int×Int)(v21:Int)(cJ:Int)(gO:List es):Option (bI×Int×Int):=some ((⟨ah.1,ao.1,gO⟩:bI),v21,cJ)
def S8(bp:Int)(ab:ka)(ah:Int×Int×Int)(ao:Int×Int×Int)(aj:Int→Int→(List es)→Int→Option (bI×Int×Int))(v11:Int)(v12:Int)(b9:List es)(bu:Int):Option (bI×Int×Int):=cond (cond (decide (bu<bp)) (decide (v12=0)) false) ( (S6 n (⟨ab.s,v11,v12⟩:ka)).bind λdv=>av (room (b9.length+([(⟨ah.1,(al7 (ao.1-(al7 (bp-bu)))),dv.1⟩:es)]:List es).length) 56)<|aj dv.2.1 dv.2.2 (b9++([(⟨ah.1,(al7 (ao.1-(al7 (bp-bu)))),dv.1⟩:es)]:List es)) (al7 (bu+1))) ( S7 n ab ah ao v11 v12 b9)
def KE(n:Nat)(bp:Int)(ab:ka)(ah:Int×Int×Int)(ao:Int×Int×Int):Nat→Int→Int→(List es)→Int→Option (bI×Int×Int)
 | 0=>λ_ _ _ _=>none
 |m+1=>S8 n bp ab ah ao (KE n bp ab ah ao m)
def S9(ab:ka):Option (bI×Int×Int):=(zq n 1 32 ab).bind λah=>(zq n 1 1099511627776 (⟨ab.s,ah.2.1,ah.2.2⟩:ka)).bind λao=>cond (!decide (ao.2.2=0)) ( some ((⟨ah.1,ao.1,[]⟩:bI),ao.2.1,ao.2.2)) ( (DC n ao.1).bind λbp=>KE n bp ab ah ao n ao.2.1 ao.2.2 ([]:List es) 0)
def S'(s:al5)(cO:Int)(v20:Int)(v21:List bI):Option ((List bI)×Int×Int):=cond (!decide (v20=0)) ( some (([]:List bI),0,v20)) ( (rz n v21).bind λef=>cond (!ef) ( some (([]:List bI),0,5)) ( some (v21,cO,0)))
def S_(ah:Int×Int×Int)(s:al5)(aj:Int→Int→(List bI)→Int→Option ((List bI)×Int×Int))(v9:Int)(v10:Int)(v11:List bI)(v12:Int):Option ((List bI)×Int×Int):=cond (cond (decide (v12<ah.1)) (decide (v10=0)) false) ( (S9 n (⟨s,v9,v10⟩:ka)).bind λdk=>av (room (v11.length+([dk.1]:List bI).length) 40)<|aj dk.2.1 dk.2.2 (v11++([dk.1]:List bI)) (al7 (v12+1))) ( S' n s v9 v10 v11)
def KF(n:Nat)(ah:Int×Int×Int)(s:al5):Nat→Int→Int→(List bI)→Int→Option ((List bI)×Int×Int)
 | 0=>λ_ _ _ _=>none
 |m+1=>S_ n ah s (KF n ah s m)
def Ta(s:al5)(at_:Int):Option ((List bI)×Int×Int):=(qw n s at_ 32).bind λah=>cond (!decide (ah.2.2=0)) ( some (([]:List bI),0,ah.2.2)) ( KF n ah s n ah.2.1 0 ([]:List bI) 0)
def Tb(ab:fY):Option ((List bI)×Int×Int):=cond (!decide (ab.e=0)) ( some (([]:List bI),ab.at_,ab.e)) ( (Ta n ab.s ab.at_).bind λao=>cond (!decide (ao.2.2=0)) ( some (([]:List bI),ab.at_,ao.2.2)) ( some (ao.1,ao.2.1,ao.2.2)))
def Tc(s:al5)(at_:Int)(a2:Int):Option (Int×Int×Int):=(qw n s at_ a2).bind λah=>some (ah.1,ah.2.1,ah.2.2)
def KG(p:Int)(ab:fY):Option (Int×Int×Int):=cond (!decide (ab.e=0)) ( some (0,ab.at_,ab.e)) ( (Tc n ab.s ab.at_ p).bind λao=>cond (!decide (ao.2.2=0)) ( some (0,ab.at_,ao.2.2)) ( some (ao.1,ao.2.1,ao.2.2)))
def KH(ab:fY):Option (Int×Int×Int):=cond (!decide (ab.e=0)) ( some (0,ab.at_,ab.e)) ( (D0 n ab.s ab.at_).bind λao=>cond (!decide (ao.2.2=0)) ( some (0,ab.at_,ao.2.2)) ( some (ao.1,ao.2.1,ao.2.2)))
def Td(s:al5)(at_:Int)(a2:Int):Option (al5×Int×Int):=(vZ n s at_ a2).bind λah=>some (ah.1,ah.2.1,ah.2.2)
def KI(p:Int)(ab:fY):Option (al5×Int×Int):=cond (!decide (ab.e=0)) ( some (([]:al5),ab.at_,ab.e)) ( (Td n ab.s ab.at_ p).bind λao=>cond (!decide (ao.2.2=0)) ( some (([]:al5),ab.at_,ao.2.2)) ( some (ao.1,ao.2.1,ao.2.2)))
def Te(ab:fY):Option (Int×Int×Int):=cond (!decide (ab.e=0)) ( some (0,ab.at_,ab.e)) ( (tv n ab.s ab.at_).bind λao=>cond (!decide (ao.2.2=0)) ( some (0,ab.at_,ao.2.2)) ( some (ao.1,ao.2.1,ao.2.2)))
def KJ(n:Nat)(cE:Int):al':=some cE
def Tf(ab:fY)(ah:Int×Int×Int)(eU:(List bI)×Int×Int)(dB:cd×Int×Int)(ao:(List bE)×Int×Int)(gH:List al5)(D2:Int)(v51:Int)(D3:List bj):Option (nD×Int×Int):=(S3 n (⟨ab.s,D2,v51⟩:fY)).bind λv8=>(Te n (⟨ab.s,v8.2.1,v8.2.2⟩:fY)).bind λkd=>some ((⟨⟨ah.1,⟨0,0,[]⟩,[],eU.1,dB.1,D3,v8.1,kd.1⟩,ao.1,gH⟩:nD),kd.2.1,kd.2.2)
def Tg(ab:fY)(ah:Int×Int×Int)(eU:(List bI)×Int×Int)(dB:cd×Int×Int)(ao:(List bE)×Int×Int)(gH:List al5)(ee:Int→Int→(List bj)→Int→Option (nD×Int×Int))(hT:Int)(ib:Int)(v40:List bj)(jn:Int):Option (nD×Int×Int):=cond (cond (decide (0<jn)) (decide (ib=0)) false) ( (KJ n 24).bind λgN=>(KI n gN (⟨ab.s,hT,ib⟩:fY)).bind λm4=>(KH n (⟨ab.s,m4.2.1,m4.2.2⟩:fY)).bind λga=>av (room (v40.length+([(⟨m4.1,ga.1⟩:bj)]:List bj).length) 24)<|ee ga.2.1 ga.2.2 (v40++([(⟨m4.1,ga.1⟩:bj)]:List bj)) (al7 (jn-1))) ( Tf n ab ah eU dB ao gH hT ib v40)
def KK(n:Nat)(ab:fY)(ah:Int×Int×Int)(eU:(List bI)×Int×Int)(dB:cd×Int×Int)(ao:(List bE)×Int×Int)(gH:List al5):Nat→Int→Int→(List bj)→Int→Option (nD×Int×Int)
 | 0=>λ_ _ _ _=>none
 |m+1=>Tg n ab ah eU dB ao gH (KK n ab ah eU dB ao gH m)
def Th(ab:fY)(ah:Int×Int×Int)(ao:(List bE)×Int×Int)(gO:Int)(v24:Int)(gH:List al5):Option (nD×Int×Int):=(Tb n (⟨ab.s,gO,v24⟩:fY)).bind λeU=>(SR n (⟨ab.s,eU.2.1,eU.2.2⟩:fY)).bind λdB=>(Kj n 32).bind λll=>(KG n ll (⟨ab.s,dB.2.1,dB.2.2⟩:fY)).bind λfo=>KK n ab ah eU dB ao gH n fo.2.1 fo.2.2 ([]:List bj) fo.1
def Ti(ab:fY)(ah:Int×Int×Int)(ao:(List bE)×Int×Int)(dx:Int→Int→(List al5)→Int→Option (nD×Int×Int))(v12:Int)(b9:Int)(bu:List al5)(bA:Int):Option (nD×Int×Int):=cond (cond (decide (0<bA)) (decide (b9=0)) false) ( (KJ n 16384).bind λdW=>(KI n dW (⟨ab.s,v12,b9⟩:fY)).bind λet=>av (room (bu.length+([et.1]:List al5).length) 16)<|dx et.2.1 et.2.2 (bu++([et.1]:List al5)) (al7 (bA-1))) ( Th n ab ah ao v12 b9 bu)
def KL(n:Nat)(ab:fY)(ah:Int×Int×Int)(ao:(List bE)×Int×Int):Nat→Int→Int→(List al5)→Int→Option (nD×Int×Int)
 | 0=>λ_ _ _ _=>none
 |m+1=>Ti n ab ah ao (KL n ab ah ao m)
def Tj(ab:fY):Option (nD×Int×Int):=(KH n ab).bind λah=>(SN n (⟨ab.s,ah.2.1,ah.2.2⟩:fY)).bind λao=>(Kj n 16).bind λaE=>(KG n aE (⟨ab.s,ao.2.1,ao.2.2⟩:fY)).bind λbp=>KL n ab ah ao n bp.2.1 bp.2.2 ([]:List al5) bp.1
def KM(n:Nat):Option (al5×Int×Int):=some (([]:al5),0,6)
def Tk(n:Nat)(aj:(List Int)→Int→Option (al5×Int×Int))(s:al5)(cO:List Int)(v20:Int):Option (al5×Int×Int):=aj cO (al7 (v20+1))
def KN(aj:(List Int)→Int→Option (al5×Int×Int))(s:al5)(v11:List Int)(dg:Int)(aT:Int):Option (al5×Int×Int):=cond (cond (decide (aT<32)) true (decide (126<aT))) ( some (([]:al5),0,5)) ( cond (decide (((v11.length:Nat):Int)=64)) ( some (([]:al5),0,2)) ( av (room (v11.length+([aT]:List Int).length) 1)<|Tk n aj s (v11++([aT]:List Int)) dg))
def Tl(s:al5)(aj:(List Int)→Int→Option (al5×Int×Int))(v11:List Int)(v12:Int):Option (al5×Int×Int):=cond (decide (v12<((s.length:Nat):Int))) ( av (aN v12 s.length)<|cond (decide ((((s.getD (v12).toNat 0).toNat:Nat):Int)=34)) ( av (lj v11)<|some ((hl v11),(al7 (v12+1)),0)) ( cond (decide ((((s.getD (v12).toNat 0).toNat:Nat):Int)=92)) ( cond (decide ((al7 (v12+1))=((s.length:Nat):Int))) ( KM n) ( av (aN (al7 (v12+1)) s.length)<|cond (cond (!decide ((((s.getD ((al7 (v12+1))).toNat 0).toNat:Nat):Int)=34)) (!decide ((((s.getD ((al7 (v12+1))).toNat 0).toNat:Nat):Int)=92)) false) ( some (([]:al5),0,5)) ( KN n aj s v11 (al7 (v12+1)) (((s.getD ((al7 (v12+1))).toNat 0).toNat:Nat):Int)))) ( KN n aj s v11 v12 (((s.getD (v12).toNat 0).toNat:Nat):Int)))) ( KM n)
def KO(n:Nat)(s:al5):Nat→(List Int)→Int→Option (al5×Int×Int)
 | 0=>λ_ _=>none
 |m+1=>Tl n s (KO n s m)
def Tm(s:al5):Option (al5×Int×Int):=KO n s n ([]:List Int) 1
def Tn(s:al5)(c:Int):al':=(I0 n s c).bind λah=>some ah
def KP(s:al5):Option al5:=av (!(!(decide (s=([]:al5))))||aN 0 s.length)<|Option.bind (cond (!(decide (s=([]:al5)))) (Tn n ([40,41,123,125,44,59,58,61,60,62,43,45,42,47,37]:al5) (((s.getD 0 0).toNat:Nat):Int)) (some default)) λbV=>cond (cond (!(decide (s=([]:al5)))) (decide (0≤bV)) false) ( av (gS 1 s.length)<|some (s.take 1)) ( some ([]:al5))
def v'(s:al5)(v2:Bool):Option al5:=cond v2 ( av (gS 2 s.length)<|some (s.take 2)) ( KP n s)
def To(s:al5):Option al5:=cond (decide (2≤((s.length:Nat):Int))) ( av (gS 2 s.length)<|cond (decide ((s.take 2)=([61,61]:al5))) ( v' n s (decide ((s.take 2)=([61,61]:al5)))) ( cond (decide ((s.take 2)=([33,61]:al5))) ( v' n s (decide ((s.take 2)=([33,61]:al5)))) ( cond (decide ((s.take 2)=([60,61]:al5))) ( v' n s (decide ((s.take 2)=([60,61]:al5)))) ( cond (decide ((s.take 2)=([62,61]:al5))) ( v' n s (decide ((s.take 2)=([62,61]:al5)))) ( v' n s (decide ((s.take 2)=([43,43]:al5)))))))) ( KP n s)
def KQ(s:al5)(v3:al5)(v4:Bool)(v10:Int):Option (Int×Int):=av ((cond (decide (v10=0)) true (decide (v10<((v3.length:Nat):Int))))||aN 0 v3.length)<|cond (cond (cond (decide (v10=0)) true (decide (v10<((v3.length:Nat):Int)))) true (cond (decide ((((v3.getD 0 0).toNat:Nat):Int)=48)) (cond (decide (1<v10)) true v4) false)) ( some (0,5)) ( (I1 n s 10 64).bind λdk=>hA.on dk (λTp=>cond (!true) ( some (0,3)) ( some (Tp,0))) (λTq=>cond (!false) ( some (0,3)) ( some (Tq,0))))
def Tr(s:al5)(v3:al5)(v4:Bool)(ee:Int→Option (Int×Int))(bm:Int):Option (Int×Int):=cond (decide (bm<((v3.length:Nat):Int))) ( av (aN bm v3.length)<|cond (cond (decide (48≤(((v3.getD (bm).toNat 0).toNat:Nat):Int))) (decide ((((v3.getD (bm).toNat 0).toNat:Nat):Int)≤57)) false) ( ee (al7 (bm+1))) ( KQ n s v3 v4 bm)) ( KQ n s v3 v4 bm)
def KR(n:Nat)(s:al5)(v3:al5)(v4:Bool):Nat→Int→Option (Int×Int)
 | 0=>λ_=>none
 |m+1=>Tr n s v3 v4 (KR n s v3 v4 m)
def KS(s:al5)(v3:al5)(v4:Bool):Option (Int×Int):=KR n s v3 v4 n 0
def Ts(s:al5):Option (Int×Int):=av (!(decide (0<((s.length:Nat):Int)))||aN 0 s.length)<|cond (cond (decide (0<((s.length:Nat):Int))) (decide ((((s.getD 0 0).toNat:Nat):Int)=45)) false) ( av (gS 1 s.length)<|KS n s (s.drop 1) true) ( KS n s s false)
def Tt(w:al5):Option (Token×Int):=av (aN 0 w.length)<|cond (decide ((((w.getD 0 0).toNat:Nat):Int)=95)) ( some ((⟨0,[],0,0⟩:Token),5)) ( av (aN 0 w.length)<|(yO n (IntKind.i32.wrap (((w.getD 0 0).toNat:Nat):Int))).bind λbp=>cond bp ( (yN n w).bind λbL=>cond bL ( some ((⟨2,w,0,0⟩:Token),0)) ( (qu n w).bind λc7=>cond (!c7) ( some ((⟨0,[],0,0⟩:Token),2)) ( some ((⟨1,w,0,0⟩:Token),0)))) ( (Ts n w).bind λdV=>cond (!decide (dV.2=0)) ( some ((⟨0,[],0,0⟩:Token),dV.2)) ( some ((⟨3,[],dV.1,0⟩:Token),0))))
def Tu(s:al5):Option (Token×Int×Int):=(vq n s).bind λah=>cond (decide (0<ah)) ( av (gS ah s.length)<|(Tt n (s.take (ah).toNat)).bind λbp=>some (bp.1,ah,bp.2)) ( av (aN 0 s.length)<|cond (decide ((((s.getD 0 0).toNat:Nat):Int)=34)) ( (Tm n s).bind λcT=>some ((⟨4,cT.1,0,0⟩:Token),cT.2.1,cT.2.2)) ( (To n s).bind λc7=>cond (decide (c7=([]:al5))) ( some ((⟨0,[],0,0⟩:Token),0,5)) ( some ((⟨5,c7,0,0⟩:Token),((c7.length:Nat):Int),0))))
def Tv(s:al5):Option al5:=(IZ n s).bind λah=>some ah
def Tw(n:Nat)(D4:List Token):Option ((List Token)×Int×Int):=some (D4,0,0)
def Tx(aj:(List Token)→Int→Int→Option ((List Token)×Int×Int))(src:al5)(aT:List Token)(ch:Int)(cO:Int):Option ((List Token)×Int×Int):=av (gS cO src.length)<|(Tu n (src.drop (cO).toNat)).bind λfo=>cond (!decide (fo.2.2=0)) ( some (([]:List Token),ch,fo.2.2)) ( (Tv n fo.1.Text).bind λhF=>av (room (aT.length+([(⟨fo.1.Kind,hF,fo.1.N,ch⟩:Token)]:List Token).length) 40)<|aj (aT++([(⟨fo.1.Kind,hF,fo.1.N,ch⟩:Token)]:List Token)) ch (al7 (cO+fo.2.1)))
def Ty(n:Nat)(aj:(List Token)→Int→Int→Option ((List Token)×Int×Int))(src:al5)(aT:List Token)(ch:Int)(mi:Int):Option ((List Token)×Int×Int):=aj aT ch mi
def Tz(aj:(List Token)→Int→Int→Option ((List Token)×Int×Int))(src:al5)(aT:List Token)(ch:Int)(pF:Int→Option ((List Token)×Int×Int))(v24:Int):Option ((List Token)×Int×Int):=av (!(decide (v24<((src.length:Nat):Int)))||aN v24 src.length)<|cond (cond (decide (v24<((src.length:Nat):Int))) (!decide ((((src.getD (v24).toNat 0).toNat:Nat):Int)=10)) false) ( pF (al7 (v24+1))) ( Ty n aj src aT ch v24)
def KT(n:Nat)(aj:(List Token)→Int→Int→Option ((List Token)×Int×Int))(src:al5)(aT:List Token)(ch:Int):Nat→Int→Option ((List Token)×Int×Int)
 | 0=>λ_=>none
 |m+1=>Tz n aj src aT ch (KT n aj src aT ch m)
def KU(aj:(List Token)→Int→Int→Option ((List Token)×Int×Int))(src:al5)(aT:List Token)(ch:Int)(cO:Int)(v21:Bool):Option ((List Token)×Int×Int):=cond v21 ( aj aT ch (al7 (cO+1))) ( cond (decide ((((src.getD (cO).toNat 0).toNat:Nat):Int)=35)) ( KT n aj src aT ch n cO) ( Tx n aj src aT ch cO))
def TA(src:al5)(aj:(List Token)→Int→Int→Option ((List Token)×Int×Int))(aT:List Token)(ch:Int)(cO:Int):Option ((List Token)×Int×Int):=cond (decide (cO<((src.length:Nat):Int))) ( av (aN cO src.length)<|cond (decide ((((src.getD (cO).toNat 0).toNat:Nat):Int)=10)) ( aj aT (al7 (ch+1)) (al7 (cO+1))) ( cond (decide ((((src.getD (cO).toNat 0).toNat:Nat):Int)=32)) ( KU n aj src aT ch cO (decide ((((src.getD (cO).toNat 0).toNat:Nat):Int)=32))) ( KU n aj src aT ch cO (decide ((((src.getD (cO).toNat 0).toNat:Nat):Int)=9))))) ( Tw n aT)
def KV(n:Nat)(src:al5):Nat→(List Token)→Int→Int→Option ((List Token)×Int×Int)
 | 0=>λ_ _ _=>none
 |m+1=>TA n src (KV n src m)
def TB(src:al5):Option ((List Token)×Int×Int):=cond (decide (16384<((src.length:Nat):Int))) ( some (([]:List Token),0,2)) ( KV n src n ([]:List Token) 1 0)
def rC(n:Nat)(text:al5)(ab:aX):al9:=cond (decide (((ab.tokens.length:Nat):Int)≤ab.at_)) ( some false) ( av (aN ab.at_ ab.tokens.length)<|some (cond (cond (decide ((al8 ab.tokens (ab.at_)).Kind=2)) true (decide ((al8 ab.tokens (ab.at_)).Kind=5))) (decide (((al8 ab.tokens (ab.at_)).Text)=text)) false))
def kF(text:al5)(ab:aX):Option (Bool×Int):=(rC n text ab).bind λah=>cond (!ah) ( some (false,ab.at_)) ( some (true,(al7 (ab.at_+1))))
def KW(n:Nat)(ab:aX):Option (aO Unit Unit):=av (aN (al7 (((ab.tokens.length:Nat):Int)-1)) ab.tokens.length)<|some (.bd (.iface 332 (.agg [.int .i64 ((al8 ab.tokens (al7 (((ab.tokens.length:Nat):Int)-1))).lQ),.int .i64 6])) ())
def KX(ab:aX):Option (aO Unit Unit):=cond (decide (((ab.tokens.length:Nat):Int)=0)) ( some (.bd (.iface 332 (.agg [.int .i64 1,.int .i64 6])) ())) ( KW n ab)
def qx(code:Int)(ab:aX):Option (aO Unit Unit):=cond (decide (ab.at_<((ab.tokens.length:Nat):Int))) ( av (aN ab.at_ ab.tokens.length)<|some (.bd (.iface 332 (.agg [.int .i64 ((al8 ab.tokens (ab.at_)).lQ),.int .i64 code])) ())) ( KX n ab)
def ke(text:al5)(ab:aX):Option (aO Unit Int):=(kF n text ab).bind λah=>cond (!ah.1) ( (qx n 5 (⟨ab.tokens,ah.2⟩:aX)).bind λaE=>aO.on aE (λbp bV=>some (.ret () ah.2)) (λoD bV=>some (.bd oD ah.2))) ( some (.ret () ah.2))
def tw(s:Stmt)(ab:aX):Option (aO Stmt Int):=(ke n ([59]:al5) ab).bind λah=>aO.on ah (λao aE=>some (.ret (⟨s.Op,s.Name,s.Max,⟨s.A.Op,s.A.N,s.A.S,s.A.au⟩,⟨s.B.Op,s.B.N,s.B.S,s.B.au⟩,s.Body,s.bN⟩:Stmt) aE)) (λe9 aE=>some (.bd e9 aE))
def TC(n:Nat)(ab:aX):Option (Int×Int):=cond (decide (((ab.tokens.length:Nat):Int)≤ab.at_)) ( some (0,0)) ( av (aN ab.at_ ab.tokens.length)<|cond (cond (!decide ((al8 ab.tokens (ab.at_)).Kind=2)) (!decide ((al8 ab.tokens (ab.at_)).Kind=5)) false) ( some (0,0)) ( cond (decide (((al8 ab.tokens (ab.at_)).Text)=([111,114]:al5))) ( some (1,17)) ( cond (decide (((al8 ab.tokens (ab.at_)).Text)=([97,110,100]:al5))) ( some (2,16)) ( cond (decide (((al8 ab.tokens (ab.at_)).Text)=([61,61]:al5))) ( some (4,10)) ( cond (decide (((al8 ab.tokens (ab.at_)).Text)=([33,61]:al5))) ( some (4,11)) ( cond (decide (((al8 ab.tokens (ab.at_)).Text)=([60]:al5))) ( some (4,12)) ( cond (decide (((al8 ab.tokens (ab.at_)).Text)=([60,61]:al5))) ( some (4,13)) ( cond (decide (((al8 ab.tokens (ab.at_)).Text)=([62]:al5))) ( some (4,14)) ( cond (decide (((al8 ab.tokens (ab.at_)).Text)=([62,61]:al5))) ( some (4,15)) ( cond (decide (((al8 ab.tokens (ab.at_)).Text)=([43,43]:al5))) ( some (5,19)) ( cond (decide (((al8 ab.tokens (ab.at_)).Text)=([43]:al5))) ( some (6,4)) ( cond (decide (((al8 ab.tokens (ab.at_)).Text)=([45]:al5))) ( some (6,5)) ( cond (decide (((al8 ab.tokens (ab.at_)).Text)=([42]:al5))) ( some (7,6)) ( cond (decide (((al8 ab.tokens (ab.at_)).Text)=([47]:al5))) ( some (7,7)) ( cond (decide (((al8 ab.tokens (ab.at_)).Text)=([37]:al5))) ( some (7,8)) ( some (0,0)))))))))))))))))
def D5(n:Nat)(depth:Int)(ab:aX):Option (aO Int Unit):=some (.ret (al7 (depth+1)) ())
def v_(depth:Int)(ab:aX):Option (aO Int Unit):=cond (decide (24≤depth)) ( (qx n 2 ab).bind λah=>aO.on ah (λao aE=>D5 n depth ab) (λe9 aE=>some (.bd e9 ()))) ( D5 n depth ab)
def D6(n:Nat)(ab:aX):al':=av ((decide (((ab.tokens.length:Nat):Int)≤ab.at_))||aN ab.at_ ab.tokens.length)<|cond (cond (decide (((ab.tokens.length:Nat):Int)≤ab.at_)) true (!decide ((al8 ab.tokens (ab.at_)).Kind=2))) ( some 0) ( av (aN ab.at_ ab.tokens.length)<|cond (decide (((al8 ab.tokens (ab.at_)).Text)=([116,101,120,116]:al5))) ( some 20) ( cond (decide (((al8 ab.tokens (ab.at_)).Text)=([108,101,110]:al5))) ( some 21) ( cond (decide (((al8 ab.tokens (ab.at_)).Text)=([103,101,116,105,110,116]:al5))) ( some 22) ( cond (decide (((al8 ab.tokens (ab.at_)).Text)=([103,101,116,115,116,114]:al5))) ( some 23) ( cond (decide (((al8 ab.tokens (ab.at_)).Text)=([104,97,115]:al5))) ( some 24) ( cond (decide (((al8 ab.tokens (ab.at_)).Text)=([110,111,119]:al5))) ( some 25) ( cond (decide (((al8 ab.tokens (ab.at_)).Text)=([114,97,110,100,111,109]:al5))) ( some 26) ( cond (decide (((al8 ab.tokens (ab.at_)).Text)=([110,111,100,101]:al5))) ( some 27) ( some 0)))))))))
def TD(fp:Int→Int→aX→Option (aO Expr Int))(fD:Int→Int→Int→aX→Option (aO Expr Int))(fM:Int→aX→Option (aO Expr Int))(fE:Int→aX→Option (aO Expr Int))(level:Int)(depth:Int)(ab:aX)(cN:Int→Int→Int→al5→(List Expr)→Option (aO Expr Int))(v37:Int)(hT:Int)(ib:Int)(v40:al5)(jn:List Expr):Option (aO Expr Int):=(TC n (⟨ab.tokens,v37⟩:aX)).bind λgN=>cond (!decide (gN.1=level)) ( some (.ret (⟨hT,ib,v40,jn⟩:Expr) v37)) ( (fp (al7 (level+1)) depth (⟨ab.tokens,(al7 (v37+1))⟩:aX)).bind λm4=>aO.on m4 (λga ix=>cond (decide (level=4)) ( some (.ret (⟨gN.2,0,[],[⟨hT,ib,v40,jn⟩,ga]⟩:Expr) ix)) ( cN ix gN.2 0 ([]:al5) ([(⟨hT,ib,v40,jn⟩:Expr),ga]:List Expr))) (λtx ix=>some (.bd tx ix)))
def KY(n:Nat)(fp:Int→Int→aX→Option (aO Expr Int))(fD:Int→Int→Int→aX→Option (aO Expr Int))(fM:Int→aX→Option (aO Expr Int))(fE:Int→aX→Option (aO Expr Int))(level:Int)(depth:Int)(ab:aX):Nat→Int→Int→Int→al5→(List Expr)→Option (aO Expr Int)
 | 0=>λ_ _ _ _ _=>none
 |m+1=>TD n fp fD fM fE level depth ab (KY n fp fD fM fE level depth ab m)
def TE(fp:Int→Int→aX→Option (aO Expr Int))(fD:Int→Int→Int→aX→Option (aO Expr Int))(fM:Int→aX→Option (aO Expr Int))(fE:Int→aX→Option (aO Expr Int))(level:Int)(depth:Int)(ab:aX):Option (aO Expr Int):=cond (decide (level=3)) ( (rC n ([110,111,116]:al5) ab).bind λao=>cond ao ( (fD 18 level depth ab).bind λbp=>aO.on bp (λbV bL=>some (.ret bV bL)) (λzr bL=>some (.bd zr bL))) ( (fp 4 depth ab).bind λc7=>aO.on c7 (λcH dV=>some (.ret cH dV)) (λKZ dV=>some (.bd KZ dV)))) ( cond (decide (level=8)) ( (rC n ([45]:al5) ab).bind λdk=>cond dk ( (fD 9 level depth ab).bind λdv=>aO.on dv (λdW et=>some (.ret dW et)) (λtz et=>some (.bd tz et))) ( (fM depth ab).bind λe4=>aO.on e4 (λdY fh=>some (.ret dY fh)) (λK0 fh=>some (.bd K0 fh)))) ( (fp (al7 (level+1)) depth ab).bind λef=>aO.on ef (λfi eM=>KY n fp fD fM fE level depth ab n eM fi.Op fi.N fi.S fi.au) (λK1 eM=>some (.bd K1 eM))))
def TF(fp:Int→Int→aX→Option (aO Expr Int))(fD:Int→Int→Int→aX→Option (aO Expr Int))(fM:Int→aX→Option (aO Expr Int))(fE:Int→aX→Option (aO Expr Int))(op:Int)(level:Int)(depth:Int)(ab:aX):Option (aO Expr Int):=(v_ n depth ab).bind λah=>aO.on ah (λao aE=>(fp level ao (⟨ab.tokens,(al7 (ab.at_+1))⟩:aX)).bind λbV=>aO.on bV (λbL cT=>some (.ret (⟨op,0,[],[bL]⟩:Expr) cT)) (λiL cT=>some (.bd iL cT))) (λe9 aE=>some (.bd e9 ab.at_))
def K2(fp:Int→Int→aX→Option (aO Expr Int))(fD:Int→Int→Int→aX→Option (aO Expr Int))(fM:Int→aX→Option (aO Expr Int))(fE:Int→aX→Option (aO Expr Int))(depth:Int)(aE:Int)(ab:aX)(v2:Int):Option (aO Expr Int):=(v_ n depth (⟨ab.tokens,v2⟩:aX)).bind λeU=>aO.on eU (λdB ll=>(fE dB (⟨ab.tokens,(al7 (v2+1))⟩:aX)).bind λhF=>aO.on hF (λf0 jo=>some (.ret (⟨aE,0,[],[f0]⟩:Expr) jo)) (λtA jo=>some (.bd tA jo))) (λK3 ll=>some (.bd K3 v2))
def K4(fp:Int→Int→aX→Option (aO Expr Int))(fD:Int→Int→Int→aX→Option (aO Expr Int))(fM:Int→aX→Option (aO Expr Int))(fE:Int→aX→Option (aO Expr Int))(depth:Int)(ab:aX)(v2:Int):Option (aO Expr Int):=(v_ n depth (⟨ab.tokens,v2⟩:aX)).bind λcH=>aO.on cH (λdV bX=>(fE dV (⟨ab.tokens,v2⟩:aX)).bind λdk=>aO.on dk (λez dv=>some (.ret ez dv)) (λtB dv=>some (.bd tB dv))) (λlR bX=>some (.bd lR v2))
def zt(fp:Int→Int→aX→Option (aO Expr Int))(fD:Int→Int→Int→aX→Option (aO Expr Int))(fM:Int→aX→Option (aO Expr Int))(fE:Int→aX→Option (aO Expr Int))(depth:Int)(aE:Int)(ab:aX)(v2:Int)(aT:Bool):Option (aO Expr Int):=cond aT ( (ke n ([40]:al5) (⟨ab.tokens,(al7 (v2+1))⟩:aX)).bind λfu=>aO.on fu (λe4 dY=>(ke n ([41]:al5) (⟨ab.tokens,dY⟩:aX)).bind λdn=>aO.on dn (λef fi=>some (.ret (⟨aE,0,[],[]⟩:Expr) fi)) (λK5 fi=>some (.bd K5 fi))) (λK6 dY=>some (.bd K6 dY))) ( K2 n fp fD fM fE depth aE ab v2)
def zu(fp:Int→Int→aX→Option (aO Expr Int))(fD:Int→Int→Int→aX→Option (aO Expr Int))(fM:Int→aX→Option (aO Expr Int))(fE:Int→aX→Option (aO Expr Int))(depth:Int)(ab:aX)(v2:Int):Option (aO Expr Int):=(D6 n (⟨ab.tokens,v2⟩:aX)).bind λaE=>cond (decide (aE=0)) ( (rC n ([40]:al5) (⟨ab.tokens,v2⟩:aX)).bind λbp=>cond (!bp) ( (qx n 5 (⟨ab.tokens,v2⟩:aX)).bind λbV=>aO.on bV (λbL cT=>K4 n fp fD fM fE depth ab v2) (λiL cT=>some (.bd iL v2))) ( K4 n fp fD fM fE depth ab v2)) ( cond (decide (aE=25)) ( zt n fp fD fM fE depth aE ab v2 (decide (aE=25))) ( cond (decide (aE=26)) ( zt n fp fD fM fE depth aE ab v2 (decide (aE=26))) ( zt n fp fD fM fE depth aE ab v2 (decide (aE=27)))))
def D7(fp:Int→Int→aX→Option (aO Expr Int))(fD:Int→Int→Int→aX→Option (aO Expr Int))(fM:Int→aX→Option (aO Expr Int))(fE:Int→aX→Option (aO Expr Int))(depth:Int)(ab:aX):Option (aO Expr Int):=cond (decide (ab.at_<((ab.tokens.length:Nat):Int))) ( av (aN ab.at_ ab.tokens.length)<|cond (decide ((al8 ab.tokens (ab.at_)).Kind=3)) ( some (.ret (⟨1,(al8 ab.tokens (ab.at_)).N,[],[]⟩:Expr) (al7 (ab.at_+1)))) ( cond (decide ((al8 ab.tokens (ab.at_)).Kind=4)) ( some (.ret (⟨2,0,(al8 ab.tokens (ab.at_)).Text,[]⟩:Expr) (al7 (ab.at_+1)))) ( cond (decide ((al8 ab.tokens (ab.at_)).Kind=1)) ( some (.ret (⟨3,0,(al8 ab.tokens (ab.at_)).Text,[]⟩:Expr) (al7 (ab.at_+1)))) ( zu n fp fD fM fE depth ab (al7 ((al7 (ab.at_+1))-1)))))) ( zu n fp fD fM fE depth ab ab.at_)
def D8(fp:Int→Int→aX→Option (aO Expr Int))(fD:Int→Int→Int→aX→Option (aO Expr Int))(fM:Int→aX→Option (aO Expr Int))(fE:Int→aX→Option (aO Expr Int))(depth:Int)(ab:aX):Option (aO Expr Int):=(ke n ([40]:al5) ab).bind λah=>aO.on ah (λao aE=>(fp 1 depth (⟨ab.tokens,aE⟩:aX)).bind λbV=>aO.on bV (λbL cT=>(ke n ([41]:al5) (⟨ab.tokens,cT⟩:aX)).bind λcH=>aO.on cH (λdV bX=>some (.ret bL bX)) (λlR bX=>some (.bd lR bX))) (λiL cT=>some (.bd iL cT))) (λe9 aE=>some (.bd e9 aE))
def jI:Nat→(Int→Int→aX→Option (aO Expr Int))×(Int→Int→Int→aX→Option (aO Expr Int))×(Int→aX→Option (aO Expr Int))×(Int→aX→Option (aO Expr Int))
 | 0=>(λ_ _ _=>none,λ_ _ _ _=>none,λ_ _=>none,λ_ _=>none)
 |m+1=>(TE m ((jI m).1) ((jI m).2.1) ((jI m).2.2.1) ((jI m).2.2.2),TF m ((jI m).1) ((jI m).2.1) ((jI m).2.2.1) ((jI m).2.2.2),D7 m ((jI m).1) ((jI m).2.1) ((jI m).2.2.1) ((jI m).2.2.2),D8 m ((jI m).1) ((jI m).2.1) ((jI m).2.2.1) ((jI m).2.2.2))
def lm:Int→Int→aX→Option (aO Expr Int):=(jI n).1
def D9:Int→Int→Int→aX→Option (aO Expr Int):=(jI n).2.1
def tC:Int→aX→Option (aO Expr Int):=(jI n).2.2.1
def wa:Int→aX→Option (aO Expr Int):=(jI n).2.2.2
def K7(n:Nat)(ab:aX):Option (aO Token Int):=av (aN (al7 ((al7 (ab.at_+1))-1)) ab.tokens.length)<|some (.ret (al8 ab.tokens (al7 ((al7 (ab.at_+1))-1))) (al7 (ab.at_+1)))
def rD(kind:Int)(ab:aX):Option (aO Token Int):=av ((decide (((ab.tokens.length:Nat):Int)≤ab.at_))||aN ab.at_ ab.tokens.length)<|cond (cond (decide (((ab.tokens.length:Nat):Int)≤ab.at_)) true (!decide ((al8 ab.tokens (ab.at_)).Kind=kind))) ( (qx n 5 ab).bind λao=>aO.on ao (λaE bp=>K7 n ab) (λkf bp=>some (.bd kf ab.at_))) ( K7 n ab)
def TG(n:Nat)(gw:Int→aX→Option (aO (List Stmt) Int))(gP:Int→aX→Option (aO Stmt Int))(gQ:Int→aX→Option (aO Stmt Int))(ab:aX)(v28:Int)(fl:List Stmt):Option (aO (List Stmt) Int):=some (.ret fl v28)
def TH(gw:Int→aX→Option (aO (List Stmt) Int))(gP:Int→aX→Option (aO Stmt Int))(gQ:Int→aX→Option (aO Stmt Int))(depth:Int)(ab:aX)(ee:Int→(List Stmt)→Option (aO (List Stmt) Int))(ch:Int)(cO:List Stmt):Option (aO (List Stmt) Int):=(kF n ([125]:al5) (⟨ab.tokens,ch⟩:aX)).bind λdY=>cond (!dY.1) ( (gP (al7 (depth+1)) (⟨ab.tokens,dY.2⟩:aX)).bind λfh=>aO.on fh (λdn ef=>av (room (cO.length+([dn]:List Stmt).length) 192)<|ee ef (cO++([dn]:List Stmt))) (λoE ef=>some (.bd oE ef))) ( TG n gw gP gQ ab dY.2 cO)
def K8(n:Nat)(gw:Int→aX→Option (aO (List Stmt) Int))(gP:Int→aX→Option (aO Stmt Int))(gQ:Int→aX→Option (aO Stmt Int))(depth:Int)(ab:aX):Nat→Int→(List Stmt)→Option (aO (List Stmt) Int)
 | 0=>λ_ _=>none
 |m+1=>TH n gw gP gQ depth ab (K8 n gw gP gQ depth ab m)
def K9(gw:Int→aX→Option (aO (List Stmt) Int))(gP:Int→aX→Option (aO Stmt Int))(gQ:Int→aX→Option (aO Stmt Int))(depth:Int)(ab:aX):Option (aO (List Stmt) Int):=(ke n ([123]:al5) ab).bind λbL=>aO.on bL (λcT c7=>K8 n gw gP gQ depth ab n c7 ([]:List Stmt)) (λK' c7=>some (.bd K' c7))
def TI(gw:Int→aX→Option (aO (List Stmt) Int))(gP:Int→aX→Option (aO Stmt Int))(gQ:Int→aX→Option (aO Stmt Int))(depth:Int)(ab:aX):Option (aO (List Stmt) Int):=(rC n ([123]:al5) ab).bind λah=>cond (cond ah (decide (12<depth)) false) ( (qx n 2 ab).bind λao=>aO.on ao (λaE bp=>K9 n gw gP gQ depth ab) (λkf bp=>some (.bd kf ab.at_))) ( K9 n gw gP gQ depth ab)
def K_(n:Nat)(gw:Int→aX→Option (aO (List Stmt) Int))(gP:Int→aX→Option (aO Stmt Int))(gQ:Int→aX→Option (aO Stmt Int))(ab:aX)(pH:Expr)(tD:(List Stmt))(D':Int)(D_:List Stmt):Option (aO Stmt Int):=some (.ret (⟨5,[],0,pH,⟨0,0,[],[]⟩,tD,D_⟩:Stmt) D')
def TJ(gw:Int→aX→Option (aO (List Stmt) Int))(gP:Int→aX→Option (aO Stmt Int))(gQ:Int→aX→Option (aO Stmt Int))(depth:Int)(ab:aX):Option (aO Stmt Int):=(kF n ([108,101,116]:al5) ab).bind λah=>cond ah.1 ( (rD n 1 (⟨ab.tokens,ah.2⟩:aX)).bind λaE=>aO.on aE (λbp bV=>(ke n ([61]:al5) (⟨ab.tokens,bV⟩:aX)).bind λcT=>aO.on cT (λc7 cH=>(lm n 1 0 (⟨ab.tokens,cH⟩:aX)).bind λbX=>aO.on bX (λfm dk=>(tw n (⟨1,bp.Text,0,fm,⟨0,0,[],[]⟩,[],[]⟩:Stmt) (⟨ab.tokens,dk⟩:aX)).bind λdv=>aO.on dv (λdW et=>some (.ret (⟨dW.Op,dW.Name,dW.Max,⟨dW.A.Op,dW.A.N,dW.A.S,dW.A.au⟩,⟨dW.B.Op,dW.B.N,dW.B.S,dW.B.au⟩,dW.Body,dW.bN⟩:Stmt) et)) (λtz et=>some (.bd tz et))) (λLa dk=>some (.bd La dk))) (λLb cH=>some (.bd Lb cH))) (λoD bV=>some (.bd oD bV))) ( (kF n ([112,117,116]:al5) (⟨ab.tokens,ah.2⟩:aX)).bind λe4=>cond e4.1 ( (lm n 1 0 (⟨ab.tokens,e4.2⟩:aX)).bind λfh=>aO.on fh (λdn ef=>(ke n ([61]:al5) (⟨ab.tokens,ef⟩:aX)).bind λeM=>aO.on eM (λeU dB=>(lm n 1 0 (⟨ab.tokens,dB⟩:aX)).bind λfo=>aO.on fo (λhF f0=>(tw n (⟨3,[],0,dn,hF,[],[]⟩:Stmt) (⟨ab.tokens,f0⟩:aX)).bind λnG=>aO.on nG (λmj iM=>some (.ret (⟨mj.Op,mj.Name,mj.Max,⟨mj.A.Op,mj.A.N,mj.A.S,mj.A.au⟩,⟨mj.B.Op,mj.B.N,mj.B.S,mj.B.au⟩,mj.Body,mj.bN⟩:Stmt) iM)) (λLc iM=>some (.bd Lc iM))) (λtE f0=>some (.bd tE f0))) (λtF dB=>some (.bd tF dB))) (λoE ef=>some (.bd oE ef))) ( (kF n ([100,101,108,101,116,101]:al5) (⟨ab.tokens,e4.2⟩:aX)).bind λm5=>cond m5.1 ( (lm n 1 0 (⟨ab.tokens,m5.2⟩:aX)).bind λoC=>aO.on oC (λtn kc=>(tw n (⟨4,[],0,tn,⟨0,0,[],[]⟩,[],[]⟩:Stmt) (⟨ab.tokens,kc⟩:aX)).bind λm4=>aO.on m4 (λga ix=>some (.ret (⟨ga.Op,ga.Name,ga.Max,⟨ga.A.Op,ga.A.N,ga.A.S,ga.A.au⟩,⟨ga.B.Op,ga.B.N,ga.B.S,ga.B.au⟩,ga.Body,ga.bN⟩:Stmt) ix)) (λtx ix=>some (.bd tx ix))) (λtG kc=>some (.bd tG kc))) ( (kF n ([101,109,105,116]:al5) (⟨ab.tokens,m5.2⟩:aX)).bind λkE=>cond kE.1 ( (lm n 1 0 (⟨ab.tokens,kE.2⟩:aX)).bind λnJ=>aO.on nJ (λzk oF=>(tw n (⟨7,[],0,zk,⟨0,0,[],[]⟩,[],[]⟩:Stmt) (⟨ab.tokens,oF⟩:aX)).bind λv8=>aO.on v8 (λkd zv=>some (.ret (⟨kd.Op,kd.Name,kd.Max,⟨kd.A.Op,kd.A.N,kd.A.S,kd.A.au⟩,⟨kd.B.Op,kd.B.N,kd.B.S,kd.B.au⟩,kd.Body,kd.bN⟩:Stmt) zv)) (λLd zv=>some (.bd Ld zv))) (λLe oF=>some (.bd Le oF))) ( (kF n ([97,98,111,114,116]:al5) (⟨ab.tokens,kE.2⟩:aX)).bind λEa=>cond Ea.1 ( (rD n 3 (⟨ab.tokens,Ea.2⟩:aX)).bind λnL=>aO.on nL (λTK zw=>(tw n (⟨8,[],TK.N,⟨0,0,[],[]⟩,⟨0,0,[],[]⟩,[],[]⟩:Stmt) (⟨ab.tokens,zw⟩:aX)).bind λzg=>aO.on zg (λjJ rB=>some (.ret (⟨jJ.Op,jJ.Name,jJ.Max,⟨jJ.A.Op,jJ.A.N,jJ.A.S,jJ.A.au⟩,⟨jJ.B.Op,jJ.B.N,jJ.B.S,jJ.B.au⟩,jJ.Body,jJ.bN⟩:Stmt) rB)) (λLf rB=>some (.bd Lf rB))) (λLg zw=>some (.bd Lg zw))) ( (kF n ([105,102]:al5) (⟨ab.tokens,Ea.2⟩:aX)).bind λEb=>cond Eb.1 ( (lm n 1 0 (⟨ab.tokens,Eb.2⟩:aX)).bind λacP=>aO.on acP (λpH zx=>(gw depth (⟨ab.tokens,zx⟩:aX)).bind λacQ=>aO.on acQ (λtD zy=>(kF n ([101,108,115,101]:al5) (⟨ab.tokens,zy⟩:aX)).bind λEc=>cond Ec.1 ( (gw depth (⟨ab.tokens,Ec.2⟩:aX)).bind λacR=>aO.on acR (λTL zz=>K_ n gw gP gQ ab pH tD zz TL) (λLh zz=>some (.bd Lh zz))) ( K_ n gw gP gQ ab pH tD Ec.2 ([]:List Stmt))) (λLi zy=>some (.bd Li zy))) (λLj zx=>some (.bd Lj zx))) ( (kF n ([102,111,114]:al5) (⟨ab.tokens,Eb.2⟩:aX)).bind λEd=>cond Ed.1 ( (gQ depth (⟨ab.tokens,Ed.2⟩:aX)).bind λacS=>aO.on acS (λml zA=>some (.ret (⟨ml.Op,ml.Name,ml.Max,⟨ml.A.Op,ml.A.N,ml.A.S,ml.A.au⟩,⟨ml.B.Op,ml.B.N,ml.B.S,ml.B.au⟩,ml.Body,ml.bN⟩:Stmt) zA)) (λLk zA=>some (.bd Lk zA))) ( (rD n 1 (⟨ab.tokens,Ed.2⟩:aX)).bind λvP=>aO.on vP (λtl zB=>(ke n ([61]:al5) (⟨ab.tokens,zB⟩:aX)).bind λacT=>aO.on acT (λDL zC=>(lm n 1 0 (⟨ab.tokens,zC⟩:aX)).bind λacU=>aO.on acU (λTM zD=>(tw n (⟨2,tl.Text,0,TM,⟨0,0,[],[]⟩,[],[]⟩:Stmt) (⟨ab.tokens,zD⟩:aX)).bind λacV=>aO.on acV (λmm rA=>some (.ret (⟨mm.Op,mm.Name,mm.Max,⟨mm.A.Op,mm.A.N,mm.A.S,mm.A.au⟩,⟨mm.B.Op,mm.B.N,mm.B.S,mm.B.au⟩,mm.Body,mm.bN⟩:Stmt) rA)) (λLl rA=>some (.bd Ll rA))) (λLm zD=>some (.bd Lm zD))) (λLn zC=>some (.bd Ln zC))) (λLo zB=>some (.bd Lo zB)))))))))
def TN(gw:Int→aX→Option (aO (List Stmt) Int))(gP:Int→aX→Option (aO Stmt Int))(gQ:Int→aX→Option (aO Stmt Int))(depth:Int)(ab:aX):Option (aO Stmt Int):=(rD n 1 ab).bind λah=>aO.on ah (λao aE=>(ke n ([61]:al5) (⟨ab.tokens,aE⟩:aX)).bind λbV=>aO.on bV (λbL cT=>(lm n 1 0 (⟨ab.tokens,cT⟩:aX)).bind λcH=>aO.on cH (λdV bX=>(ke n ([116,111]:al5) (⟨ab.tokens,bX⟩:aX)).bind λdk=>aO.on dk (λez dv=>(lm n 1 0 (⟨ab.tokens,dv⟩:aX)).bind λet=>aO.on et (λfu e4=>(ke n ([109,97,120]:al5) (⟨ab.tokens,e4⟩:aX)).bind λfh=>aO.on fh (λdn ef=>(rD n 3 (⟨ab.tokens,ef⟩:aX)).bind λeM=>aO.on eM (λeU dB=>(gw depth (⟨ab.tokens,dB⟩:aX)).bind λfo=>aO.on fo (λhF f0=>some (.ret (⟨6,ao.Text,eU.N,dV,fu,hF,[]⟩:Stmt) f0)) (λtE f0=>some (.bd tE f0))) (λtF dB=>some (.bd tF dB))) (λoE ef=>some (.bd oE ef))) (λLp e4=>some (.bd Lp e4))) (λtB dv=>some (.bd tB dv))) (λlR bX=>some (.bd lR bX))) (λiL cT=>some (.bd iL cT))) (λe9 aE=>some (.bd e9 aE))
def nM:Nat→(Int→aX→Option (aO (List Stmt) Int))×(Int→aX→Option (aO Stmt Int))×(Int→aX→Option (aO Stmt Int))
 | 0=>(λ_ _=>none,λ_ _=>none,λ_ _=>none)
 |m+1=>(TI m ((nM m).1) ((nM m).2.1) ((nM m).2.2),TJ m ((nM m).1) ((nM m).2.1) ((nM m).2.2),TN m ((nM m).1) ((nM m).2.1) ((nM m).2.2))
def Lq:Int→aX→Option (aO (List Stmt) Int):=(nM n).1
def acW:Int→aX→Option (aO Stmt Int):=(nM n).2.1
def acX:Int→aX→Option (aO Stmt Int):=(nM n).2.2
def zE(n:Nat)(ab:aX)(ao:Token)(dg:Int)(aT:Int):Option (aO Param Int):=some (.ret (⟨ao.Text,aT⟩:Param) dg)
def Lr(ab:aX):Option (aO Param Int):=(rD n 1 ab).bind λah=>aO.on ah (λao aE=>(ke n ([58]:al5) (⟨ab.tokens,aE⟩:aX)).bind λbV=>aO.on bV (λbL cT=>(kF n ([105,110,116]:al5) (⟨ab.tokens,cT⟩:aX)).bind λcH=>cond cH.1 ( zE n ab ao cH.2 1) ( (kF n ([115,116,114]:al5) (⟨ab.tokens,cH.2⟩:aX)).bind λdV=>cond dV.1 ( zE n ab ao dV.2 2) ( (kF n ([98,111,111,108]:al5) (⟨ab.tokens,dV.2⟩:aX)).bind λbX=>cond bX.1 ( zE n ab ao bX.2 3) ( (qx n 5 (⟨ab.tokens,bX.2⟩:aX)).bind λfm=>aO.on fm (λdk ez=>zE n ab ao bX.2 0) (λLs ez=>some (.bd Ls bX.2)))))) (λiL cT=>some (.bd iL cT))) (λe9 aE=>some (.bd e9 aE))
def Lt(ab:aX)(bL:Token)(Ee:Int)(oG:List Param):Option (aO be Int):=(Lq n 0 (⟨ab.tokens,Ee⟩:aX)).bind λix=>aO.on ix (λzj kE=>some (.ret (⟨bL.Text,oG,zj⟩:be) kE)) (λLu kE=>some (.bd Lu kE))
def TO(ab:aX)(bL:Token)(v37:Int)(hT:List Param):Option (aO be Int):=(ke n ([41]:al5) (⟨ab.tokens,v37⟩:aX)).bind λoC=>aO.on oC (λtn kc=>Lt n ab bL kc hT) (λtG kc=>some (.bd tG kc))
def TP(ab:aX)(bL:Token)(ee:Int→(List Param)→Option (aO be Int))(mi:Int)(v28:List Param):Option (aO be Int):=(kF n ([44]:al5) (⟨ab.tokens,mi⟩:aX)).bind λfo=>cond fo.1 ( (Lr n (⟨ab.tokens,fo.2⟩:aX)).bind λhF=>aO.on hF (λf0 jo=>av (room (v28.length+([f0]:List Param).length) 24)<|ee jo (v28++([f0]:List Param))) (λtA jo=>some (.bd tA jo))) ( TO n ab bL fo.2 v28)
def Lv(n:Nat)(ab:aX)(bL:Token):Nat→Int→(List Param)→Option (aO be Int)
 | 0=>λ_ _=>none
 |m+1=>TP n ab bL (Lv n ab bL m)
def TQ(ab:aX):Option (aO be Int):=(ke n ([112,114,111,99]:al5) ab).bind λah=>aO.on ah (λao aE=>(rD n 1 (⟨ab.tokens,aE⟩:aX)).bind λbV=>aO.on bV (λbL cT=>(ke n ([40]:al5) (⟨ab.tokens,cT⟩:aX)).bind λcH=>aO.on cH (λdV bX=>(kF n ([41]:al5) (⟨ab.tokens,bX⟩:aX)).bind λdk=>cond (!dk.1) ( (Lr n (⟨ab.tokens,dk.2⟩:aX)).bind λez=>aO.on ez (λdv dW=>av (room (([]:List Param).length+([dv]:List Param).length) 24)<|Lv n ab bL n dW (([]:List Param)++([dv]:List Param))) (λLw dW=>some (.bd Lw dW))) ( Lt n ab bL dk.2 ([]:List Param))) (λlR bX=>some (.bd lR bX))) (λiL cT=>some (.bd iL cT))) (λe9 aE=>some (.bd e9 aE))
def TR(ab:aX)(fZ:be):Option (aO Unit (Int×al5×(List Param)×(List Stmt))):=(TQ n ab).bind λah=>aO.on ah (λao aE=>some (.ret () (aE,ao.Name,ao.Params,ao.Body))) (λe9 aE=>some (.bd e9 (aE,fZ.Name,fZ.Params,fZ.Body)))
def TS(n:Nat)(ab:aX):Option (aO Unit Unit):=av (aN (al7 (((ab.tokens.length:Nat):Int)-1)) ab.tokens.length)<|some (.bd (.iface 332 (.agg [.int .i64 ((al8 ab.tokens (al7 (((ab.tokens.length:Nat):Int)-1))).lQ),.int .i64 6])) ())
def TT(ab:aX):Option (aO Unit Unit):=cond (decide (((ab.tokens.length:Nat):Int)=0)) ( some (.bd (.iface 332 (.agg [.int .i64 1,.int .i64 6])) ())) ( TS n ab)
def TU(code:Int)(ab:aX):Option (aO Unit Unit):=cond (decide (ab.at_<((ab.tokens.length:Nat):Int))) ( av (aN ab.at_ ab.tokens.length)<|some (.bd (.iface 332 (.agg [.int .i64 ((al8 ab.tokens (ab.at_)).lQ),.int .i64 code])) ())) ( TT n ab)
def Lx(src:al5)(ab:be):Option (Int×Int×al5×(List Param)×(List Stmt)):=(TB n src).bind λah=>cond (!decide (ah.2.2=0)) (some (ah.2.1,ah.2.2,ab.Name,ab.Params,ab.Body)) ((TR n (⟨ah.1,0⟩:aX) ab).bind λao=>aO.on ao (λcA mn=>cond (decide (mn.1<((ah.1.length:Nat):Int))) ((TU n 5 (⟨ah.1,mn.1⟩:aX)).bind λaE=>aO.on aE (λcB Ly=>none) (λeA Ly=>(CE 332 eA).bind λlc=>some (lc.1,lc.2,mn.2.1,mn.2.2.1,mn.2.2.2))) (some (0,0,mn.2.1,mn.2.2.1,mn.2.2.2))) (λeA mn=>(CE 332 eA).bind λlc=>some (lc.1,lc.2,mn.2.1,mn.2.2.1,mn.2.2.2)))
def Lz(n:Nat)(ah:Int×Int×al5×(List Param)×(List Stmt))(v3:Int):Option (be×Int×Int):=cond (!decide (v3=0)) ( some ((⟨[],[],[]⟩:be),ah.1,v3)) ( some ((⟨ah.2.2.1,ah.2.2.2.1,ah.2.2.2.2⟩:be),0,0))
def TV(src:al5):Option (be×Int×Int):=(Lx n src (⟨[],[],[]⟩:be)).bind λah=>cond (decide (ah.2.1=0)) ( (y5 n (⟨ah.2.2.1,ah.2.2.2.1,ah.2.2.2.2⟩:be)).bind λao=>Lz n ah ao) ( Lz n ah ah.2.1)
def TW(n:Nat)(bA:List be):Option ((List be)×Bool):=some (bA,true)
def TX(l:List al5)(aj:Int→(List be)→Option ((List be)×Bool))(bm:Int)(bn:List be):Option ((List be)×Bool):=cond (decide (bm<((l.length:Nat):Int))) ( av (aN bm l.length)<|(TV n (al8 l bm)).bind λdV=>Option.bind (cond (!(!decide (dV.2.2=0))) (ry n dV.1) (some default)) λbX=>cond (cond (!decide (dV.2.2=0)) true (!(decide (bX=(al8 l bm))))) ( some (([]:List be),false)) ( av (room (bn.length+([dV.1]:List be).length) 64)<|aj (al7 (bm+1)) (bn++([dV.1]:List be)))) ( TW n bn)
def LA(n:Nat)(l:List al5):Nat→Int→(List be)→Option ((List be)×Bool)
 | 0=>λ_ _=>none
 |m+1=>TX n l (LA n l m)
def TY(l:List al5):Option ((List be)×Bool):=LA n l n 0 ([]:List be)
def TZ(n:Nat)(at_:Int)(b9:List Row):Option (aG×Int):=some ((⟨at_,at_,b9⟩:aG),0)
def T0(at_:Int)(l:List bE)(aj:(List Row)→Int→Option (aG×Int))(bm:List Row)(bn:Int):Option (aG×Int):=cond (decide (bn<((l.length:Nat):Int))) ( av (aN bn l.length)<|av (room (bm.length+([(⟨(al8 l bn).Key,[⟨at_,⟨((al8 l bn).b7).Kind,((al8 l bn).b7).N,((al8 l bn).b7).S⟩⟩]⟩:Row)]:List Row).length) 40)<|aj (bm++([(⟨(al8 l bn).Key,[⟨at_,⟨((al8 l bn).b7).Kind,((al8 l bn).b7).N,((al8 l bn).b7).S⟩⟩]⟩:Row)]:List Row)) (al7 (bn+1))) ( TZ n at_ bm)
def LB(n:Nat)(at_:Int)(l:List bE):Nat→(List Row)→Int→Option (aG×Int)
 | 0=>λ_ _=>none
 |m+1=>T0 n at_ l (LB n at_ l m)
def T1(l:List bE)(at_:Int):Option (aG×Int):=(Km n l).bind λah=>cond (cond (cond (!ah) true (decide (at_<0))) true (decide (1099511627776<at_))) ( some ((⟨0,0,[]⟩:aG),1)) ( LB n at_ l n ([]:List Row) 0)
def T2(s:al5):Option (cb×Int):=(Tj n (⟨s,0,0⟩:fY)).bind λah=>cond (!decide (ah.2.2=0)) ( some ((⟨0,⟨0,0,[]⟩,[],[],⟨0,[]⟩,[],[],0⟩:cb),ah.2.2)) ( cond (cond (cond (!decide (ah.2.1=((s.length:Nat):Int))) true (decide (ah.1.fL.Pos<0))) true (decide (1099511627776<ah.1.fL.Pos))) ( some ((⟨0,⟨0,0,[]⟩,[],[],⟨0,[]⟩,[],[],0⟩:cb),5)) ( (TY n ah.1.sources).bind λbp=>cond (!bp.2) ( some ((⟨0,⟨0,0,[]⟩,[],[],⟨0,[]⟩,[],[],0⟩:cb),5)) ( (T1 n ah.1.IX ah.1.fL.Pos).bind λbL=>cond (!decide (bL.2=0)) ( some ((⟨0,⟨0,0,[]⟩,[],[],⟨0,[]⟩,[],[],0⟩:cb),5)) ( (tu n (⟨ah.1.fL.Pos,bL.1,bp.1,ah.1.fL.cR,ah.1.fL.Place,ah.1.fL.bj,ah.1.fL.Queue,ah.1.fL.dj⟩:cb)).bind λc7=>cond (!c7) ( some ((⟨0,⟨0,0,[]⟩,[],[],⟨0,[]⟩,[],[],0⟩:cb),5)) ( some ((⟨ah.1.fL.Pos,bL.1,bp.1,ah.1.fL.cR,ah.1.fL.Place,ah.1.fL.bj,ah.1.fL.Queue,ah.1.fL.dj⟩:cb),0))))))
def T3(s:al5):Option (cb×Int):=cond (decide (16384<((s.length:Nat):Int))) ( some ((⟨0,⟨0,0,[]⟩,[],[],⟨0,[]⟩,[],[],0⟩:cb),2)) ( (T2 n s).bind λao=>some (ao.1,ao.2))
def LC(a:cb)(b:cb):al9:=(tu n a).bind λah=>Option.bind (cond ah (tu n b) (some default)) λao=>Option.bind (cond (cond ah ao false) (tp n a) (some default)) λaE=>Option.bind (cond (cond ah ao false) (tp n b) (some default)) λbp=>some (cond (cond ah ao false) (decide (aE=bp)) false)
def T4(n:Nat)(mo:Expr→Expr→al9):al9:=some true
def T6(mo:Expr→Expr→al9)(a:Expr)(b:Expr)(aj:Int→al9)(v6:Int):al9:=cond (decide (v6<((a.au.length:Nat):Int))) ( av (aN v6 a.au.length)<|av (aN v6 b.au.length)<|(mo (al8 a.au v6) (al8 b.au v6)).bind λcH=>cond (!cH) ( some false) ( aj (al7 (v6+1)))) ( T4 n mo)
def LD(n:Nat)(mo:Expr→Expr→al9)(a:Expr)(b:Expr):Nat→Int→al9
 | 0=>λ_=>none
 |m+1=>T6 n mo a b (LD n mo a b m)
def T7(mo:Expr→Expr→al9)(a:Expr)(b:Expr):al9:=cond (cond (cond (cond (!decide (a.Op=b.Op)) true (!decide (a.N=b.N))) true (!(decide (a.S=b.S)))) true (!decide (((a.au.length:Nat):Int)=((b.au.length:Nat):Int)))) ( some false) ( LD n mo a b n 0)
def Ef:Nat→Expr→Expr→al9
 | 0=>λ_ _=>none
 |m+1=>T7 m (Ef m)
def T8(n:Nat)(lS:(List Stmt)→(List Stmt)→al9):al9:=some true
def T9(lS:(List Stmt)→(List Stmt)→al9)(a:List Stmt)(b:List Stmt)(aj:Int→al9)(v9:Int):al9:=cond (decide (v9<((a.length:Nat):Int))) ( av (aN v9 a.length)<|av (aN v9 b.length)<|Option.bind (cond (!(cond (cond (!decide ((al8 a v9).Op=(al8 b v9).Op)) true (!(decide (((al8 a v9).Name)=((al8 b v9).Name))))) true (!decide ((al8 a v9).Max=(al8 b v9).Max)))) (Ef n (⟨((al8 a v9).A).Op,((al8 a v9).A).N,((al8 a v9).A).S,((al8 a v9).A).au⟩:Expr) (⟨((al8 b v9).A).Op,((al8 b v9).A).N,((al8 b v9).A).S,((al8 b v9).A).au⟩:Expr)) (some default)) λfm=>Option.bind (cond (!(cond (cond (cond (!decide ((al8 a v9).Op=(al8 b v9).Op)) true (!(decide (((al8 a v9).Name)=((al8 b v9).Name))))) true (!decide ((al8 a v9).Max=(al8 b v9).Max))) true (!fm))) (Ef n (⟨((al8 a v9).B).Op,((al8 a v9).B).N,((al8 a v9).B).S,((al8 a v9).B).au⟩:Expr) (⟨((al8 b v9).B).Op,((al8 b v9).B).N,((al8 b v9).B).S,((al8 b v9).B).au⟩:Expr)) (some default)) λdk=>Option.bind (cond (!(cond (cond (cond (cond (!decide ((al8 a v9).Op=(al8 b v9).Op)) true (!(decide (((al8 a v9).Name)=((al8 b v9).Name))))) true (!decide ((al8 a v9).Max=(al8 b v9).Max))) true (!fm)) true (!dk))) (lS ((al8 a v9).Body) ((al8 b v9).Body)) (some default)) λez=>Option.bind (cond (!(cond (cond (cond (cond (cond (!decide ((al8 a v9).Op=(al8 b v9).Op)) true (!(decide (((al8 a v9).Name)=((al8 b v9).Name))))) true (!decide ((al8 a v9).Max=(al8 b v9).Max))) true (!fm)) true (!dk)) true (!ez))) (lS ((al8 a v9).bN) ((al8 b v9).bN)) (some default)) λdv=>cond (cond (cond (cond (cond (cond (cond (!decide ((al8 a v9).Op=(al8 b v9).Op)) true (!(decide (((al8 a v9).Name)=((al8 b v9).Name))))) true (!decide ((al8 a v9).Max=(al8 b v9).Max))) true (!fm)) true (!dk)) true (!ez)) true (!dv)) ( some false) ( aj (al7 (v9+1)))) ( T8 n lS)
def LE(n:Nat)(lS:(List Stmt)→(List Stmt)→al9)(a:List Stmt)(b:List Stmt):Nat→Int→al9
 | 0=>λ_=>none
 |m+1=>T9 n lS a b (LE n lS a b m)
def T_(lS:(List Stmt)→(List Stmt)→al9)(a:List Stmt)(b:List Stmt):al9:=cond (!decide (((a.length:Nat):Int)=((b.length:Nat):Int))) ( some false) ( LE n lS a b n 0)
def LF:Nat→(List Stmt)→(List Stmt)→al9
 | 0=>λ_ _=>none
 |m+1=>T_ m (LF m)
def Ua(a:be)(b:be):al9:=(LF n a.Body b.Body).bind λcH=>some cH
def Ub(a:be)(b:be)(aj:Int→al9)(v5:Int):al9:=cond (decide (v5<((a.Params.length:Nat):Int))) ( av (aN v5 a.Params.length)<|av (aN v5 b.Params.length)<|cond (!((decide ((al8 a.Params v5).Name=(al8 b.Params v5).Name))&&((decide ((al8 a.Params v5).fy=(al8 b.Params v5).fy))&&true))) ( some false) ( aj (al7 (v5+1)))) ( Ua n a b)
def LG(n:Nat)(a:be)(b:be):Nat→Int→al9
 | 0=>λ_=>none
 |m+1=>Ub n a b (LG n a b m)
def Uc(a:be)(b:be):al9:=cond (cond (!(decide (a.Name=b.Name))) true (!decide (((a.Params.length:Nat):Int)=((b.Params.length:Nat):Int)))) ( some false) ( LG n a b n 0)
def Ud(n:Nat):al9:=some true
def Ue(a:List be)(b:List be)(aj:Int→al9)(v6:Int):al9:=cond (decide (v6<((a.length:Nat):Int))) ( av (aN v6 a.length)<|av (aN v6 b.length)<|(Uc n (al8 a v6) (al8 b v6)).bind λcH=>cond (!cH) ( some false) ( aj (al7 (v6+1)))) ( Ud n)
def LH(n:Nat)(a:List be)(b:List be):Nat→Int→al9
 | 0=>λ_=>none
 |m+1=>Ue n a b (LH n a b m)
def Uf(a:List be)(b:List be):al9:=cond (!decide (((a.length:Nat):Int)=((b.length:Nat):Int))) ( some false) ( LH n a b n 0)
def Ug(n:Nat):al9:=some true
def Uh(n:Nat)(aj:Int→al9)(v12:Int)(a:aG)(b:aG):al9:=aj (al7 (v12+1))
def Ui(aj:Int→al9)(v12:Int)(a:aG)(b:aG)(dx:Int→al9)(ch:Int):al9:=cond (decide (ch<((((al8 a.Rows v12).bl).length:Nat):Int))) ( av (aN ch ((al8 a.Rows v12).bl).length)<|av (aN ch ((al8 b.Rows v12).bl).length)<|cond (!((decide ((((al8 a.Rows v12).bl).getD (ch).toNat default).fe=(((al8 b.Rows v12).bl).getD (ch).toNat default).fe))&&((decide (((((al8 a.Rows v12).bl).getD (ch).toNat default).b7).Kind=((((al8 b.Rows v12).bl).getD (ch).toNat default).b7).Kind))&&((decide (((((al8 a.Rows v12).bl).getD (ch).toNat default).b7).N=((((al8 b.Rows v12).bl).getD (ch).toNat default).b7).N))&&((decide (((((al8 a.Rows v12).bl).getD (ch).toNat default).b7).S=((((al8 b.Rows v12).bl).getD (ch).toNat default).b7).S))&&true))))) ( some false) ( dx (al7 (ch+1)))) ( Uh n aj v12 a b)
def LI(n:Nat)(aj:Int→al9)(v12:Int)(a:aG)(b:aG):Nat→Int→al9
 | 0=>λ_=>none
 |m+1=>Ui n aj v12 a b (LI n aj v12 a b m)
def Uj(a:aG)(b:aG)(aj:Int→al9)(v12:Int):al9:=cond (decide (v12<((a.Rows.length:Nat):Int))) ( av (aN v12 a.Rows.length)<|av (aN v12 b.Rows.length)<|cond (cond (!(decide (((al8 a.Rows v12).Key)=((al8 b.Rows v12).Key)))) true (!decide (((((al8 a.Rows v12).bl).length:Nat):Int)=((((al8 b.Rows v12).bl).length:Nat):Int)))) ( some false) ( LI n aj v12 a b n 0)) ( Ug n)
def LJ(n:Nat)(a:aG)(b:aG):Nat→Int→al9
 | 0=>λ_=>none
 |m+1=>Uj n a b (LJ n a b m)
def Uk(a:aG)(b:aG):al9:=cond (cond (cond (!decide (a.cq=b.cq)) true (!decide (a.b0=b.b0))) true (!decide (((a.Rows.length:Nat):Int)=((b.Rows.length:Nat):Int)))) ( some false) ( LJ n a b n 0)
def Ul(n:Nat):al9:=some true
def Um(a:cd)(b:cd)(aj:Int→al9)(v5:Int):al9:=cond (decide (v5<((a.aD.length:Nat):Int))) ( av (aN v5 a.aD.length)<|av (aN v5 b.aD.length)<|cond (!((decide ((al8 a.aD v5).Id=(al8 b.aD v5).Id))&&((decide ((al8 a.aD v5).dS=(al8 b.aD v5).dS))&&((decide ((al8 a.aD v5).Node=(al8 b.aD v5).Node))&&((decide ((al8 a.aD v5).ff=(al8 b.aD v5).ff))&&((decide ((al8 a.aD v5).gd=(al8 b.aD v5).gd))&&true)))))) ( some false) ( aj (al7 (v5+1)))) ( Ul n)
def LK(n:Nat)(a:cd)(b:cd):Nat→Int→al9
 | 0=>λ_=>none
 |m+1=>Um n a b (LK n a b m)
def Un(a:cd)(b:cd):al9:=cond (cond (!decide (a.Version=b.Version)) true (!decide (((a.aD.length:Nat):Int)=((b.aD.length:Nat):Int)))) ( some false) ( LK n a b n 0)
def Uo(n:Nat):al9:=some true
def Up(a:List bj)(b:List bj)(aj:Int→al9)(v5:Int):al9:=cond (decide (v5<((a.length:Nat):Int))) ( av (aN v5 a.length)<|av (aN v5 b.length)<|cond (!((decide ((al8 a v5).Key=(al8 b v5).Key))&&((decide ((al8 a v5).Count=(al8 b v5).Count))&&true))) ( some false) ( aj (al7 (v5+1)))) ( Uo n)
def LL(n:Nat)(a:List bj)(b:List bj):Nat→Int→al9
 | 0=>λ_=>none
 |m+1=>Up n a b (LL n a b m)
def Uq(a:List bj)(b:List bj):al9:=cond (!decide (((a.length:Nat):Int)=((b.length:Nat):Int))) ( some false) ( LL n a b n 0)
def Ur(n:Nat):al9:=some true
def Us(a:List al5)(b:List al5)(aj:Int→al9)(v5:Int):al9:=cond (decide (v5<((a.length:Nat):Int))) ( av (aN v5 a.length)<|av (aN v5 b.length)<|cond (!(decide ((al8 a v5)=(al8 b v5)))) ( some false) ( aj (al7 (v5+1)))) ( Ur n)
def LM(n:Nat)(a:List al5)(b:List al5):Nat→Int→al9
 | 0=>λ_=>none
 |m+1=>Us n a b (LM n a b m)
def LN(a:List al5)(b:List al5):al9:=cond (!decide (((a.length:Nat):Int)=((b.length:Nat):Int))) ( some false) ( LM n a b n 0)
def Ut(a:eP)(b:eP):al9:=Option.bind (cond (a.dI == b.dI) (LN n a.Reads b.Reads) (some default)) λah=>Option.bind (cond (cond (a.dI == b.dI) ah false) (LN n a.b_ b.b_) (some default)) λao=>some (cond (cond (a.dI == b.dI) ah false) ao false)
def Uu(n:Nat):al9:=some true
def Uv(a:Request)(b:Request)(aj:Int→al9)(v6:Int):al9:=cond (decide (v6<((a.au.length:Nat):Int))) ( av (aN v6 a.au.length)<|av (aN v6 b.au.length)<|cond (!((decide ((al8 a.au v6).Kind=(al8 b.au v6).Kind))&&((decide ((al8 a.au v6).N=(al8 b.au v6).N))&&((decide ((al8 a.au v6).S=(al8 b.au v6).S))&&true)))) ( some false) ( aj (al7 (v6+1)))) ( Uu n)
def LO(n:Nat)(a:Request)(b:Request):Nat→Int→al9
 | 0=>λ_=>none
 |m+1=>Uv n a b (LO n a b m)
def Uw(a:Request)(b:Request):al9:=Option.bind (cond (!(cond (cond (cond (cond (!decide (a.Client=b.Client)) true (!decide (a.Seq=b.Seq))) true (!(decide (a.be=b.be)))) true (!(a.dO == b.dO))) true (!decide (((a.au.length:Nat):Int)=((b.au.length:Nat):Int))))) (Ut n a.bi b.bi) (some default)) λah=>cond (cond (cond (cond (cond (cond (!decide (a.Client=b.Client)) true (!decide (a.Seq=b.Seq))) true (!(decide (a.be=b.be)))) true (!(a.dO == b.dO))) true (!decide (((a.au.length:Nat):Int)=((b.au.length:Nat):Int)))) true (!ah)) ( some false) ( LO n a b n 0)
def Ux(n:Nat):al9:=some true
def Uy(a:Outcome)(b:Outcome)(aj:Int→al9)(v5:Int):al9:=cond (decide (v5<((a.Out.length:Nat):Int))) ( av (aN v5 a.Out.length)<|av (aN v5 b.Out.length)<|cond (!((decide ((al8 a.Out v5).Kind=(al8 b.Out v5).Kind))&&((decide ((al8 a.Out v5).N=(al8 b.Out v5).N))&&((decide ((al8 a.Out v5).S=(al8 b.Out v5).S))&&true)))) ( some false) ( aj (al7 (v5+1)))) ( Ux n)
def LP(n:Nat)(a:Outcome)(b:Outcome):Nat→Int→al9
 | 0=>λ_=>none
 |m+1=>Uy n a b (LP n a b m)
def Uz(a:Outcome)(b:Outcome):al9:=cond (cond (cond (!decide (a.Status=b.Status)) true (!decide (a.Code=b.Code))) true (!decide (((a.Out.length:Nat):Int)=((b.Out.length:Nat):Int)))) ( some false) ( LP n a b n 0)
def UA(a:es)(b:es):al9:=Option.bind (cond (cond (decide (a.Client=b.Client)) (decide (a.Seq=b.Seq)) false) (Uz n a.Outcome b.Outcome) (some default)) λah=>some (cond (cond (decide (a.Client=b.Client)) (decide (a.Seq=b.Seq)) false) ah false)
def UB(n:Nat):al9:=some true
def UC(a:List es)(b:List es)(aj:Int→al9)(v6:Int):al9:=cond (decide (v6<((a.length:Nat):Int))) ( av (aN v6 a.length)<|av (aN v6 b.length)<|(UA n (al8 a v6) (al8 b v6)).bind λcH=>cond (!cH) ( some false) ( aj (al7 (v6+1)))) ( UB n)
def LQ(n:Nat)(a:List es)(b:List es):Nat→Int→al9
 | 0=>λ_=>none
 |m+1=>UC n a b (LQ n a b m)
def UD(a:List es)(b:List es):al9:=cond (!decide (((a.length:Nat):Int)=((b.length:Nat):Int))) ( some false) ( LQ n a b n 0)
def UE(n:Nat):al9:=some true
def UF(a:List bI)(b:List bI)(aj:Int→al9)(v10:Int):al9:=cond (decide (v10<((a.length:Nat):Int))) ( av (aN v10 a.length)<|av (aN v10 b.length)<|av ((!decide ((al8 a v10).Client=(al8 b v10).Client))||aN v10 a.length)<|av ((!decide ((al8 a v10).Client=(al8 b v10).Client))||aN v10 b.length)<|av ((cond (!decide ((al8 a v10).Client=(al8 b v10).Client)) true (!decide ((al8 a v10).Next=(al8 b v10).Next)))||aN v10 a.length)<|av ((cond (!decide ((al8 a v10).Client=(al8 b v10).Client)) true (!decide ((al8 a v10).Next=(al8 b v10).Next)))||aN v10 b.length)<|Option.bind (cond (!(cond (!decide ((al8 a v10).Client=(al8 b v10).Client)) true (!decide ((al8 a v10).Next=(al8 b v10).Next)))) (UD n ((al8 a v10).bG) ((al8 b v10).bG)) (some default)) λet=>cond (cond (cond (!decide ((al8 a v10).Client=(al8 b v10).Client)) true (!decide ((al8 a v10).Next=(al8 b v10).Next))) true (!et)) ( some false) ( aj (al7 (v10+1)))) ( UE n)
def LR(n:Nat)(a:List bI)(b:List bI):Nat→Int→al9
 | 0=>λ_=>none
 |m+1=>UF n a b (LR n a b m)
def UG(a:List bI)(b:List bI):al9:=cond (!decide (((a.length:Nat):Int)=((b.length:Nat):Int))) ( some false) ( LR n a b n 0)
def UH(n:Nat):al9:=some true
def UI(a:cb)(b:cb)(aj:Int→al9)(v11:Int):al9:=cond (decide (v11<((a.Queue.length:Nat):Int))) ( av (aN v11 a.Queue.length)<|av (aN v11 b.Queue.length)<|(Uw n (al8 a.Queue v11) (al8 b.Queue v11)).bind λez=>cond (!ez) ( some false) ( aj (al7 (v11+1)))) ( UH n)
def LS(n:Nat)(a:cb)(b:cb):Nat→Int→al9
 | 0=>λ_=>none
 |m+1=>UI n a b (LS n a b m)
def UJ(a:cb)(b:cb):al9:=Option.bind (cond (!(cond (!decide (a.Pos=b.Pos)) true (!decide (a.dj=b.dj)))) (Uk n a.aG b.aG) (some default)) λah=>Option.bind (cond (!(cond (cond (!decide (a.Pos=b.Pos)) true (!decide (a.dj=b.dj))) true (!ah))) (Uf n a.cf b.cf) (some default)) λao=>Option.bind (cond (!(cond (cond (cond (!decide (a.Pos=b.Pos)) true (!decide (a.dj=b.dj))) true (!ah)) true (!ao))) (UG n a.cR b.cR) (some default)) λaE=>Option.bind (cond (!(cond (cond (cond (cond (!decide (a.Pos=b.Pos)) true (!decide (a.dj=b.dj))) true (!ah)) true (!ao)) true (!aE))) (Un n a.Place b.Place) (some default)) λbp=>Option.bind (cond (!(cond (cond (cond (cond (cond (!decide (a.Pos=b.Pos)) true (!decide (a.dj=b.dj))) true (!ah)) true (!ao)) true (!aE)) true (!bp))) (Uq n a.bj b.bj) (some default)) λbV=>cond (cond (cond (cond (cond (cond (cond (cond (!decide (a.Pos=b.Pos)) true (!decide (a.dj=b.dj))) true (!ah)) true (!ao)) true (!aE)) true (!bp)) true (!bV)) true (!decide (((a.Queue.length:Nat):Int)=((b.Queue.length:Nat):Int)))) ( some false) ( LS n a b n 0)
def Eg:al9:=(zo n (⟨0,⟨0,0,[]⟩,[],[],⟨0,[⟨1,[],1,0,[]⟩]⟩,[],[],0⟩:cb)).bind λah=>(T3 n ah.1).bind λao=>Option.bind (cond (cond (decide (ah.1=([0,0,0,0,0,1,2,0,2,0,0,0,0,0]:al5))) (decide (ah.2=0)) false) (UJ n ao.1 (⟨0,⟨0,0,[]⟩,[],[],⟨0,[⟨1,[],1,0,[]⟩]⟩,[],[],0⟩:cb)) (some default)) λaE=>Option.bind (cond (cond (cond (cond (decide (ah.1=([0,0,0,0,0,1,2,0,2,0,0,0,0,0]:al5))) (decide (ah.2=0)) false) aE false) (decide (ao.2=0)) false) (LC n (⟨2,⟨2,2,[⟨[120],[⟨2,⟨1,1,[]⟩⟩]⟩]⟩,[],[],⟨0,[⟨1,[],1,0,[]⟩]⟩,[],[],0⟩:cb) (⟨2,⟨1,2,[⟨[119],[⟨1,⟨1,1,[]⟩⟩,⟨2,⟨0,0,[]⟩⟩]⟩,⟨[120],[⟨1,⟨1,1,[]⟩⟩]⟩]⟩,[],[],⟨0,[⟨1,[],1,0,[]⟩]⟩,[],[],0⟩:cb)) (some default)) λbp=>Option.bind (cond (cond (cond (cond (cond (decide (ah.1=([0,0,0,0,0,1,2,0,2,0,0,0,0,0]:al5))) (decide (ah.2=0)) false) aE false) (decide (ao.2=0)) false) bp false) (LC n (⟨2,⟨2,2,[⟨[120],[⟨2,⟨1,1,[]⟩⟩]⟩]⟩,[],[],⟨0,[⟨1,[],1,0,[]⟩]⟩,[],[],0⟩:cb) (⟨0,⟨0,0,[]⟩,[],[],⟨0,[⟨1,[],1,0,[]⟩]⟩,[],[],0⟩:cb)) (some default)) λbV=>some (cond (cond (cond (cond (cond (decide (ah.1=([0,0,0,0,0,1,2,0,2,0,0,0,0,0]:al5))) (decide (ah.2=0)) false) aE false) (decide (ao.2=0)) false) bp false) (!bV) false)
def LT(n:Nat)(k:al5):al9:=some (cond (decide (1≤((k.length:Nat):Int))) (decide (((k.length:Nat):Int)≤24)) false)
def Eh(k:al5)(aj:Int→al9)(v3:Int):al9:=cond (decide (v3<((k.length:Nat):Int))) ( av (aN v3 k.length)<|cond (cond (cond (cond (cond (cond (cond (decide ((((k.getD (v3).toNat 0).toNat:Nat):Int)<97)) true (decide (122<(((k.getD (v3).toNat 0).toNat:Nat):Int)))) (cond (decide ((((k.getD (v3).toNat 0).toNat:Nat):Int)<48)) true (decide (57<(((k.getD (v3).toNat 0).toNat:Nat):Int)))) false) (!decide ((((k.getD (v3).toNat 0).toNat:Nat):Int)=47)) false) (!decide ((((k.getD (v3).toNat 0).toNat:Nat):Int)=46)) false) (!decide ((((k.getD (v3).toNat 0).toNat:Nat):Int)=95)) false) (!decide ((((k.getD (v3).toNat 0).toNat:Nat):Int)=45)) false) ( some false) ( aj (al7 (v3+1)))) ( LT n k)
def wb(n:Nat)(k:al5):Nat→Int→al9
 | 0=>λ_=>none
 |m+1=>Eh n k (wb n k m)
def wc(k:al5):al9:=wb n k n 0
def UK(n:Nat):al9:=some true
def LU(s:al5)(aj:Int→al9)(v5:Int):al9:=cond (decide (v5<((s.length:Nat):Int))) ( av (aN v5 s.length)<|av ((decide ((((s.getD (v5).toNat 0).toNat:Nat):Int)<32))||aN v5 s.length)<|cond (cond (decide ((((s.getD (v5).toNat 0).toNat:Nat):Int)<32)) true (decide (126<(((s.getD (v5).toNat 0).toNat:Nat):Int)))) ( some false) ( aj (al7 (v5+1)))) ( UK n)
def zF(n:Nat)(s:al5):Nat→Int→al9
 | 0=>λ_=>none
 |m+1=>LU n s (zF n s m)
def Ei(s:al5):al9:=cond (decide (64<((s.length:Nat):Int))) ( some false) ( zF n s n 0)
def tH(v:bw):al9:=cond (decide (v.Kind=0)) ( some (cond (decide (v.N=0)) (decide (v.S=([]:al5))) false)) ( cond (decide (v.Kind=1)) ( some (decide (v.S=([]:al5)))) ( Option.bind (cond (cond (decide (v.Kind=2)) (decide (v.N=0)) false) (Ei n v.S) (some default)) λaE=>some (cond (cond (decide (v.Kind=2)) (decide (v.N=0)) false) aE false)))
def LV(v:bw):al9:=(tH n v).bind λah=>some ah
def LW(n:Nat):al9:=some true
def Ej(floor:Int)(last:Int)(ad:Row)(aj:Int→al9)(v9:Int):al9:=cond (decide (v9<((ad.bl.length:Nat):Int))) ( av (aN v9 ad.bl.length)<|(LV n (⟨((al8 ad.bl v9).b7).Kind,((al8 ad.bl v9).b7).N,((al8 ad.bl v9).b7).S⟩:bw)).bind λbX=>cond (cond (cond (!bX) true (decide ((al8 ad.bl v9).fe<floor))) true (decide (last<(al8 ad.bl v9).fe))) ( some false) ( av (!(decide (0<v9))||aN (al7 (v9-1)) ad.bl.length)<|av (!(decide (0<v9))||((decide ((al8 ad.bl v9).fe≤(al8 ad.bl (al7 (v9-1))).fe))||aN (al7 (v9-1)) ad.bl.length))<|cond (cond (decide (0<v9)) (cond (decide ((al8 ad.bl v9).fe≤(al8 ad.bl (al7 (v9-1))).fe)) true ((decide (((al8 ad.bl v9).b7).Kind=((al8 ad.bl (al7 (v9-1))).b7).Kind))&&((decide (((al8 ad.bl v9).b7).N=((al8 ad.bl (al7 (v9-1))).b7).N))&&((decide (((al8 ad.bl v9).b7).S=((al8 ad.bl (al7 (v9-1))).b7).S))&&true)))) false) ( some false) ( aj (al7 (v9+1))))) ( LW n)
def wd(n:Nat)(floor:Int)(last:Int)(ad:Row):Nat→Int→al9
 | 0=>λ_=>none
 |m+1=>Ej n floor last ad (wd n floor last ad m)
def Ek(ad:Row)(floor:Int)(last:Int):al9:=(wc n ad.Key).bind λah=>av ((cond (!ah) true (decide (((ad.bl.length:Nat):Int)=0)))||aN 0 ad.bl.length)<|cond (cond (cond (!ah) true (decide (((ad.bl.length:Nat):Int)=0))) true (decide (((ad.bl.getD 0 default).b7).Kind=0))) ( some false) ( wd n floor last ad n 0)
def LX(n:Nat):al9:=some true
def El(s:aG)(aj:Int→al9)(bm:Int):al9:=cond (decide (bm<((s.Rows.length:Nat):Int))) ( av (aN bm s.Rows.length)<|(Ek n (al8 s.Rows bm) s.cq s.b0).bind λcH=>av ((!cH)||(!(decide (0<bm))||aN (al7 (bm-1)) s.Rows.length))<|av ((!cH)||(!(decide (0<bm))||aN bm s.Rows.length))<|cond (cond (!cH) true (cond (decide (0<bm)) (!(Op.bytesLess ((al8 s.Rows (al7 (bm-1))).Key) ((al8 s.Rows bm).Key))) false)) ( some false) ( aj (al7 (bm+1)))) ( LX n)
def we(n:Nat)(s:aG):Nat→Int→al9
 | 0=>λ_=>none
 |m+1=>El n s (we n s m)
def wg(s:aG):al9:=cond (cond (cond (decide (s.cq<0)) true (decide (s.b0<s.cq))) true (decide (1099511627776<s.b0))) ( some false) ( we n s n 0)
def LY(n:Nat):al9:=some true
def Em(s:al5)(aj:Int→al9)(v5:Int):al9:=cond (decide (v5<((s.length:Nat):Int))) ( av (aN v5 s.length)<|av ((decide ((((s.getD (v5).toNat 0).toNat:Nat):Int)<33))||aN v5 s.length)<|cond (cond (decide ((((s.getD (v5).toNat 0).toNat:Nat):Int)<33)) true (decide (126<(((s.getD (v5).toNat 0).toNat:Nat):Int)))) ( some false) ( aj (al7 (v5+1)))) ( LY n)
def wh(n:Nat)(s:al5):Nat→Int→al9
 | 0=>λ_=>none
 |m+1=>Em n s (wh n s m)
def zG(s:al5):al9:=cond (decide (24<((s.length:Nat):Int))) ( some false) ( wh n s n 0)
def En(x:Part)(next:al5)(last:Bool):al9:=cond (decide (x.ff=0)) ( some (decide (x.gd=([]:al5)))) ( Option.bind (cond (cond (cond (decide (1≤x.ff)) (decide (x.ff≤16)) false) (!decide (x.ff=x.Node)) false) (zG n x.gd) (some default)) λao=>some (cond (cond (cond (cond (cond (decide (1≤x.ff)) (decide (x.ff≤16)) false) (!decide (x.ff=x.Node)) false) ao false) (!(Op.bytesLess x.gd x.dS)) false) (cond last true (Op.bytesLess x.gd next)) false))
def LZ(n:Nat):al9:=some true
def L0(n:Nat)(aj:Int→al9)(p:cd)(bA:Int):al9:=aj (al7 (bA+1))
def Eo(aj:Int→al9)(p:cd)(bA:Int)(wi:Int→al9)(v24:Int):al9:=cond (decide (v24<bA)) ( av (aN v24 p.aD.length)<|cond (decide ((al8 p.aD v24).Id=(al8 p.aD bA).Id)) ( some false) ( wi (al7 (v24+1)))) ( L0 n aj p bA)
def tI(n:Nat)(aj:Int→al9)(p:cd)(bA:Int):Nat→Int→al9
 | 0=>λ_=>none
 |m+1=>Eo n aj p bA (tI n aj p bA m)
def zH(aj:Int→al9)(p:cd)(bA:Int)(ch:al5):al9:=(zG n ((al8 p.aD bA).dS)).bind λe4=>av ((!e4)||(!(decide (0<bA))||aN (al7 (bA-1)) p.aD.length))<|Option.bind (cond (!(cond (cond (cond (cond (cond (!e4) true (cond (decide (0<bA)) ((Op.bytesLess ((al8 p.aD bA).dS) ((al8 p.aD (al7 (bA-1))).dS))||(decide (((al8 p.aD bA).dS)=((al8 p.aD (al7 (bA-1))).dS)))) false)) true (decide ((al8 p.aD bA).Id<1))) true (decide (1099511627776<(al8 p.aD bA).Id))) true (decide ((al8 p.aD bA).Node<1))) true (decide (16<(al8 p.aD bA).Node)))) (En n (al8 p.aD bA) ch (decide ((al7 (bA+1))=((p.aD.length:Nat):Int)))) (some default)) λfh=>cond (cond (cond (cond (cond (cond (cond (!e4) true (cond (decide (0<bA)) ((Op.bytesLess ((al8 p.aD bA).dS) ((al8 p.aD (al7 (bA-1))).dS))||(decide (((al8 p.aD bA).dS)=((al8 p.aD (al7 (bA-1))).dS)))) false)) true (decide ((al8 p.aD bA).Id<1))) true (decide (1099511627776<(al8 p.aD bA).Id))) true (decide ((al8 p.aD bA).Node<1))) true (decide (16<(al8 p.aD bA).Node))) true (!fh)) ( some false) ( tI n aj p bA n 0)
def Ep(p:cd)(aj:Int→al9)(bA:Int):al9:=cond (decide (bA<((p.aD.length:Nat):Int))) ( av (aN bA p.aD.length)<|cond (decide ((al7 (bA+1))<((p.aD.length:Nat):Int))) ( av (aN (al7 (bA+1)) p.aD.length)<|zH n aj p bA ((al8 p.aD (al7 (bA+1))).dS)) ( zH n aj p bA ([]:al5))) ( LZ n)
def wj(n:Nat)(p:cd):Nat→Int→al9
 | 0=>λ_=>none
 |m+1=>Ep n p (wj n p m)
def Er(p:cd):al9:=av ((cond (cond (cond (decide (p.Version<0)) true (decide (1099511627776<p.Version))) true (decide (((p.aD.length:Nat):Int)<1))) true (decide (16<((p.aD.length:Nat):Int))))||aN 0 p.aD.length)<|cond (cond (cond (cond (cond (decide (p.Version<0)) true (decide (1099511627776<p.Version))) true (decide (((p.aD.length:Nat):Int)<1))) true (decide (16<((p.aD.length:Nat):Int)))) true (!(decide (((p.aD.getD 0 default).dS)=([]:al5))))) ( some false) ( wj n p n 0)
def L1(n:Nat)(l:List bj):al9:=some (decide (((l.length:Nat):Int)≤32))
def Es(l:List bj)(aj:Int→al9)(bn:Int):al9:=cond (decide (bn<((l.length:Nat):Int))) ( av (aN bn l.length)<|(wc n ((al8 l bn).Key)).bind λdV=>av ((!dV)||aN bn l.length)<|av ((cond (!dV) true (decide ((al8 l bn).Count<1)))||aN bn l.length)<|av ((cond (cond (!dV) true (decide ((al8 l bn).Count<1))) true (decide (1099511627776<(al8 l bn).Count)))||(!(decide (0<bn))||aN bn l.length))<|av ((cond (cond (!dV) true (decide ((al8 l bn).Count<1))) true (decide (1099511627776<(al8 l bn).Count)))||(!(decide (0<bn))||aN (al7 (bn-1)) l.length))<|cond (cond (cond (cond (!dV) true (decide ((al8 l bn).Count<1))) true (decide (1099511627776<(al8 l bn).Count))) true (cond (decide (0<bn)) ((Op.bytesLess ((al8 l bn).Key) ((al8 l (al7 (bn-1))).Key))||(decide (((al8 l bn).Key)=((al8 l (al7 (bn-1))).Key)))) false)) ( some false) ( aj (al7 (bn+1)))) ( L1 n l)
def wk(n:Nat)(l:List bj):Nat→Int→al9
 | 0=>λ_=>none
 |m+1=>Es n l (wk n l m)
def Et(l:List bj):al9:=wk n l n 0
def L2(n:Nat)(l:List bw):al9:=some (decide (((l.length:Nat):Int)≤16))
def Eu(l:List bw)(aj:Int→al9)(v5:Int):al9:=cond (decide (v5<((l.length:Nat):Int))) ( av (aN v5 l.length)<|(tH n (al8 l v5)).bind λcT=>av ((!cT)||aN v5 l.length)<|cond (cond (!cT) true (decide ((al8 l v5).Kind=0))) ( some false) ( aj (al7 (v5+1)))) ( L2 n l)
def tJ(n:Nat)(l:List bw):Nat→Int→al9
 | 0=>λ_=>none
 |m+1=>Eu n l (tJ n l m)
def L3(l:List bw):al9:=tJ n l n 0
def zI(o:Outcome):al9:=cond (decide (o.Status=1)) ( Option.bind (cond (decide (o.Code=0)) (L3 n o.Out) (some default)) λao=>some (cond (decide (o.Code=0)) ao false)) ( some (cond (cond (cond (decide (o.Status=2)) (decide (0≤o.Code)) false) (decide (o.Code≤1009)) false) (decide (((o.Out.length:Nat):Int)=0)) false))
def L4(n:Nat)(next:Int):al':=some (cond (decide ((al7 (next-1))<8)) (al7 (next-1)) 8)
def L5(n:Nat):al9:=some true
def Ev(s:bI)(aj:Int→al9)(v6:Int):al9:=cond (decide (v6<((s.bG.length:Nat):Int))) ( av (aN v6 s.bG.length)<|Option.bind (cond (!(cond (!decide ((al8 s.bG v6).Client=s.Client)) true (!decide ((al8 s.bG v6).Seq=(al7 (s.Next-(al7 (((s.bG.length:Nat):Int)-v6)))))))) (zI n (⟨((al8 s.bG v6).Outcome).Status,((al8 s.bG v6).Outcome).Code,((al8 s.bG v6).Outcome).Out⟩:Outcome)) (some default)) λc7=>cond (cond (cond (!decide ((al8 s.bG v6).Client=s.Client)) true (!decide ((al8 s.bG v6).Seq=(al7 (s.Next-(al7 (((s.bG.length:Nat):Int)-v6))))))) true (!c7)) ( some false) ( aj (al7 (v6+1)))) ( L5 n)
def wl(n:Nat)(s:bI):Nat→Int→al9
 | 0=>λ_=>none
 |m+1=>Ev n s (wl n s m)
def Ew(s:bI):al9:=Option.bind (cond (!(cond (cond (cond (decide (s.Client<1)) true (decide (32<s.Client))) true (decide (s.Next<1))) true (decide (1099511627776<s.Next)))) (L4 n s.Next) (some default)) λah=>cond (cond (cond (cond (cond (decide (s.Client<1)) true (decide (32<s.Client))) true (decide (s.Next<1))) true (decide (1099511627776<s.Next))) true (!decide (((s.bG.length:Nat):Int)=ah))) ( some false) ( wl n s n 0)
def L6(n:Nat):al9:=some true
def Ex(l:List bI)(aj:Int→al9)(v6:Int):al9:=cond (decide (v6<((l.length:Nat):Int))) ( av (aN v6 l.length)<|(Ew n (al8 l v6)).bind λc7=>av ((!c7)||(!(decide (0<v6))||aN v6 l.length))<|av ((!c7)||(!(decide (0<v6))||aN (al7 (v6-1)) l.length))<|cond (cond (!c7) true (cond (decide (0<v6)) (decide ((al8 l v6).Client≤(al8 l (al7 (v6-1))).Client)) false)) ( some false) ( aj (al7 (v6+1)))) ( L6 n)
def wm(n:Nat)(l:List bI):Nat→Int→al9
 | 0=>λ_=>none
 |m+1=>Ex n l (wm n l m)
def tK(l:List bI):al9:=wm n l n 0
def L7(n:Nat):Option (List al5):=some ([([112,114,111,99]:al5),([108,101,116]:al5),([112,117,116]:al5),([100,101,108,101,116,101]:al5),([105,102]:al5),([101,108,115,101]:al5),([102,111,114]:al5),([116,111]:al5),([109,97,120]:al5),([101,109,105,116]:al5),([97,98,111,114,116]:al5),([110,111,116]:al5),([97,110,100]:al5),([111,114]:al5),([105,110,116]:al5),([115,116,114]:al5),([98,111,111,108]:al5),([116,101,120,116]:al5),([108,101,110]:al5),([103,101,116,105,110,116]:al5),([103,101,116,115,116,114]:al5),([104,97,115]:al5),([110,111,119]:al5),([114,97,110,100,111,109]:al5),([110,111,100,101]:al5)]:List al5)
def L8(n:Nat):al9:=some false
def L9(l:List al5)(s:al5)(aj:Int→al9)(v3:Int):al9:=cond (decide (v3<((l.length:Nat):Int))) ( av (aN v3 l.length)<|cond (decide ((al8 l v3)=s)) ( some true) ( aj (al7 (v3+1)))) ( L8 n)
def zJ(n:Nat)(l:List al5)(s:al5):Nat→Int→al9
 | 0=>λ_=>none
 |m+1=>L9 n l s (zJ n l s m)
def L'(l:List al5)(s:al5):al9:=zJ n l s n 0
def Ey(s:al5):al9:=(L7 n).bind λah=>(L' n ah s).bind λao=>some ao
def zK(n:Nat)(c:Int):al9:=some (cond (decide (97≤c)) (decide (c≤122)) false)
def L_(n:Nat)(c:Int):al9:=some (cond (decide (48≤c)) (decide (c≤57)) false)
def Ez(c:Int):al9:=(zK n c).bind λah=>Option.bind (cond (!ah) (L_ n c) (some default)) λao=>some (cond (cond ah true ao) true (decide (c=95)))
def Ma(n:Nat)(bn:Int):al':=some bn
def Mb(s:al5)(aj:Int→al')(v4:Int):al':=av (!(decide (v4<((s.length:Nat):Int)))||aN v4 s.length)<|Option.bind (cond (decide (v4<((s.length:Nat):Int))) (Ez n (((s.getD (v4).toNat 0).toNat:Nat):Int)) (some default)) λbL=>cond (cond (decide (v4<((s.length:Nat):Int))) bL false) ( aj (al7 (v4+1))) ( Ma n v4)
def zL(n:Nat)(s:al5):Nat→Int→al'
 | 0=>λ_=>none
 |m+1=>Mb n s (zL n s m)
def Mc(s:al5)(at_:Int):al':=zL n s n at_
def rE(s:al5):al9:=av (!(cond (decide (1≤((s.length:Nat):Int))) (decide (((s.length:Nat):Int)≤16)) false)||aN 0 s.length)<|Option.bind (cond (cond (decide (1≤((s.length:Nat):Int))) (decide (((s.length:Nat):Int)≤16)) false) (zK n (((s.getD 0 0).toNat:Nat):Int)) (some default)) λao=>Option.bind (cond (cond (cond (decide (1≤((s.length:Nat):Int))) (decide (((s.length:Nat):Int)≤16)) false) ao false) (Mc n s 0) (some default)) λaE=>Option.bind (cond (cond (cond (cond (decide (1≤((s.length:Nat):Int))) (decide (((s.length:Nat):Int)≤16)) false) ao false) (decide (aE=((s.length:Nat):Int))) false) (Ey n s) (some default)) λbp=>some (cond (cond (cond (cond (decide (1≤((s.length:Nat):Int))) (decide (((s.length:Nat):Int)≤16)) false) ao false) (decide (aE=((s.length:Nat):Int))) false) (!bp) false)
def qy(n:Nat)(e:Expr):al9:=some (cond (cond (cond (decide (e.Op=0)) (decide (e.N=0)) false) (decide (e.S=([]:al5))) false) (decide (((e.au.length:Nat):Int)=0)) false)
def Md(n:Nat)(mp:(List cn)→Expr→Bool→Option (List cn))(b9:List cn):Option (List cn):=some b9
def Me(mp:(List cn)→Expr→Bool→Option (List cn))(e:Expr)(aj:(List cn)→Int→Option (List cn))(bm:List cn)(bn:Int):Option (List cn):=cond (cond (decide (bn<((e.au.length:Nat):Int))) (decide (((bm.length:Nat):Int)≤400)) false) ( av (aN bn e.au.length)<|(mp bm (al8 e.au bn) false).bind λdV=>aj dV (al7 (bn+1))) ( Md n mp bm)
def zM(n:Nat)(mp:(List cn)→Expr→Bool→Option (List cn))(e:Expr):Nat→(List cn)→Int→Option (List cn)
 | 0=>λ_ _=>none
 |m+1=>Me n mp e (zM n mp e m)
def Mf(mp:(List cn)→Expr→Bool→Option (List cn))(out:List cn)(e:Expr)(root:Bool):Option (List cn):=cond (decide (400<((out.length:Nat):Int))) ( some out) ( av (room (out.length+([(⟨false,⟨0,[],0,⟨0,0,[],[]⟩,⟨0,0,[],[]⟩,[],[]⟩,0,e,root⟩:cn)]:List cn).length) 272)<|zM n mp e n (out++([(⟨false,⟨0,[],0,⟨0,0,[],[]⟩,⟨0,0,[],[]⟩,[],[]⟩,0,e,root⟩:cn)]:List cn)) 0)
def qz:Nat→(List cn)→Expr→Bool→Option (List cn)
 | 0=>λ_ _ _=>none
 |m+1=>Mf m (qz m)
def Mg(n:Nat)(hU:(List cn)→(List Stmt)→Int→Option (List cn))(jn:List cn):Option (List cn):=some jn
def Mh(n:Nat)(hU:(List cn)→(List Stmt)→Int→Option (List cn))(aj:(List cn)→Int→Option (List cn))(l:List Stmt)(depth:Int)(v21:Int)(hT:List cn):Option (List cn):=aj hT (al7 (v21+1))
def EA(hU:(List cn)→(List Stmt)→Int→Option (List cn))(aj:(List cn)→Int→Option (List cn))(l:List Stmt)(depth:Int)(v21:Int)(gm:List cn):Option (List cn):=av (aN v21 l.length)<|(hU gm ((al8 l v21).Body) (al7 (depth+1))).bind λiM=>av (aN v21 l.length)<|(hU iM ((al8 l v21).bN) (al7 (depth+1))).bind λm5=>Mh n hU aj l depth v21 m5
def EB(hU:(List cn)→(List Stmt)→Int→Option (List cn))(aj:(List cn)→Int→Option (List cn))(l:List Stmt)(depth:Int)(v21:Int)(v28:List cn):Option (List cn):=av (aN v21 l.length)<|(qy n ((al8 l v21).B)).bind λhF=>cond (!hF) ( av (aN v21 l.length)<|(qz n v28 ((al8 l v21).B) true).bind λjo=>EA n hU aj l depth v21 jo) ( EA n hU aj l depth v21 v28)
def Mi(hU:(List cn)→(List Stmt)→Int→Option (List cn))(l:List Stmt)(depth:Int)(aj:(List cn)→Int→Option (List cn))(v20:List cn)(v21:Int):Option (List cn):=cond (cond (decide (v21<((l.length:Nat):Int))) (decide (((v20.length:Nat):Int)≤400)) false) ( av (aN v21 l.length)<|av (room (v20.length+([(⟨true,⟨(al8 l v21).Op,(al8 l v21).Name,(al8 l v21).Max,⟨((al8 l v21).A).Op,((al8 l v21).A).N,((al8 l v21).A).S,((al8 l v21).A).au⟩,⟨((al8 l v21).B).Op,((al8 l v21).B).N,((al8 l v21).B).S,((al8 l v21).B).au⟩,(al8 l v21).Body,(al8 l v21).bN⟩,depth,⟨0,0,[],[]⟩,false⟩:cn)]:List cn).length) 272)<|av (aN v21 l.length)<|(qy n ((al8 l v21).A)).bind λeM=>cond (!eM) ( av (aN v21 l.length)<|(qz n (v20++([(⟨true,⟨(al8 l v21).Op,(al8 l v21).Name,(al8 l v21).Max,⟨((al8 l v21).A).Op,((al8 l v21).A).N,((al8 l v21).A).S,((al8 l v21).A).au⟩,⟨((al8 l v21).B).Op,((al8 l v21).B).N,((al8 l v21).B).S,((al8 l v21).B).au⟩,(al8 l v21).Body,(al8 l v21).bN⟩,depth,⟨0,0,[],[]⟩,false⟩:cn)]:List cn)) ((al8 l v21).A) true).bind λdB=>EB n hU aj l depth v21 dB) ( EB n hU aj l depth v21 (v20++([(⟨true,⟨(al8 l v21).Op,(al8 l v21).Name,(al8 l v21).Max,⟨((al8 l v21).A).Op,((al8 l v21).A).N,((al8 l v21).A).S,((al8 l v21).A).au⟩,⟨((al8 l v21).B).Op,((al8 l v21).B).N,((al8 l v21).B).S,((al8 l v21).B).au⟩,(al8 l v21).Body,(al8 l v21).bN⟩,depth,⟨0,0,[],[]⟩,false⟩:cn)]:List cn)))) ( Mg n hU v20)
def rF(n:Nat)(hU:(List cn)→(List Stmt)→Int→Option (List cn))(l:List Stmt)(depth:Int):Nat→(List cn)→Int→Option (List cn)
 | 0=>λ_ _=>none
 |m+1=>Mi n hU l depth (rF n hU l depth m)
def Mj(hU:(List cn)→(List Stmt)→Int→Option (List cn))(out:List cn)(l:List Stmt)(depth:Int):Option (List cn):=rF n hU l depth n out 0
def lT:Nat→(List cn)→(List Stmt)→Int→Option (List cn)
 | 0=>λ_ _ _=>none
 |m+1=>Mj m (lT m)
def Mk(p:be):Option (List cn):=(lT n ([]:List cn) p.Body 1).bind λah=>some ah
def Ml(n:Nat):al':=some 0
def Mm(n:Nat)(aj:Int→al')(l:List Param)(bu:Int):al':=aj (al7 (bu+1))
def Mn(aj:Int→al')(l:List Param)(bu:Int)(dx:Int→al')(cJ:Int):al':=cond (decide (cJ<bu)) ( av (aN cJ l.length)<|av (aN bu l.length)<|cond (decide (((al8 l cJ).Name)=((al8 l bu).Name))) ( some 8) ( dx (al7 (cJ+1)))) ( Mm n aj l bu)
def wn(n:Nat)(aj:Int→al')(l:List Param)(bu:Int):Nat→Int→al'
 | 0=>λ_=>none
 |m+1=>Mn n aj l bu (wn n aj l bu m)
def Mo(l:List Param)(aj:Int→al')(bu:Int):al':=cond (decide (bu<((l.length:Nat):Int))) ( av (aN bu l.length)<|(rE n ((al8 l bu).Name)).bind λdW=>cond (!dW) ( some 7) ( av (aN bu l.length)<|av ((decide ((al8 l bu).fy<1))||aN bu l.length)<|cond (cond (decide ((al8 l bu).fy<1)) true (decide (3<(al8 l bu).fy))) ( some 10) ( wn n aj l bu n 0))) ( Ml n)
def rG(n:Nat)(l:List Param):Nat→Int→al'
 | 0=>λ_=>none
 |m+1=>Mo n l (rG n l m)
def EC(l:List Param):al':=cond (decide (6<((l.length:Nat):Int))) ( some 2) ( rG n l n 0)
def Mp(n:Nat)(op:Int):al':=cond (cond (decide (4≤op)) (decide (op≤19)) false) ( some 2) ( some (-1))
def qA(op:Int)(v2:Bool):al':=cond v2 ( some 1) ( Mp n op)
def rH(op:Int)(v1:Bool):al':=cond v1 ( some 0) ( cond (decide (op=9)) ( qA n op (decide (op=9))) ( cond (decide (op=18)) ( qA n op (decide (op=18))) ( cond (decide (op=20)) ( qA n op (decide (op=20))) ( cond (decide (op=21)) ( qA n op (decide (op=21))) ( cond (decide (op=22)) ( qA n op (decide (op=22))) ( cond (decide (op=23)) ( qA n op (decide (op=23))) ( qA n op (decide (op=24)))))))))
def zN(op:Int):al':=cond (decide (op=1)) ( rH n op (decide (op=1))) ( cond (decide (op=2)) ( rH n op (decide (op=2))) ( cond (decide (op=3)) ( rH n op (decide (op=3))) ( cond (decide (op=25)) ( rH n op (decide (op=25))) ( cond (decide (op=26)) ( rH n op (decide (op=26))) ( rH n op (decide (op=27)))))))
def Mq(n:Nat):al9:=some true
def Mr(s:al5)(aj:Int→al9)(v5:Int):al9:=cond (decide (v5<((s.length:Nat):Int))) ( av (aN v5 s.length)<|av ((decide ((((s.getD (v5).toNat 0).toNat:Nat):Int)<32))||aN v5 s.length)<|cond (cond (decide ((((s.getD (v5).toNat 0).toNat:Nat):Int)<32)) true (decide (126<(((s.getD (v5).toNat 0).toNat:Nat):Int)))) ( some false) ( aj (al7 (v5+1)))) ( Mq n)
def zO(n:Nat)(s:al5):Nat→Int→al9
 | 0=>λ_=>none
 |m+1=>Mr n s (zO n s m)
def ED(s:al5):al9:=cond (decide (64<((s.length:Nat):Int))) ( some false) ( zO n s n 0)
def EE(e:Expr)(depth:Int):al':=(zN n e.Op).bind λah=>cond (cond (cond (decide (ah<0)) true (cond (!decide (e.Op=1)) (!decide (e.N=0)) false)) true (cond (cond (!decide (e.Op=2)) (!decide (e.Op=3)) false) (!(decide (e.S=([]:al5)))) false)) ( some 1) ( Option.bind (cond (decide (e.Op=3)) (rE n e.S) (some default)) λaE=>cond (cond (decide (e.Op=3)) (!aE) false) ( some 7) ( Option.bind (cond ((!(decide (e.N<0)))&&(decide (e.Op=2))) (ED n e.S) (some default)) λbV=>Option.bind (cond (!(cond (decide (e.N<0)) true (cond (decide (e.Op=2)) (!bV) false))) (zN n e.Op) (some default)) λbL=>cond (cond (cond (decide (e.N<0)) true (cond (decide (e.Op=2)) (!bV) false)) true (!decide (((e.au.length:Nat):Int)=bL))) ( some 1) ( cond (decide (12<depth)) ( some 2) ( some 0))))
def Ms(n:Nat)(mq:Expr→Int→al'):al':=some 0
def Mt(mq:Expr→Int→al')(depth:Int)(e:Expr)(aj:Int→al')(v6:Int):al':=cond (decide (v6<((e.au.length:Nat):Int))) ( av (aN v6 e.au.length)<|(mq (al8 e.au v6) (al7 (depth+1))).bind λc7=>cond (!decide (c7=0)) ( some c7) ( aj (al7 (v6+1)))) ( Ms n mq)
def zP(n:Nat)(mq:Expr→Int→al')(depth:Int)(e:Expr):Nat→Int→al'
 | 0=>λ_=>none
 |m+1=>Mt n mq depth e (zP n mq depth e m)
def Mu(mq:Expr→Int→al')(e:Expr)(depth:Int):al':=(EE n e depth).bind λah=>cond (!decide (ah=0)) ( some ah) ( zP n mq depth e n 0)
def wo:Nat→Expr→Int→al'
 | 0=>λ_ _=>none
 |m+1=>Mu m (wo m)
def zQ(e:Expr):al':=(wo n e 1).bind λah=>some ah
def Mv(n:Nat):Option (Bool×Bool×Bool×Bool×Bool×Bool):=some (false,true,false,false,false,false)
def EF(op:Int)(v2:Bool):Option (Bool×Bool×Bool×Bool×Bool×Bool):=cond v2 ( some (false,false,true,false,false,false)) ( cond (decide (op=5)) ( some (false,false,true,false,true,true)) ( cond (decide (op=6)) ( some (true,true,true,true,true,false)) ( Mv n)))
def EG(op:Int)(v1:Bool):Option (Bool×Bool×Bool×Bool×Bool×Bool):=cond v1 ( some (true,false,true,false,false,false)) ( cond (decide (op=3)) ( some (false,false,true,true,false,false)) ( cond (decide (op=4)) ( EF n op (decide (op=4))) ( EF n op (decide (op=7)))))
def zR(op:Int):Option (Bool×Bool×Bool×Bool×Bool×Bool):=cond (decide (op=1)) ( EG n op (decide (op=1))) ( EG n op (decide (op=2)))
def EH(n:Nat)(depth:Int):al':=cond (decide (12<depth)) ( some 2) ( some 0)
def EI(depth:Int)(ah:Bool×Bool×Bool×Bool×Bool×Bool)(s:Stmt):al':=cond ah.2.2.2.1 ( (zQ n (⟨s.B.Op,s.B.N,s.B.S,s.B.au⟩:Expr)).bind λcH=>cond (!decide (cH=0)) ( some cH) ( EH n depth)) ( EH n depth)
def EJ(s:Stmt)(depth:Int):al':=(zR n s.Op).bind λah=>Option.bind (cond ((!(cond (cond (cond (decide (s.Op<1)) true (decide (8<s.Op))) true (cond (!ah.1) (!(decide (s.Name=([]:al5)))) false)) true (cond (!ah.2.1) (!decide (s.Max=0)) false)))&&(!ah.2.2.1)) (qy n (⟨s.A.Op,s.A.N,s.A.S,s.A.au⟩:Expr)) (some default)) λao=>Option.bind (cond ((!(cond (cond (cond (cond (decide (s.Op<1)) true (decide (8<s.Op))) true (cond (!ah.1) (!(decide (s.Name=([]:al5)))) false)) true (cond (!ah.2.1) (!decide (s.Max=0)) false)) true (cond (!ah.2.2.1) (!ao) false)))&&(!ah.2.2.2.1)) (qy n (⟨s.B.Op,s.B.N,s.B.S,s.B.au⟩:Expr)) (some default)) λaE=>cond (cond (cond (cond (cond (cond (cond (cond (decide (s.Op<1)) true (decide (8<s.Op))) true (cond (!ah.1) (!(decide (s.Name=([]:al5)))) false)) true (cond (!ah.2.1) (!decide (s.Max=0)) false)) true (cond (!ah.2.2.1) (!ao) false)) true (cond (!ah.2.2.2.1) (!aE) false)) true (cond (!ah.2.2.2.2.1) (decide (0<((s.Body.length:Nat):Int))) false)) true (cond (!ah.2.2.2.2.2) (decide (0<((s.bN.length:Nat):Int))) false)) ( some 1) ( cond (cond (cond (decide (s.Op=6)) (cond (decide (s.Max<1)) true (decide (16<s.Max))) false) true (cond (decide (s.Op=8)) (cond (decide (s.Max<0)) true (decide (999<s.Max))) false)) ( some 1) ( Option.bind (cond ah.1 (rE n s.Name) (some default)) λbL=>cond (cond ah.1 (!bL) false) ( some 7) ( cond ah.2.2.1 ( (zQ n (⟨s.A.Op,s.A.N,s.A.S,s.A.au⟩:Expr)).bind λc7=>cond (!decide (c7=0)) ( some c7) ( EI n depth ah s)) ( EI n depth ah s))))
def Mw(n:Nat)(bV:(List cn)):al':=cond (decide (400<((bV.length:Nat):Int))) ( some 2) ( some 0)
def EK(n:Nat)(aj:Int→al')(bV:(List cn))(v11:Int):al':=aj (al7 (v11+1))
def Mx(bV:(List cn))(aj:Int→al')(v11:Int):al':=cond (decide (v11<((bV.length:Nat):Int))) ( av (aN v11 bV.length)<|cond ((al8 bV v11).ow) ( av (aN v11 bV.length)<|av (aN v11 bV.length)<|(EJ n ((al8 bV v11).Stmt) ((al8 bV v11).yI)).bind λdv=>cond (!decide (dv=0)) ( some dv) ( EK n aj bV v11)) ( EK n aj bV v11)) ( Mw n bV)
def wq(n:Nat)(bV:(List cn)):Nat→Int→al'
 | 0=>λ_=>none
 |m+1=>Mx n bV (wq n bV m)
def EL(p:be):al':=(rE n p.Name).bind λah=>cond (!ah) ( some 7) ( (EC n p.Params).bind λaE=>cond (!decide (aE=0)) ( some aE) ( (Mk n p).bind λbV=>wq n bV n 0))
def My(n:Nat)(a:Int):al':=cond (decide (a<0)) ( some (IntKind.u64.wrap (0-(IntKind.u64.wrap a)))) ( some (IntKind.u64.wrap a))
def zS(n:Nat)(er:Int)(v12:al5):Option al5:=cond (decide (er<0)) ( av (br (([45]:al5).length+v12.length))<|some (([45]:al5)++v12)) ( some v12)
def qB(er:Int)(aj:Int→al5→Option al5)(v6:Int)(bm:al5):Option al5:=cond (cond (decide (0<v6)) true (decide (bm=([]:al5)))) ( av (lj ([(IntKind.u8.wrap (IntKind.u64.wrap (48+(Int.tmod v6 10))))]:List Int))<|av (br ((hl ([(IntKind.u8.wrap (IntKind.u64.wrap (48+(Int.tmod v6 10))))]:List Int)).length+bm.length))<|aj (IntKind.u64.wrap (Int.tdiv v6 10)) ((hl ([(IntKind.u8.wrap (IntKind.u64.wrap (48+(Int.tmod v6 10))))]:List Int))++bm)) ( zS n er bm)
def oH(n:Nat)(er:Int):Nat→Int→al5→Option al5
 | 0=>λ_ _=>none
 |m+1=>qB n er (oH n er m)
def tL(er:Int):Option al5:=(My n er).bind λah=>oH n er n ah ([]:al5)
def Mz(n:Nat)(v9:al5):Option al5:=some v9
def MA(depth:Int)(aj:al5→Int→Option al5)(v4:al5)(v5:Int):Option al5:=cond (decide (v5<depth)) ( av (br (v4.length+([32,32,32,32]:al5).length))<|aj (v4++([32,32,32,32]:al5)) (al7 (v5+1))) ( Mz n v4)
def zT(n:Nat)(depth:Int):Nat→al5→Int→Option al5
 | 0=>λ_ _=>none
 |m+1=>MA n depth (zT n depth m)
def MB(depth:Int):Option al5:=zT n depth n ([]:al5) 0
def MC(n:Nat):al9:=some true
def MD(s:al5)(aj:Int→al9)(v4:Int):al9:=cond (decide (v4<((s.length:Nat):Int))) ( av (aN v4 s.length)<|av ((decide ((((s.getD (v4).toNat 0).toNat:Nat):Int)<32))||aN v4 s.length)<|cond (cond (decide ((((s.getD (v4).toNat 0).toNat:Nat):Int)<32)) true (decide (126<(((s.getD (v4).toNat 0).toNat:Nat):Int)))) ( some false) ( aj (al7 (v4+1)))) ( MC n)
def wu(n:Nat)(s:al5):Nat→Int→al9
 | 0=>λ_=>none
 |m+1=>MD n s (wu n s m)
def ME(s:al5):al9:=wu n s n 0
def MF(n:Nat)(v24:al5):Option (al5×Int):=av (br (v24.length+([34]:al5).length))<|some ((v24++([34]:al5)),0)
def MG(n:Nat)(aj:al5→Int→Option (al5×Int))(s:al5)(bu:Int)(v21:al5):Option (al5×Int):=aj v21 (al7 (bu+1))
def EM(aj:al5→Int→Option (al5×Int))(s:al5)(bu:Int)(ch:al5):Option (al5×Int):=av (nl bu (al7 (bu+1)) s.length)<|av (br (ch.length+((s.take ((al7 (bu+1))).toNat).drop (bu).toNat).length))<|MG n aj s bu (ch++((s.take ((al7 (bu+1))).toNat).drop (bu).toNat))
def MH(s:al5)(aj:al5→Int→Option (al5×Int))(b9:al5)(bu:Int):Option (al5×Int):=cond (decide (bu<((s.length:Nat):Int))) ( av (aN bu s.length)<|av ((decide ((((s.getD (bu).toNat 0).toNat:Nat):Int)=34))||aN bu s.length)<|cond (cond (decide ((((s.getD (bu).toNat 0).toNat:Nat):Int)=34)) true (decide ((((s.getD (bu).toNat 0).toNat:Nat):Int)=92))) ( av (br (b9.length+([92]:al5).length))<|EM n aj s bu (b9++([92]:al5))) ( EM n aj s bu b9)) ( MF n b9)
def zU(n:Nat)(s:al5):Nat→al5→Int→Option (al5×Int)
 | 0=>λ_ _=>none
 |m+1=>MH n s (zU n s m)
def EN(s:al5):Option (al5×Int):=cond (decide (64<((s.length:Nat):Int))) ( some (([]:al5),2)) ( (ME n s).bind λao=>cond (!ao) ( some (([]:al5),1)) ( zU n s n ([34]:al5) 0))
def UL(n:Nat):al':=some 9
def EO(op:Int)(v3:Bool):al':=cond v3 ( some 7) ( cond (decide (op=9)) ( some 8) ( UL n))
def MI(op:Int)(v2:Bool):al':=cond v2 ( some 6) ( cond (decide (op=6)) ( EO n op (decide (op=6))) ( cond (decide (op=7)) ( EO n op (decide (op=7))) ( EO n op (decide (op=8)))))
def tM(op:Int)(v1:Bool):al':=cond v1 ( some 4) ( cond (decide (op=19)) ( some 5) ( cond (decide (op=4)) ( MI n op (decide (op=4))) ( MI n op (decide (op=5)))))
def EP(op:Int):al':=cond (decide (op=17)) ( some 1) ( cond (decide (op=16)) ( some 2) ( cond (decide (op=18)) ( some 3) ( cond (decide (op=10)) ( tM n op (decide (op=10))) ( cond (decide (op=11)) ( tM n op (decide (op=11))) ( cond (decide (op=12)) ( tM n op (decide (op=12))) ( cond (decide (op=13)) ( tM n op (decide (op=13))) ( cond (decide (op=14)) ( tM n op (decide (op=14))) ( tM n op (decide (op=15))))))))))
def EQ(n:Nat)(op:Int):Option al5:=cond (decide (op=17)) ( some ([111,114]:al5)) ( cond (decide (op=16)) ( some ([97,110,100]:al5)) ( cond (decide (op=10)) ( some ([61,61]:al5)) ( cond (decide (op=11)) ( some ([33,61]:al5)) ( cond (decide (op=12)) ( some ([60]:al5)) ( cond (decide (op=13)) ( some ([60,61]:al5)) ( cond (decide (op=14)) ( some ([62]:al5)) ( cond (decide (op=15)) ( some ([62,61]:al5)) ( cond (decide (op=19)) ( some ([43,43]:al5)) ( cond (decide (op=4)) ( some ([43]:al5)) ( cond (decide (op=5)) ( some ([45]:al5)) ( cond (decide (op=6)) ( some ([42]:al5)) ( cond (decide (op=7)) ( some ([47]:al5)) ( some ([37]:al5))))))))))))))
def ER(n:Nat)(op:Int):Option al5:=cond (decide (op=20)) ( some ([116,101,120,116]:al5)) ( cond (decide (op=21)) ( some ([108,101,110]:al5)) ( cond (decide (op=22)) ( some ([103,101,116,105,110,116]:al5)) ( cond (decide (op=23)) ( some ([103,101,116,115,116,114]:al5)) ( cond (decide (op=24)) ( some ([104,97,115]:al5)) ( cond (decide (op=25)) ( some ([110,111,119]:al5)) ( cond (decide (op=26)) ( some ([114,97,110,100,111,109]:al5)) ( some ([110,111,100,101]:al5))))))))
def ES(pI:Expr→Option al5)(m6:Expr→Int→Option al5)(e:Expr):Option al5:=(EP n e.Op).bind λah=>cond (decide (e.Op=1)) ( (tL n e.N).bind λaE=>some aE) ( cond (decide (e.Op=2)) ( (EN n e.S).bind λbV=>some bV.1) ( cond (decide (e.Op=3)) ( some e.S) ( cond (decide (e.Op=18)) ( av (aN 0 e.au.length)<|(m6 (e.au.getD 0 default) ah).bind λcH=>av (br (([110,111,116,32]:al5).length+cH.length))<|some (([110,111,116,32]:al5)++cH)) ( cond (decide (e.Op=9)) ( av (aN 0 e.au.length)<|(m6 (e.au.getD 0 default) ah).bind λdk=>av (br (([45]:al5).length+dk.length))<|some (([45]:al5)++dk)) ( cond (cond (decide (ah=9)) (decide (((e.au.length:Nat):Int)=0)) false) ( (ER n e.Op).bind λdW=>av (br (dW.length+([40,41]:al5).length))<|some (dW++([40,41]:al5))) ( cond (decide (ah=9)) ( (ER n e.Op).bind λe4=>av (br (e4.length+([40]:al5).length))<|av (aN 0 e.au.length)<|(pI (e.au.getD 0 default)).bind λdn=>av (br ((e4++([40]:al5)).length+dn.length))<|av (br (((e4++([40]:al5))++dn).length+([41]:al5).length))<|some (((e4++([40]:al5))++dn)++([41]:al5))) ( cond (decide (ah=4)) ( av (aN 0 e.au.length)<|(m6 (e.au.getD 0 default) 5).bind λdB=>av (br (dB.length+([32]:al5).length))<|(EQ n e.Op).bind λfo=>av (br ((dB++([32]:al5)).length+fo.length))<|av (br (((dB++([32]:al5))++fo).length+([32]:al5).length))<|av (aN 1 e.au.length)<|(m6 (e.au.getD 1 default) 5).bind λnG=>av (br ((((dB++([32]:al5))++fo)++([32]:al5)).length+nG.length))<|some ((((dB++([32]:al5))++fo)++([32]:al5))++nG)) ( av (aN 0 e.au.length)<|(m6 (e.au.getD 0 default) ah).bind λmZ=>av (br (mZ.length+([32]:al5).length))<|(EQ n e.Op).bind λoB=>av (br ((mZ++([32]:al5)).length+oB.length))<|av (br (((mZ++([32]:al5))++oB).length+([32]:al5).length))<|av (aN 1 e.au.length)<|(m6 (e.au.getD 1 default) (al7 (ah+1))).bind λgN=>av (br ((((mZ++([32]:al5))++oB)++([32]:al5)).length+gN.length))<|some ((((mZ++([32]:al5))++oB)++([32]:al5))++gN)))))))))
def ET(pI:Expr→Option al5)(m6:Expr→Int→Option al5)(e:Expr)(least:Int):Option al5:=(EP n e.Op).bind λah=>cond (decide (ah<least)) ( (pI e).bind λaE=>av (br (([40]:al5).length+aE.length))<|av (br ((([40]:al5)++aE).length+([41]:al5).length))<|some ((([40]:al5)++aE)++([41]:al5))) ( (pI e).bind λbL=>some bL)
def wv:Nat→(Expr→Option al5)×(Expr→Int→Option al5)
 | 0=>(λ_=>none,λ_ _=>none)
 |m+1=>(ES m ((wv m).1) ((wv m).2),ET m ((wv m).1) ((wv m).2))
def kg:Expr→Option al5:=(wv n).1
def tN:Expr→Int→Option al5:=(wv n).2
def MJ(n:Nat)(iy:(List Stmt)→Int→Option al5)(ja:Stmt→Int→Option al5)(b9:al5):Option al5:=some b9
def MK(iy:(List Stmt)→Int→Option al5)(ja:Stmt→Int→Option al5)(l:List Stmt)(depth:Int)(aj:al5→Int→Option al5)(v6:al5)(bm:Int):Option al5:=cond (decide (bm<((l.length:Nat):Int))) ( av (aN bm l.length)<|(ja (al8 l bm) depth).bind λcH=>av (br (v6.length+cH.length))<|aj (v6++cH) (al7 (bm+1))) ( MJ n iy ja v6)
def zV(n:Nat)(iy:(List Stmt)→Int→Option al5)(ja:Stmt→Int→Option al5)(l:List Stmt)(depth:Int):Nat→al5→Int→Option al5
 | 0=>λ_ _=>none
 |m+1=>MK n iy ja l depth (zV n iy ja l depth m)
def EU(iy:(List Stmt)→Int→Option al5)(ja:Stmt→Int→Option al5)(l:List Stmt)(depth:Int):Option al5:=zV n iy ja l depth n ([]:al5) 0
def zW(n:Nat)(iy:(List Stmt)→Int→Option al5)(ja:Stmt→Int→Option al5)(zX:al5):Option al5:=av (br (zX.length+([10]:al5).length))<|some (zX++([10]:al5))
def EV(iy:(List Stmt)→Int→Option al5)(ja:Stmt→Int→Option al5)(x:Stmt)(depth:Int):Option al5:=(MB n depth).bind λah=>cond (decide (x.Op=1)) ( av (br (ah.length+([108,101,116,32]:al5).length))<|av (br ((ah++([108,101,116,32]:al5)).length+x.Name.length))<|av (br (((ah++([108,101,116,32]:al5))++x.Name).length+([32,61,32]:al5).length))<|(kg n (⟨x.A.Op,x.A.N,x.A.S,x.A.au⟩:Expr)).bind λbL=>av (br ((((ah++([108,101,116,32]:al5))++x.Name)++([32,61,32]:al5)).length+bL.length))<|av (br (((((ah++([108,101,116,32]:al5))++x.Name)++([32,61,32]:al5))++bL).length+([59,10]:al5).length))<|some (((((ah++([108,101,116,32]:al5))++x.Name)++([32,61,32]:al5))++bL)++([59,10]:al5))) ( cond (decide (x.Op=2)) ( av (br (ah.length+x.Name.length))<|av (br ((ah++x.Name).length+([32,61,32]:al5).length))<|(kg n (⟨x.A.Op,x.A.N,x.A.S,x.A.au⟩:Expr)).bind λfm=>av (br (((ah++x.Name)++([32,61,32]:al5)).length+fm.length))<|av (br ((((ah++x.Name)++([32,61,32]:al5))++fm).length+([59,10]:al5).length))<|some ((((ah++x.Name)++([32,61,32]:al5))++fm)++([59,10]:al5))) ( cond (decide (x.Op=3)) ( av (br (ah.length+([112,117,116,32]:al5).length))<|(kg n (⟨x.A.Op,x.A.N,x.A.S,x.A.au⟩:Expr)).bind λet=>av (br ((ah++([112,117,116,32]:al5)).length+et.length))<|av (br (((ah++([112,117,116,32]:al5))++et).length+([32,61,32]:al5).length))<|(kg n (⟨x.B.Op,x.B.N,x.B.S,x.B.au⟩:Expr)).bind λdY=>av (br ((((ah++([112,117,116,32]:al5))++et)++([32,61,32]:al5)).length+dY.length))<|av (br (((((ah++([112,117,116,32]:al5))++et)++([32,61,32]:al5))++dY).length+([59,10]:al5).length))<|some (((((ah++([112,117,116,32]:al5))++et)++([32,61,32]:al5))++dY)++([59,10]:al5))) ( cond (decide (x.Op=4)) ( av (br (ah.length+([100,101,108,101,116,101,32]:al5).length))<|(kg n (⟨x.A.Op,x.A.N,x.A.S,x.A.au⟩:Expr)).bind λeM=>av (br ((ah++([100,101,108,101,116,101,32]:al5)).length+eM.length))<|av (br (((ah++([100,101,108,101,116,101,32]:al5))++eM).length+([59,10]:al5).length))<|some (((ah++([100,101,108,101,116,101,32]:al5))++eM)++([59,10]:al5))) ( cond (decide (x.Op=7)) ( av (br (ah.length+([101,109,105,116,32]:al5).length))<|(kg n (⟨x.A.Op,x.A.N,x.A.S,x.A.au⟩:Expr)).bind λhF=>av (br ((ah++([101,109,105,116,32]:al5)).length+hF.length))<|av (br (((ah++([101,109,105,116,32]:al5))++hF).length+([59,10]:al5).length))<|some (((ah++([101,109,105,116,32]:al5))++hF)++([59,10]:al5))) ( cond (decide (x.Op=8)) ( av (br (ah.length+([97,98,111,114,116,32]:al5).length))<|(tL n x.Max).bind λiM=>av (br ((ah++([97,98,111,114,116,32]:al5)).length+iM.length))<|av (br (((ah++([97,98,111,114,116,32]:al5))++iM).length+([59,10]:al5).length))<|some (((ah++([97,98,111,114,116,32]:al5))++iM)++([59,10]:al5))) ( cond (decide (x.Op=6)) ( av (br (ah.length+([102,111,114,32]:al5).length))<|av (br ((ah++([102,111,114,32]:al5)).length+x.Name.length))<|av (br (((ah++([102,111,114,32]:al5))++x.Name).length+([32,61,32]:al5).length))<|(kg n (⟨x.A.Op,x.A.N,x.A.S,x.A.au⟩:Expr)).bind λgN=>av (br ((((ah++([102,111,114,32]:al5))++x.Name)++([32,61,32]:al5)).length+gN.length))<|av (br (((((ah++([102,111,114,32]:al5))++x.Name)++([32,61,32]:al5))++gN).length+([32,116,111,32]:al5).length))<|(kg n (⟨x.B.Op,x.B.N,x.B.S,x.B.au⟩:Expr)).bind λix=>av (br ((((((ah++([102,111,114,32]:al5))++x.Name)++([32,61,32]:al5))++gN)++([32,116,111,32]:al5)).length+ix.length))<|av (br (((((((ah++([102,111,114,32]:al5))++x.Name)++([32,61,32]:al5))++gN)++([32,116,111,32]:al5))++ix).length+([32,109,97,120,32]:al5).length))<|(tL n x.Max).bind λpG=>av (br ((((((((ah++([102,111,114,32]:al5))++x.Name)++([32,61,32]:al5))++gN)++([32,116,111,32]:al5))++ix)++([32,109,97,120,32]:al5)).length+pG.length))<|av (br (((((((((ah++([102,111,114,32]:al5))++x.Name)++([32,61,32]:al5))++gN)++([32,116,111,32]:al5))++ix)++([32,109,97,120,32]:al5))++pG).length+([32,123,10]:al5).length))<|(iy x.Body (al7 (depth+1))).bind λoF=>av (br ((((((((((ah++([102,111,114,32]:al5))++x.Name)++([32,61,32]:al5))++gN)++([32,116,111,32]:al5))++ix)++([32,109,97,120,32]:al5))++pG)++([32,123,10]:al5)).length+oF.length))<|av (br (((((((((((ah++([102,111,114,32]:al5))++x.Name)++([32,61,32]:al5))++gN)++([32,116,111,32]:al5))++ix)++([32,109,97,120,32]:al5))++pG)++([32,123,10]:al5))++oF).length+ah.length))<|av (br ((((((((((((ah++([102,111,114,32]:al5))++x.Name)++([32,61,32]:al5))++gN)++([32,116,111,32]:al5))++ix)++([32,109,97,120,32]:al5))++pG)++([32,123,10]:al5))++oF)++ah).length+([125,10]:al5).length))<|some ((((((((((((ah++([102,111,114,32]:al5))++x.Name)++([32,61,32]:al5))++gN)++([32,116,111,32]:al5))++ix)++([32,109,97,120,32]:al5))++pG)++([32,123,10]:al5))++oF)++ah)++([125,10]:al5))) ( av (br (ah.length+([105,102,32]:al5).length))<|(kg n (⟨x.A.Op,x.A.N,x.A.S,x.A.au⟩:Expr)).bind λnN=>av (br ((ah++([105,102,32]:al5)).length+nN.length))<|av (br (((ah++([105,102,32]:al5))++nN).length+([32,123,10]:al5).length))<|(iy x.Body (al7 (depth+1))).bind λnL=>av (br ((((ah++([105,102,32]:al5))++nN)++([32,123,10]:al5)).length+nL.length))<|av (br (((((ah++([105,102,32]:al5))++nN)++([32,123,10]:al5))++nL).length+ah.length))<|av (br ((((((ah++([105,102,32]:al5))++nN)++([32,123,10]:al5))++nL)++ah).length+([125]:al5).length))<|cond (decide (0<((x.bN.length:Nat):Int))) ( av (br (((((((ah++([105,102,32]:al5))++nN)++([32,123,10]:al5))++nL)++ah)++([125]:al5)).length+([32,101,108,115,101,32,123,10]:al5).length))<|(iy x.bN (al7 (depth+1))).bind λjJ=>av (br ((((((((ah++([105,102,32]:al5))++nN)++([32,123,10]:al5))++nL)++ah)++([125]:al5))++([32,101,108,115,101,32,123,10]:al5)).length+jJ.length))<|av (br (((((((((ah++([105,102,32]:al5))++nN)++([32,123,10]:al5))++nL)++ah)++([125]:al5))++([32,101,108,115,101,32,123,10]:al5))++jJ).length+ah.length))<|av (br ((((((((((ah++([105,102,32]:al5))++nN)++([32,123,10]:al5))++nL)++ah)++([125]:al5))++([32,101,108,115,101,32,123,10]:al5))++jJ)++ah).length+([125]:al5).length))<|zW n iy ja ((((((((((ah++([105,102,32]:al5))++nN)++([32,123,10]:al5))++nL)++ah)++([125]:al5))++([32,101,108,115,101,32,123,10]:al5))++jJ)++ah)++([125]:al5))) ( zW n iy ja ((((((ah++([105,102,32]:al5))++nN)++([32,123,10]:al5))++nL)++ah)++([125]:al5))))))))))
def ww:Nat→((List Stmt)→Int→Option al5)×(Stmt→Int→Option al5)
 | 0=>(λ_ _=>none,λ_ _=>none)
 |m+1=>(EU m ((ww m).1) ((ww m).2),EV m ((ww m).1) ((ww m).2))
def pJ:(List Stmt)→Int→Option al5:=(ww n).1
def wx:Stmt→Int→Option al5:=(ww n).2
def ML(n:Nat)(ty:Int):Option al5:=cond (decide (ty=1)) ( some ([105,110,116]:al5)) ( cond (decide (ty=2)) ( some ([115,116,114]:al5)) ( some ([98,111,111,108]:al5)))
def MM(p:be)(fl:al5):Option al5:=av (br (fl.length+([41,32,123,10]:al5).length))<|(pJ n p.Body 1).bind λf0=>av (br ((fl++([41,32,123,10]:al5)).length+f0.length))<|av (br (((fl++([41,32,123,10]:al5))++f0).length+([125,10]:al5).length))<|some (((fl++([41,32,123,10]:al5))++f0)++([125,10]:al5))
def MN(n:Nat)(aj:al5→Int→Option al5)(aT:Int)(p:be)(EW:al5):Option al5:=aj EW (al7 (aT+1))
def EX(aj:al5→Int→Option al5)(aT:Int)(p:be)(cO:al5):Option al5:=av (aN aT p.Params.length)<|av (br (cO.length+((al8 p.Params aT).Name).length))<|av (br ((cO++((al8 p.Params aT).Name)).length+([58,32]:al5).length))<|av (aN aT p.Params.length)<|(ML n ((al8 p.Params aT).fy)).bind λfi=>av (br (((cO++((al8 p.Params aT).Name))++([58,32]:al5)).length+fi.length))<|MN n aj aT p (((cO++((al8 p.Params aT).Name))++([58,32]:al5))++fi)
def MO(p:be)(aj:al5→Int→Option al5)(dg:al5)(aT:Int):Option al5:=cond (decide (aT<((p.Params.length:Nat):Int))) ( cond (decide (0<aT)) ( av (br (dg.length+([44,32]:al5).length))<|EX n aj aT p (dg++([44,32]:al5))) ( EX n aj aT p dg)) ( MM n p dg)
def zY(n:Nat)(p:be):Nat→al5→Int→Option al5
 | 0=>λ_ _=>none
 |m+1=>MO n p (zY n p m)
def tO(p:be):Option al5:=(EL n p).bind λah=>cond (!decide (ah=0)) ( some ([]:al5)) ( av (br (([112,114,111,99,32]:al5).length+p.Name.length))<|av (br ((([112,114,111,99,32]:al5)++p.Name).length+([40]:al5).length))<|zY n p n ((([112,114,111,99,32]:al5)++p.Name)++([40]:al5)) 0)
def MP(n:Nat)(l:List be):al9:=some (decide (((l.length:Nat):Int)≤16))
def EY(l:List be)(aj:Int→al9)(v6:Int):al9:=cond (decide (v6<((l.length:Nat):Int))) ( av (aN v6 l.length)<|(tO n (al8 l v6)).bind λc7=>av ((cond (decide (c7=([]:al5))) true (decide (16384<((c7.length:Nat):Int))))||(!(decide (0<v6))||aN (al7 (v6-1)) l.length))<|av ((cond (decide (c7=([]:al5))) true (decide (16384<((c7.length:Nat):Int))))||(!(decide (0<v6))||aN v6 l.length))<|cond (cond (cond (decide (c7=([]:al5))) true (decide (16384<((c7.length:Nat):Int)))) true (cond (decide (0<v6)) (!(Op.bytesLess ((al8 l (al7 (v6-1))).Name) ((al8 l v6).Name))) false)) ( some false) ( aj (al7 (v6+1)))) ( MP n l)
def wy(n:Nat)(l:List be):Nat→Int→al9
 | 0=>λ_=>none
 |m+1=>EY n l (wy n l m)
def EZ(l:List be):al9:=wy n l n 0
def MQ(n:Nat):al9:=some true
def E0(l:List al5)(aj:Int→al9)(v6:Int):al9:=cond (decide (v6<((l.length:Nat):Int))) ( av (aN v6 l.length)<|(wc n (al8 l v6)).bind λc7=>av ((!c7)||(!(decide (0<v6))||aN (al7 (v6-1)) l.length))<|av ((!c7)||(!(decide (0<v6))||aN v6 l.length))<|cond (cond (!c7) true (cond (decide (0<v6)) (!(Op.bytesLess (al8 l (al7 (v6-1))) (al8 l v6))) false)) ( some false) ( aj (al7 (v6+1)))) ( MQ n)
def wz(n:Nat)(l:List al5):Nat→Int→al9
 | 0=>λ_=>none
 |m+1=>E0 n l (wz n l m)
def zZ(l:List al5):al9:=wz n l n 0
def z1(f:eP):al9:=cond f.dI ( some (cond (decide (((f.Reads.length:Nat):Int)=0)) (decide (((f.b_.length:Nat):Int)=0)) false)) ( Option.bind (cond (cond (decide (((f.Reads.length:Nat):Int)≤64)) (decide (((f.b_.length:Nat):Int)≤64)) false) (zZ n f.Reads) (some default)) λao=>Option.bind (cond (cond (cond (decide (((f.Reads.length:Nat):Int)≤64)) (decide (((f.b_.length:Nat):Int)≤64)) false) ao false) (zZ n f.b_) (some default)) λaE=>some (cond (cond (cond (decide (((f.Reads.length:Nat):Int)≤64)) (decide (((f.b_.length:Nat):Int)≤64)) false) ao false) aE false))
def MR(ad:Request):al':=(z1 n ad.bi).bind λez=>cond (cond (cond (!ez) true ad.bi.dI) true (cond (!ad.dO) (decide (0<(al7 (((ad.bi.Reads.length:Nat):Int)+((ad.bi.b_.length:Nat):Int))))) false)) ( some 1) ( some 0)
def E1(ad:Request)(aj:Int→al')(v9:Int):al':=cond (decide (v9<((ad.au.length:Nat):Int))) ( av (aN v9 ad.au.length)<|(tH n (al8 ad.au v9)).bind λbX=>av ((!bX)||aN v9 ad.au.length)<|cond (cond (!bX) true (decide ((al8 ad.au v9).Kind=0))) ( some 1) ( aj (al7 (v9+1)))) ( MR n ad)
def tP(n:Nat)(ad:Request):Nat→Int→al'
 | 0=>λ_=>none
 |m+1=>E1 n ad (tP n ad m)
def pK(ad:Request):al':=cond (cond (cond (cond (decide (ad.Client<1)) true (decide (32<ad.Client))) true (decide (ad.Seq<1))) true (decide (1099511627776<ad.Seq))) ( some 1) ( (rE n ad.be).bind λao=>cond (!ao) ( some 7) ( cond (decide (6<((ad.au.length:Nat):Int))) ( some 2) ( tP n ad n 0)))
def MS(n:Nat)(l:List Request):al9:=some (decide (((l.length:Nat):Int)≤64))
def E2(l:List Request)(aj:Int→al9)(v4:Int):al9:=cond (decide (v4<((l.length:Nat):Int))) ( av (aN v4 l.length)<|(pK n (al8 l v4)).bind λbL=>cond (!decide (bL=0)) ( some false) ( aj (al7 (v4+1)))) ( MS n l)
def wA(n:Nat)(l:List Request):Nat→Int→al9
 | 0=>λ_=>none
 |m+1=>E2 n l (wA n l m)
def E3(l:List Request):al9:=wA n l n 0
def E4(ad:cb):al9:=Option.bind (cond (cond (decide (0≤ad.Pos)) (decide (ad.Pos≤1099511627776)) false) (wg n ad.aG) (some default)) λah=>Option.bind (cond (cond (cond (cond (decide (0≤ad.Pos)) (decide (ad.Pos≤1099511627776)) false) ah false) (decide (ad.aG.b0=ad.Pos)) false) (EZ n ad.cf) (some default)) λao=>Option.bind (cond (cond (cond (cond (cond (decide (0≤ad.Pos)) (decide (ad.Pos≤1099511627776)) false) ah false) (decide (ad.aG.b0=ad.Pos)) false) ao false) (tK n ad.cR) (some default)) λaE=>Option.bind (cond (cond (cond (cond (cond (cond (decide (0≤ad.Pos)) (decide (ad.Pos≤1099511627776)) false) ah false) (decide (ad.aG.b0=ad.Pos)) false) ao false) aE false) (Er n ad.Place) (some default)) λbp=>Option.bind (cond (cond (cond (cond (cond (cond (cond (decide (0≤ad.Pos)) (decide (ad.Pos≤1099511627776)) false) ah false) (decide (ad.aG.b0=ad.Pos)) false) ao false) aE false) bp false) (Et n ad.bj) (some default)) λbV=>Option.bind (cond (cond (cond (cond (cond (cond (cond (cond (decide (0≤ad.Pos)) (decide (ad.Pos≤1099511627776)) false) ah false) (decide (ad.aG.b0=ad.Pos)) false) ao false) aE false) bp false) bV false) (E3 n ad.Queue) (some default)) λbL=>some (cond (cond (cond (cond (cond (cond (cond (cond (decide (0≤ad.Pos)) (decide (ad.Pos≤1099511627776)) false) ah false) (decide (ad.aG.b0=ad.Pos)) false) ao false) aE false) bp false) bV false) bL false)
def E5(n:Nat)(er:Int):al':=cond (decide (er<0)) ( some (IntKind.u64.wrap ((IntKind.u64.wrap (2*(IntKind.u64.wrap (al7 (0-(al7 (er+1)))))))+1))) ( some (IntKind.u64.wrap (2*(IntKind.u64.wrap er))))
def MT(n:Nat)(v11:Int)(v12:al5):Option al5:=av (lj ([(IntKind.u8.wrap v11)]:List Int))<|av (br (v12.length+(hl ([(IntKind.u8.wrap v11)]:List Int)).length))<|some (v12++(hl ([(IntKind.u8.wrap v11)]:List Int)))
def MU(aj:Int→al5→Option al5)(v5:Int)(v6:al5):Option al5:=cond (decide (128≤v5)) ( av (lj ([(IntKind.u8.wrap ((IntKind.u8.wrap (Int.tmod v5 128))+128))]:List Int))<|av (br (v6.length+(hl ([(IntKind.u8.wrap ((IntKind.u8.wrap (Int.tmod v5 128))+128))]:List Int)).length))<|aj (IntKind.u64.wrap (Int.tdiv v5 128)) (v6++(hl ([(IntKind.u8.wrap ((IntKind.u8.wrap (Int.tmod v5 128))+128))]:List Int)))) ( MT n v5 v6)
def z6(n:Nat):Nat→Int→al5→Option al5
 | 0=>λ_ _=>none
 |m+1=>MU n (z6 n m)
def gW(u:Int):Option al5:=z6 n n u ([]:al5)
def pL(er:Int):Option al5:=(E5 n er).bind λah=>(gW n ah).bind λao=>some ao
def oI(s:al5):Option al5:=(gW n (IntKind.u64.wrap ((s.length:Nat):Int))).bind λah=>av (br (ah.length+s.length))<|some (ah++s)
def wB(v:bw):Option al5:=cond (decide (v.Kind=1)) ( (gW n 1).bind λao=>(pL n v.N).bind λaE=>av (br (ao.length+aE.length))<|some (ao++aE)) ( cond (decide (v.Kind=2)) ( (gW n 2).bind λbL=>(oI n v.S).bind λcT=>av (br (bL.length+cT.length))<|some (bL++cT)) ( (gW n 0).bind λcH=>some cH))
def MV(n:Nat)(v20:al5):Option al5:=some v20
def E6(l:List bE)(aj:al5→Int→Option al5)(v10:al5)(v11:Int):Option al5:=cond (decide (v11<((l.length:Nat):Int))) ( av (aN v11 l.length)<|(oI n ((al8 l v11).Key)).bind λdk=>av (br (v10.length+dk.length))<|av (aN v11 l.length)<|(wB n ((al8 l v11).b7)).bind λdW=>av (br ((v10++dk).length+dW.length))<|aj ((v10++dk)++dW) (al7 (v11+1))) ( MV n v10)
def wC(n:Nat)(l:List bE):Nat→al5→Int→Option al5
 | 0=>λ_ _=>none
 |m+1=>E6 n l (wC n l m)
def E7(l:List bE):Option al5:=(gW n (IntKind.u64.wrap ((l.length:Nat):Int))).bind λah=>wC n l n ah 0
def MW(n:Nat)(gO:Int)(v24:Int)(gH:al5):Option bw:=some (⟨gO,v24,gH⟩:bw)
def E8(n:Nat)(aj:Int→Int→al5→Int→Option bw)(at_:Int)(b9:Int)(ad:Row)(dg:Int)(aT:Int)(ch:al5):Option bw:=aj dg aT ch (al7 (b9+1))
def MX(at_:Int)(ad:Row)(aj:Int→Int→al5→Int→Option bw)(v10:Int)(v11:Int)(v12:al5)(b9:Int):Option bw:=cond (decide (b9<((ad.bl.length:Nat):Int))) ( av (aN b9 ad.bl.length)<|cond (decide ((al8 ad.bl b9).fe≤at_)) ( av (aN b9 ad.bl.length)<|E8 n aj at_ b9 ad (((al8 ad.bl b9).b7).Kind) (((al8 ad.bl b9).b7).N) (((al8 ad.bl b9).b7).S)) ( E8 n aj at_ b9 ad v10 v11 v12)) ( MW n v10 v11 v12)
def z7(n:Nat)(at_:Int)(ad:Row):Nat→Int→Int→al5→Int→Option bw
 | 0=>λ_ _ _ _=>none
 |m+1=>MX n at_ ad (z7 n at_ ad m)
def E9(ad:Row)(at_:Int):Option bw:=z7 n at_ ad n 0 0 ([]:al5) 0
def MY(n:Nat)(aT:List bE):Option (List bE):=some aT
def z8(n:Nat)(aj:(List bE)→Int→Option (List bE))(at_:Int)(v9:Int)(s:aG)(bu:List bE):Option (List bE):=aj bu (al7 (v9+1))
def MZ(at_:Int)(s:aG)(aj:(List bE)→Int→Option (List bE))(bn:List bE)(v9:Int):Option (List bE):=cond (decide (v9<((s.Rows.length:Nat):Int))) ( av (aN v9 s.Rows.length)<|(E9 n (al8 s.Rows v9) at_).bind λbX=>cond (!decide (bX.Kind=0)) ( av (aN v9 s.Rows.length)<|av (room (bn.length+([(⟨(al8 s.Rows v9).Key,bX⟩:bE)]:List bE).length) 48)<|z8 n aj at_ v9 s (bn++([(⟨(al8 s.Rows v9).Key,bX⟩:bE)]:List bE))) ( z8 n aj at_ v9 s bn)) ( MY n bn)
def wD(n:Nat)(at_:Int)(s:aG):Nat→(List bE)→Int→Option (List bE)
 | 0=>λ_ _=>none
 |m+1=>MZ n at_ s (wD n at_ s m)
def M0(s:aG)(at_:Int):Option (List bE):=wD n at_ s n ([]:List bE) 0
def z'(s:aG)(at_:Int):Option ((List bE)×Int):=(wg n s).bind λah=>cond (!ah) ( some (([]:List bE),1)) ( cond (cond (decide (at_<s.cq)) true (decide (s.b0<at_))) ( some (([]:List bE),15)) ( (M0 n s at_).bind λbp=>some (bp,0)))
def M1(n:Nat)(jH:al5):Option al5:=some jH
def E'(p:cd)(aj:al5→Int→Option al5)(aT:al5)(ch:Int):Option al5:=cond (decide (ch<((p.aD.length:Nat):Int))) ( av (aN ch p.aD.length)<|(pL n ((al8 p.aD ch).Id)).bind λdY=>av (br (aT.length+dY.length))<|(oI n ((al8 p.aD ch).dS)).bind λdn=>av (br ((aT++dY).length+dn.length))<|(pL n ((al8 p.aD ch).Node)).bind λfi=>av (br (((aT++dY)++dn).length+fi.length))<|(pL n ((al8 p.aD ch).ff)).bind λeU=>av (br ((((aT++dY)++dn)++fi).length+eU.length))<|(oI n ((al8 p.aD ch).gd)).bind λll=>av (br (((((aT++dY)++dn)++fi)++eU).length+ll.length))<|aj (((((aT++dY)++dn)++fi)++eU)++ll) (al7 (ch+1))) ( M1 n aT)
def wE(n:Nat)(p:cd):Nat→al5→Int→Option al5
 | 0=>λ_ _=>none
 |m+1=>E' n p (wE n p m)
def z_(p:cd):Option al5:=(pL n p.Version).bind λah=>(gW n (IntKind.u64.wrap ((p.aD.length:Nat):Int))).bind λao=>av (br (ah.length+ao.length))<|wE n p n (ah++ao) 0
def M3(n:Nat)(b:Bool):Option al5:=cond b ( some ([1]:al5)) ( some ([0]:al5))
def M4(n:Nat)(bu:al5):Option al5:=some bu
def E_(l:List al5)(aj:al5→Int→Option al5)(bm:al5)(bn:Int):Option al5:=cond (decide (bn<((l.length:Nat):Int))) ( av (aN bn l.length)<|(oI n (al8 l bn)).bind λdV=>av (br (bm.length+dV.length))<|aj (bm++dV) (al7 (bn+1))) ( M4 n bm)
def wF(n:Nat)(l:List al5):Nat→al5→Int→Option al5
 | 0=>λ_ _=>none
 |m+1=>E_ n l (wF n l m)
def Aa(l:List al5):Option al5:=(gW n (IntKind.u64.wrap ((l.length:Nat):Int))).bind λah=>wF n l n ah 0
def Ac(n:Nat)(fl:al5):Option al5:=some fl
def Ad(ad:Request)(cJ:al5):Option al5:=(M3 n ad.dO).bind λef=>av (br (cJ.length+ef.length))<|cond ad.dO ( (Aa n ad.bi.Reads).bind λeM=>av (br ((cJ++ef).length+eM.length))<|(Aa n ad.bi.b_).bind λdB=>av (br (((cJ++ef)++eM).length+dB.length))<|Ac n (((cJ++ef)++eM)++dB)) ( Ac n (cJ++ef))
def Fa(ad:Request)(ee:al5→Int→Option al5)(bA:al5)(dg:Int):Option al5:=cond (decide (dg<((ad.au.length:Nat):Int))) ( av (aN dg ad.au.length)<|(wB n (al8 ad.au dg)).bind λfu=>av (br (bA.length+fu.length))<|ee (bA++fu) (al7 (dg+1))) ( Ad n ad bA)
def wG(n:Nat)(ad:Request):Nat→al5→Int→Option al5
 | 0=>λ_ _=>none
 |m+1=>Fa n ad (wG n ad m)
def Fb(ad:Request):Option al5:=(pK n ad).bind λah=>cond (!decide (ah=0)) ( some ([]:al5)) ( (gW n (IntKind.u64.wrap ad.Client)).bind λaE=>(gW n (IntKind.u64.wrap ad.Seq)).bind λbp=>av (br (aE.length+bp.length))<|(oI n ad.be).bind λbL=>av (br ((aE++bp).length+bL.length))<|(gW n (IntKind.u64.wrap ((ad.au.length:Nat):Int))).bind λc7=>av (br (((aE++bp)++bL).length+c7.length))<|wG n ad n (((aE++bp)++bL)++c7) 0)
def M5(n:Nat)(cO:al5):Option al5:=some cO
def Fc(l:List Request)(aj:al5→Int→Option al5)(v10:al5)(v11:Int):Option al5:=cond (decide (v11<((l.length:Nat):Int))) ( av (aN v11 l.length)<|(pK n (al8 l v11)).bind λdk=>cond (!decide (dk=0)) ( some ([]:al5)) ( av (aN v11 l.length)<|(Fb n (al8 l v11)).bind λdv=>av (br (v10.length+dv.length))<|aj (v10++dv) (al7 (v11+1)))) ( M5 n v10)
def wH(n:Nat)(l:List Request):Nat→al5→Int→Option al5
 | 0=>λ_ _=>none
 |m+1=>Fc n l (wH n l m)
def wI(l:List Request):Option al5:=cond (decide (64<((l.length:Nat):Int))) ( some ([]:al5)) ( (gW n (IntKind.u64.wrap ((l.length:Nat):Int))).bind λao=>wH n l n ao 0)
def M6(n:Nat)(ch:al5):Option al5:=some ch
def Fd(o:Outcome)(aj:al5→Int→Option al5)(v11:al5)(v12:Int):Option al5:=cond (decide (v12<((o.Out.length:Nat):Int))) ( av (aN v12 o.Out.length)<|(wB n (al8 o.Out v12)).bind λez=>av (br (v11.length+ez.length))<|aj (v11++ez) (al7 (v12+1))) ( M6 n v11)
def wJ(n:Nat)(o:Outcome):Nat→al5→Int→Option al5
 | 0=>λ_ _=>none
 |m+1=>Fd n o (wJ n o m)
def Fe(o:Outcome):Option al5:=(gW n (IntKind.u64.wrap o.Status)).bind λah=>(gW n (IntKind.u64.wrap o.Code)).bind λao=>av (br (ah.length+ao.length))<|(gW n (IntKind.u64.wrap ((o.Out.length:Nat):Int))).bind λbp=>av (br ((ah++ao).length+bp.length))<|wJ n o n ((ah++ao)++bp) 0
def M7(n:Nat)(Ff:al5):Option al5:=some Ff
def M8(n:Nat)(aj:al5→Int→Option al5)(l:List bI)(v30:Int)(v53:al5):Option al5:=aj v53 (al7 (v30+1))
def Fg(aj:al5→Int→Option al5)(l:List bI)(v30:Int)(dx:al5→Int→Option al5)(oG:al5)(nI:Int):Option al5:=av (aN v30 l.length)<|cond (decide (nI<((((al8 l v30).bG).length:Nat):Int))) ( av (aN v30 l.length)<|av (aN nI ((al8 l v30).bG).length)<|(Fe n ((((al8 l v30).bG).getD (nI).toNat default).Outcome)).bind λnJ=>av (br (oG.length+nJ.length))<|dx (oG++nJ) (al7 (nI+1))) ( M8 n aj l v30 oG)
def tQ(n:Nat)(aj:al5→Int→Option al5)(l:List bI)(v30:Int):Nat→al5→Int→Option al5
 | 0=>λ_ _=>none
 |m+1=>Fg n aj l v30 (tQ n aj l v30 m)
def Fh(l:List bI)(aj:al5→Int→Option al5)(fl:al5)(v30:Int):Option al5:=cond (decide (v30<((l.length:Nat):Int))) ( av (aN v30 l.length)<|(gW n (IntKind.u64.wrap ((al8 l v30).Client))).bind λjo=>av (br (fl.length+jo.length))<|av (aN v30 l.length)<|(gW n (IntKind.u64.wrap ((al8 l v30).Next))).bind λiM=>av (br ((fl++jo).length+iM.length))<|tQ n aj l v30 n ((fl++jo)++iM) 0) ( M7 n fl)
def wK(n:Nat)(l:List bI):Nat→al5→Int→Option al5
 | 0=>λ_ _=>none
 |m+1=>Fh n l (wK n l m)
def Ae(l:List bI):Option al5:=(tK n l).bind λah=>cond (!ah) ( some ([]:al5)) ( (gW n (IntKind.u64.wrap ((l.length:Nat):Int))).bind λaE=>wK n l n aE 0)
def Af(ad:cb)(v46:al5):Option al5:=(wI n ad.Queue).bind λkE=>av (br (v46.length+kE.length))<|(gW n ad.dj).bind λnJ=>av (br ((v46++kE).length+nJ.length))<|some ((v46++kE)++nJ)
def Fj(ad:cb)(ee:al5→Int→Option al5)(nK:al5)(v37:Int):Option al5:=cond (decide (v37<((ad.bj.length:Nat):Int))) ( av (aN v37 ad.bj.length)<|(oI n ((al8 ad.bj v37).Key)).bind λoC=>av (aN v37 ad.bj.length)<|(pL n ((al8 ad.bj v37).Count)).bind λkc=>av (br (oC.length+kc.length))<|av (br (nK.length+(oC++kc).length))<|ee (nK++(oC++kc)) (al7 (v37+1))) ( Af n ad nK)
def wL(n:Nat)(ad:cb):Nat→al5→Int→Option al5
 | 0=>λ_ _=>none
 |m+1=>Fj n ad (wL n ad m)
def wM(ad:cb)(v21:al5):Option al5:=(Ae n ad.cR).bind λdn=>(z_ n ad.Place).bind λef=>av (br (dn.length+ef.length))<|(gW n (IntKind.u64.wrap ((ad.bj.length:Nat):Int))).bind λeM=>av (br ((dn++ef).length+eM.length))<|av (br (v21.length+((dn++ef)++eM).length))<|wL n ad n (v21++((dn++ef)++eM)) 0
def Fk(ad:cb)(dx:al5→Int→Option al5)(b9:al5)(bu:Int):Option al5:=cond (decide (bu<((ad.cf.length:Nat):Int))) ( av (aN bu ad.cf.length)<|(tO n (al8 ad.cf bu)).bind λdW=>(oI n dW).bind λet=>av (br (b9.length+et.length))<|dx (b9++et) (al7 (bu+1))) ( wM n ad b9)
def wN(n:Nat)(ad:cb):Nat→al5→Int→Option al5
 | 0=>λ_ _=>none
 |m+1=>Fk n ad (wN n ad m)
def Ag(ad:cb):Option al5:=(z' n ad.aG ad.Pos).bind λah=>(pL n ad.Pos).bind λao=>(E7 n ah.1).bind λaE=>av (br (ao.length+aE.length))<|(gW n (IntKind.u64.wrap ((ad.cf.length:Nat):Int))).bind λbV=>av (br ((ao++aE).length+bV.length))<|wN n ad n ((ao++aE)++bV) 0
def Fl(ad:cb):Option (al5×Int):=(E4 n ad).bind λah=>cond (!ah) ( some (([]:al5),1)) ( (Ag n ad).bind λaE=>cond (decide (16384<((aE.length:Nat):Int))) ( some (([]:al5),2)) ( some (aE,0)))
def Fm(n:Nat)(mr:Expr→Int→al')(v11:Int):al':=some v11
def Fn(mr:Expr→Int→al')(cE:Int)(e:Expr)(aj:Int→Int→al')(v5:Int)(v6:Int):al':=cond (cond (decide (v6<((e.au.length:Nat):Int))) (decide (v5≤cE)) false) ( av (aN v6 e.au.length)<|(mr (al8 e.au v6) (al7 (cE-v5))).bind λc7=>aj (al7 (v5+c7)) (al7 (v6+1))) ( Fm n mr v5)
def wO(n:Nat)(mr:Expr→Int→al')(cE:Int)(e:Expr):Nat→Int→Int→al'
 | 0=>λ_ _=>none
 |m+1=>Fn n mr cE e (wO n mr cE e m)
def Fo(mr:Expr→Int→al')(e:Expr)(cE:Int):al':=wO n mr cE e n (al7 (1+(al7 (Int.tdiv ((e.S.length:Nat):Int) 64)))) 0
def pM:Nat→Expr→Int→al'
 | 0=>λ_ _=>none
 |m+1=>Fo m (pM m)
def M9(n:Nat)(lU:(List Stmt)→Int→al')(gH:Int):al':=some gH
def M_(lU:(List Stmt)→Int→al')(l:List Stmt)(cE:Int)(aj:Int→Int→al')(v12:Int)(b9:Int):al':=cond (cond (decide (b9<((l.length:Nat):Int))) (decide (v12≤cE)) false) ( av (aN b9 l.length)<|av (aN b9 l.length)<|(pM n ((al8 l b9).A) (al7 (cE-(al7 ((al7 (v12+1))+(al7 (Int.tdiv ((((al8 l b9).Name).length:Nat):Int) 64))))))).bind λdW=>av (aN b9 l.length)<|(pM n ((al8 l b9).B) (al7 (cE-(al7 ((al7 ((al7 (v12+1))+(al7 (Int.tdiv ((((al8 l b9).Name).length:Nat):Int) 64))))+dW))))).bind λfu=>av (aN b9 l.length)<|(lU ((al8 l b9).Body) (al7 (cE-(al7 ((al7 ((al7 ((al7 (v12+1))+(al7 (Int.tdiv ((((al8 l b9).Name).length:Nat):Int) 64))))+dW))+fu))))).bind λdY=>av (aN b9 l.length)<|(lU ((al8 l b9).bN) (al7 (cE-(al7 ((al7 ((al7 ((al7 ((al7 (v12+1))+(al7 (Int.tdiv ((((al8 l b9).Name).length:Nat):Int) 64))))+dW))+fu))+dY))))).bind λdn=>aj (al7 ((al7 ((al7 ((al7 ((al7 ((al7 (v12+1))+(al7 (Int.tdiv ((((al8 l b9).Name).length:Nat):Int) 64))))+dW))+fu))+dY))+dn)) (al7 (b9+1))) ( M9 n lU v12)
def Ah(n:Nat)(lU:(List Stmt)→Int→al')(l:List Stmt)(cE:Int):Nat→Int→Int→al'
 | 0=>λ_ _=>none
 |m+1=>M_ n lU l cE (Ah n lU l cE m)
def Na(lU:(List Stmt)→Int→al')(l:List Stmt)(cE:Int):al':=Ah n lU l cE n 0 0
def wP:Nat→(List Stmt)→Int→al'
 | 0=>λ_ _=>none
 |m+1=>Na m (wP m)
def Nb(cE:Int)(p:be):al9:=(wP n p.Body cE).bind λcT=>some (decide (cT≤cE))
def Nc(cE:Int)(p:be)(aj:Int→al9)(v4:Int):al9:=cond (decide (v4<((p.Params.length:Nat):Int))) ( av (aN v4 p.Params.length)<|cond (decide (200<((((al8 p.Params v4).Name).length:Nat):Int))) ( some false) ( aj (al7 (v4+1)))) ( Nb n cE p)
def Ai(n:Nat)(cE:Int)(p:be):Nat→Int→al9
 | 0=>λ_=>none
 |m+1=>Nc n cE p (Ai n cE p m)
def Aj(p:be)(cE:Int):al9:=cond (cond (decide (40<((p.Params.length:Nat):Int))) true (decide (200<((p.Name.length:Nat):Int)))) ( some false) ( Ai n cE p n 0)
def Nd(n:Nat):al9:=some true
def Nf(n:Nat)(aj:Int→al9)(bu:Int)(s:aG):al9:=aj (al7 (bu+1))
def Fp(aj:Int→al9)(bu:Int)(s:aG)(dx:Int→al9)(v21:Int):al9:=av (aN bu s.Rows.length)<|cond (decide (v21<((((al8 s.Rows bu).bl).length:Nat):Int))) ( av (aN bu s.Rows.length)<|av (aN v21 ((al8 s.Rows bu).bl).length)<|cond (decide (200<(((((((al8 s.Rows bu).bl).getD (v21).toNat default).b7).S).length:Nat):Int))) ( some false) ( dx (al7 (v21+1)))) ( Nf n aj bu s)
def wQ(n:Nat)(aj:Int→al9)(bu:Int)(s:aG):Nat→Int→al9
 | 0=>λ_=>none
 |m+1=>Fp n aj bu s (wQ n aj bu s m)
def Fq(s:aG)(aj:Int→al9)(bu:Int):al9:=cond (decide (bu<((s.Rows.length:Nat):Int))) ( av (aN bu s.Rows.length)<|av ((decide (12<((((al8 s.Rows bu).bl).length:Nat):Int)))||aN bu s.Rows.length)<|cond (cond (decide (12<((((al8 s.Rows bu).bl).length:Nat):Int))) true (decide (200<((((al8 s.Rows bu).Key).length:Nat):Int)))) ( some false) ( wQ n aj bu s n 0)) ( Nd n)
def rI(n:Nat)(s:aG):Nat→Int→al9
 | 0=>λ_=>none
 |m+1=>Fq n s (rI n s m)
def Fr(s:aG)(rows:Int):al9:=cond (decide (rows<((s.Rows.length:Nat):Int))) ( some false) ( rI n s n 0)
def Ng(n:Nat):al9:=some true
def Fs(f:eP)(ee:Int→al9)(v9:Int):al9:=cond (decide (v9<((f.b_.length:Nat):Int))) ( av (aN v9 f.b_.length)<|cond (decide (100<(((al8 f.b_ v9).length:Nat):Int))) ( some false) ( ee (al7 (v9+1)))) ( Ng n)
def tR(n:Nat)(f:eP):Nat→Int→al9
 | 0=>λ_=>none
 |m+1=>Fs n f (tR n f m)
def Nh(f:eP):al9:=tR n f n 0
def Ft(f:eP)(dx:Int→al9)(v4:Int):al9:=cond (decide (v4<((f.Reads.length:Nat):Int))) ( av (aN v4 f.Reads.length)<|cond (decide (100<(((al8 f.Reads v4).length:Nat):Int))) ( some false) ( dx (al7 (v4+1)))) ( Nh n f)
def wR(n:Nat)(f:eP):Nat→Int→al9
 | 0=>λ_=>none
 |m+1=>Ft n f (wR n f m)
def tS(f:eP)(cE:Int):al9:=cond (cond (decide (cE<((f.Reads.length:Nat):Int))) true (decide (cE<((f.b_.length:Nat):Int)))) ( some false) ( wR n f n 0)
def Ni(n:Nat):al9:=some true
def Fu(ad:Request)(aj:Int→al9)(v5:Int):al9:=cond (decide (v5<((ad.au.length:Nat):Int))) ( av (aN v5 ad.au.length)<|cond (decide (300<((((al8 ad.au v5).S).length:Nat):Int))) ( some false) ( aj (al7 (v5+1)))) ( Ni n)
def wS(n:Nat)(ad:Request):Nat→Int→al9
 | 0=>λ_=>none
 |m+1=>Fu n ad (wS n ad m)
def Ak(ad:Request):al9:=Option.bind (cond (!(cond (decide (300<((ad.be.length:Nat):Int))) true (decide (40<((ad.au.length:Nat):Int))))) (tS n ad.bi 100) (some default)) λah=>cond (cond (cond (decide (300<((ad.be.length:Nat):Int))) true (decide (40<((ad.au.length:Nat):Int)))) true (!ah)) ( some false) ( wS n ad n 0)
def Fv(n:Nat)(gI:List bj)(p:cd):al9:=some (cond (decide (((p.aD.length:Nat):Int)≤20)) (decide (((gI.length:Nat):Int)≤40)) false)
def Fw(gI:List bj)(p:cd)(ee:Int→al9)(v10:Int):al9:=cond (cond (decide (v10<((gI.length:Nat):Int))) (decide (v10<41)) false) ( av (aN v10 gI.length)<|cond (decide (200<((((al8 gI v10).Key).length:Nat):Int))) ( some false) ( ee (al7 (v10+1)))) ( Fv n gI p)
def tT(n:Nat)(gI:List bj)(p:cd):Nat→Int→al9
 | 0=>λ_=>none
 |m+1=>Fw n gI p (tT n gI p m)
def Nj(gI:List bj)(p:cd):al9:=tT n gI p n 0
def Fx(gI:List bj)(p:cd)(dx:Int→al9)(v4:Int):al9:=cond (cond (decide (v4<((p.aD.length:Nat):Int))) (decide (v4<21)) false) ( av (aN v4 p.aD.length)<|av ((decide (200<((((al8 p.aD v4).dS).length:Nat):Int)))||aN v4 p.aD.length)<|cond (cond (decide (200<((((al8 p.aD v4).dS).length:Nat):Int))) true (decide (200<((((al8 p.aD v4).gd).length:Nat):Int)))) ( some false) ( dx (al7 (v4+1)))) ( Nj n gI p)
def wT(n:Nat)(gI:List bj)(p:cd):Nat→Int→al9
 | 0=>λ_=>none
 |m+1=>Fx n gI p (wT n gI p m)
def Al(p:cd)(gI:List bj):al9:=wT n gI p n 0
def Fy(n:Nat)(l:List bI):al9:=some (decide (((l.length:Nat):Int)≤6))
def Nk(n:Nat)(aj:Int→al9)(l:List bI)(cJ:Int):al9:=aj (al7 (cJ+1))
def Nl(n:Nat)(dx:Int→al9)(aj:Int→al9)(l:List bI)(cJ:Int)(gm:Int):al9:=dx (al7 (gm+1))
def Fz(dx:Int→al9)(aj:Int→al9)(l:List bI)(cJ:Int)(gm:Int)(pF:Int→al9)(ib:Int):al9:=cond (decide (ib<(((((((al8 l cJ).bG).getD (gm).toNat default).Outcome).Out).length:Nat):Int))) ( av (aN ib (((((al8 l cJ).bG).getD (gm).toNat default).Outcome).Out).length)<|cond (decide (200<(((((((((al8 l cJ).bG).getD (gm).toNat default).Outcome).Out).getD (ib).toNat default).S).length:Nat):Int))) ( some false) ( pF (al7 (ib+1)))) ( Nl n dx aj l cJ gm)
def wU(n:Nat)(dx:Int→al9)(aj:Int→al9)(l:List bI)(cJ:Int)(gm:Int):Nat→Int→al9
 | 0=>λ_=>none
 |m+1=>Fz n dx aj l cJ gm (wU n dx aj l cJ gm m)
def FA(aj:Int→al9)(l:List bI)(cJ:Int)(dx:Int→al9)(gm:Int):al9:=av (aN cJ l.length)<|cond (decide (gm<((((al8 l cJ).bG).length:Nat):Int))) ( av (aN cJ l.length)<|av (aN gm ((al8 l cJ).bG).length)<|cond (decide (20<(((((((al8 l cJ).bG).getD (gm).toNat default).Outcome).Out).length:Nat):Int))) ( some false) ( wU n dx aj l cJ gm n 0)) ( Nk n aj l cJ)
def rJ(n:Nat)(aj:Int→al9)(l:List bI)(cJ:Int):Nat→Int→al9
 | 0=>λ_=>none
 |m+1=>FA n aj l cJ (rJ n aj l cJ m)
def FB(l:List bI)(aj:Int→al9)(cJ:Int):al9:=cond (cond (decide (cJ<((l.length:Nat):Int))) (decide (cJ<7)) false) ( av (aN cJ l.length)<|cond (decide (12<((((al8 l cJ).bG).length:Nat):Int))) ( some false) ( rJ n aj l cJ n 0)) ( Fy n l)
def oJ(n:Nat)(l:List bI):Nat→Int→al9
 | 0=>λ_=>none
 |m+1=>FB n l (oJ n l m)
def Am(l:List bI):al9:=oJ n l n 0
def Nn(n:Nat):al9:=some true
def FC(ad:cb)(ee:Int→al9)(bA:Int):al9:=cond (decide (bA<((ad.Queue.length:Nat):Int))) ( av (aN bA ad.Queue.length)<|(Ak n (al8 ad.Queue bA)).bind λet=>cond (!et) ( some false) ( ee (al7 (bA+1)))) ( Nn n)
def tU(n:Nat)(ad:cb):Nat→Int→al9
 | 0=>λ_=>none
 |m+1=>FC n ad (tU n ad m)
def No(ad:cb):al9:=tU n ad n 0
def FD(ad:cb)(dx:Int→al9)(bn:Int):al9:=cond (decide (bn<((ad.cf.length:Nat):Int))) ( av (aN bn ad.cf.length)<|(Aj n (al8 ad.cf bn) 60).bind λdV=>cond (!dV) ( some false) ( dx (al7 (bn+1)))) ( No n ad)
def wV(n:Nat)(ad:cb):Nat→Int→al9
 | 0=>λ_=>none
 |m+1=>FD n ad (wV n ad m)
def An(ad:cb):al9:=(Fr n ad.aG 12).bind λah=>Option.bind (cond (!(cond (cond (!ah) true (decide (4<((ad.cf.length:Nat):Int)))) true (decide (6<((ad.Queue.length:Nat):Int))))) (Am n ad.cR) (some default)) λao=>Option.bind (cond (!(cond (cond (cond (!ah) true (decide (4<((ad.cf.length:Nat):Int)))) true (decide (6<((ad.Queue.length:Nat):Int)))) true (!ao))) (Al n ad.Place ad.bj) (some default)) λaE=>cond (cond (cond (cond (cond (!ah) true (decide (4<((ad.cf.length:Nat):Int)))) true (decide (6<((ad.Queue.length:Nat):Int)))) true (!ao)) true (!aE)) ( some false) ( wV n ad n 0)
def Np(ad:cb):al9:=(An n ad).bind λah=>cond (!ah) ( (Eg n).bind λaE=>some aE) ( (zo n ad).bind λbp=>(Fl n ad).bind λbV=>Option.bind (cond (cond (decide (bp.1=bV.1)) (decide (bp.2=bV.2)) false) (Eg n) (some default)) λbL=>some (cond (cond (decide (bp.1=bV.1)) (decide (bp.2=bV.2)) false) bL false))
end Go.Ab.Y

/- What each function computes, over plain data, with fuel. Printed by a program. -/
import Derived.Test.YtbncfepdlmnmiaaGreatDoorHand
set_option linter.all false
namespace Go.Ab.Y
open Go Go.Ab Go.Proofs
variable (n:Nat)
def CW(n:Nat)(c:Int):ahw:=some (cond (cond (cond (cond (cond (cond (decide (97≤c)) (decide (c≤122)) false) true (cond (decide (48≤c)) (decide (c≤57)) false)) true (decide (c=47))) true (decide (c=46))) true (decide (c=95))) true (decide (c=45)))
def CX(n:Nat):ahw:=some true
def yy(s:ahs)(ao:Int→ahw)(v5:Int):ahw:=cond (decide (v5<((s.length:Nat):Int))) ( av (aV v5 s.length)<|(CW n (((s.getD (v5).toNat 0).toNat:Nat):Int)).bind λcG=>cond (!cG) ( some false) ( ao (ahu (v5+1)))) ( CX n)
def sU(n:Nat)(s:ahs):Nat→Int→ahw
 | 0=>λ_=>none
 |m+1=>yy n s (sU n s m)
def yz(s:ahs):ahw:=cond (decide (24<((s.length:Nat):Int))) ( some false) ( sU n s n 0)
def rc(k:ahs):ahw:=Option.bind (cond (!(decide (k=([]:ahs)))) (yz n k) (some default)) λaf=>some (cond (!(decide (k=([]:ahs)))) af false)
def L4(n:Nat)(l:List ahs):ahw:=some (decide (((l.length:Nat):Int)≤64))
def L5(l:List ahs)(ao:Int→ahw)(v5:Int):ahw:=cond (decide (v5<((l.length:Nat):Int))) ( av (aV v5 l.length)<|(rc n (ahv l v5)).bind λcG=>av ((!cG)||(!(decide (0<v5))||aV (ahu (v5-1)) l.length))<|cond (cond (!cG) true (cond (decide (0<v5)) ((Op.bytesLess (ahv l v5) (ahv l (ahu (v5-1))))||(decide ((ahv l v5)=(ahv l (ahu (v5-1)))))) false)) ( some false) ( ao (ahu (v5+1)))) ( L4 n l)
def CY(n:Nat)(l:List ahs):Nat→Int→ahw
 | 0=>λ_=>none
 |m+1=>L5 n l (CY n l m)
def CZ(l:List ahs):ahw:=CY n l n 0
def L6(f:fV):ahw:=cond f.eX ( some (cond (decide (((f.Reads.length:Nat):Int)=0)) (decide (((f.dB.length:Nat):Int)=0)) false)) ( (CZ n f.Reads).bind λaq=>Option.bind (cond aq (CZ n f.dB) (some default)) λaB=>some (cond aq aB false))
def L7(n:Nat):ahw:=some false
def gR(v1:Bool):ahw:=cond v1 ( some true) ( L7 n)
def C0(s:ahs):ahw:=cond (decide (s=([112,114,111,99]:ahs))) ( gR n (decide (s=([112,114,111,99]:ahs)))) ( cond (decide (s=([108,101,116]:ahs))) ( gR n (decide (s=([108,101,116]:ahs)))) ( cond (decide (s=([112,117,116]:ahs))) ( gR n (decide (s=([112,117,116]:ahs)))) ( cond (decide (s=([100,101,108,101,116,101]:ahs))) ( gR n (decide (s=([100,101,108,101,116,101]:ahs)))) ( cond (decide (s=([105,102]:ahs))) ( gR n (decide (s=([105,102]:ahs)))) ( cond (decide (s=([101,108,115,101]:ahs))) ( gR n (decide (s=([101,108,115,101]:ahs)))) ( cond (decide (s=([102,111,114]:ahs))) ( gR n (decide (s=([102,111,114]:ahs)))) ( cond (decide (s=([116,111]:ahs))) ( gR n (decide (s=([116,111]:ahs)))) ( cond (decide (s=([109,97,120]:ahs))) ( gR n (decide (s=([109,97,120]:ahs)))) ( cond (decide (s=([101,109,105,116]:ahs))) ( gR n (decide (s=([101,109,105,116]:ahs)))) ( cond (decide (s=([97,98,111,114,116]:ahs))) ( gR n (decide (s=([97,98,111,114,116]:ahs)))) ( cond (decide (s=([110,111,116]:ahs))) ( gR n (decide (s=([110,111,116]:ahs)))) ( cond (decide (s=([97,110,100]:ahs))) ( gR n (decide (s=([97,110,100]:ahs)))) ( cond (decide (s=([111,114]:ahs))) ( gR n (decide (s=([111,114]:ahs)))) ( cond (decide (s=([105,110,116]:ahs))) ( gR n (decide (s=([105,110,116]:ahs)))) ( cond (decide (s=([115,116,114]:ahs))) ( gR n (decide (s=([115,116,114]:ahs)))) ( cond (decide (s=([98,111,111,108]:ahs))) ( gR n (decide (s=([98,111,111,108]:ahs)))) ( cond (decide (s=([116,101,120,116]:ahs))) ( gR n (decide (s=([116,101,120,116]:ahs)))) ( cond (decide (s=([108,101,110]:ahs))) ( gR n (decide (s=([108,101,110]:ahs)))) ( cond (decide (s=([103,101,116,105,110,116]:ahs))) ( gR n (decide (s=([103,101,116,105,110,116]:ahs)))) ( cond (decide (s=([103,101,116,115,116,114]:ahs))) ( gR n (decide (s=([103,101,116,115,116,114]:ahs)))) ( cond (decide (s=([104,97,115]:ahs))) ( gR n (decide (s=([104,97,115]:ahs)))) ( cond (decide (s=([110,111,119]:ahs))) ( gR n (decide (s=([110,111,119]:ahs)))) ( cond (decide (s=([114,97,110,100,111,109]:ahs))) ( gR n (decide (s=([114,97,110,100,111,109]:ahs)))) ( gR n (decide (s=([110,111,100,101]:ahs)))))))))))))))))))))))))))
def C1(n:Nat)(c:Int):ahw:=some (cond (decide (97≤c)) (decide (c≤122)) false)
def re(s:ahs):ahw:=av (!(cond (!(decide (s=([]:ahs)))) (decide (((s.length:Nat):Int)≤16)) false)||aV 0 s.length)<|Option.bind (cond (cond (!(decide (s=([]:ahs)))) (decide (((s.length:Nat):Int)≤16)) false) (C1 n (IntKind.i32.wrap (((s.getD 0 0).toNat:Nat):Int))) (some default)) λaq=>Option.bind (cond (cond (cond (!(decide (s=([]:ahs)))) (decide (((s.length:Nat):Int)≤16)) false) aq false) (yv n s) (some default)) λaB=>Option.bind (cond (cond (cond (cond (!(decide (s=([]:ahs)))) (decide (((s.length:Nat):Int)≤16)) false) aq false) (decide (aB=((s.length:Nat):Int))) false) (C0 n s) (some default)) λaD=>some (cond (cond (cond (cond (!(decide (s=([]:ahs)))) (decide (((s.length:Nat):Int)≤16)) false) aq false) (decide (aB=((s.length:Nat):Int))) false) (!aD) false)
def L8(n:Nat)(s:ahs):ahw:=some (decide (((s.length:Nat):Int)≤64))
def C2(s:ahs)(ao:Int→ahw)(v4:Int):ahw:=cond (decide (v4<((s.length:Nat):Int))) ( av (aV v4 s.length)<|av ((decide ((((s.getD (v4).toNat 0).toNat:Nat):Int)<32))||aV v4 s.length)<|cond (cond (decide ((((s.getD (v4).toNat 0).toNat:Nat):Int)<32)) true (decide (126<(((s.getD (v4).toNat 0).toNat:Nat):Int)))) ( some false) ( ao (ahu (v4+1)))) ( L8 n s)
def u7(n:Nat)(s:ahs):Nat→Int→ahw
 | 0=>λ_=>none
 |m+1=>C2 n s (u7 n s m)
def u9(s:ahs):ahw:=u7 n s n 0
def pK(v:bv):ahw:=cond (decide (v.Kind=0)) ( some ((decide (v.Kind=0))&&((decide (v.N=0))&&((decide (v.S=([]:ahs)))&&true)))) ( cond (decide (v.Kind=1)) ( some (decide (v.S=([]:ahs)))) ( cond (decide (v.Kind=2)) ( Option.bind (cond (decide (v.N=0)) (u9 n v.S) (some default)) λaD=>some (cond (decide (v.N=0)) aD false)) ( some false)))
def L9(v:bv):ahw:=Option.bind (cond (!(decide (v.Kind=0))) (pK n v) (some default)) λaf=>some (cond (decide (v.Kind=0)) true (!af))
def L'(n:Nat):ahx:=some (-1)
def L_(s:List bv)(ao:Int→ahx)(v4:Int):ahx:=cond (decide (v4<((s.length:Nat):Int))) ( av (aV v4 s.length)<|(L9 n (ahv s v4)).bind λbe=>cond be ( some v4) ( ao (ahu (v4+1)))) ( L' n)
def C3(n:Nat)(s:List bv):Nat→Int→ahx
 | 0=>λ_=>none
 |m+1=>L_ n s (C3 n s m)
def Ma(s:List bv):ahx:=C3 n s n 0
def Mb(s:List bv):ahw:=(Ma n s).bind λaf=>some (decide (0≤af))
def u'(ai:Request):ahx:=cond (cond (cond (cond (decide (ai.Client<1)) true (decide (32<ai.Client))) true (decide (ai.Seq<1))) true (decide (1099511627776<ai.Seq))) ( some 1) ( (re n ai.bh).bind λaq=>cond (!aq) ( some 7) ( cond (decide (6<((ai.aA.length:Nat):Int))) ( some 2) ( (Mb n ai.aA).bind λbE=>cond bE ( some 1) ( (L6 n ai.b9).bind λcG=>cond (cond (cond (!cG) true ai.b9.eX) true (cond (!ai.fM) (decide (0<(ahu (((ai.b9.Reads.length:Nat):Int)+((ai.b9.dB.length:Nat):Int))))) false)) ( some 1) ( some 0)))))
def C4(n:Nat)(b:List Int)(c:Int):Option (List Int):=av (room (b.length+([c]:List Int).length) 1)<|some (b++([c]:List Int))
def Mc(v9:Int)(v10:List Int):Option ahs:=(C4 n v10 (IntKind.u8.wrap v9)).bind λbT=>av (oK bT)<|some (jS bT)
def Md(ao:Int→(List Int)→Option ahs)(v4:Int)(v5:List Int):Option ahs:=cond (decide (128≤v4)) ( (C4 n v5 (r4 .u8 (IntKind.u8.wrap v4) 128)).bind λbe=>ao (r6 .u64 v4 7) be) ( Mc n v4 v5)
def C5(n:Nat):Nat→Int→(List Int)→Option ahs
 | 0=>λ_ _=>none
 |m+1=>Md n (C5 n m)
def hV(u:Int):Option ahs:=C5 n n u ([]:List Int)
def ne(s:ahs):Option ahs:=(hV n (IntKind.u64.wrap ((s.length:Nat):Int))).bind λaf=>av (bW (af.length+s.length))<|some (af++s)
def Me(n:Nat)(bL:ahs):Option ahs:=some bL
def Mf(l:List ahs)(ao:Int→ahs→Option ahs)(bp:Int)(bq:ahs):Option ahs:=cond (decide (bp<((l.length:Nat):Int))) ( av (aV bp l.length)<|(ne n (ahv l bp)).bind λd_=>av (bW (bq.length+d_.length))<|ao (ahu (bp+1)) (bq++d_)) ( Me n bq)
def C6(n:Nat)(l:List ahs):Nat→Int→ahs→Option ahs
 | 0=>λ_ _=>none
 |m+1=>Mf n l (C6 n l m)
def C7(l:List ahs):Option ahs:=(hV n (IntKind.u64.wrap ((l.length:Nat):Int))).bind λaf=>C6 n l n 0 af
def pL(ep:Int):Option ahs:=(hV n (tS .u64 (r5 .u64 (IntKind.u64.wrap ep) 1) (IntKind.u64.wrap (r6 .i64 ep 63)))).bind λaf=>some af
def yA(v:bv):Option ahs:=cond (decide (v.Kind=1)) ( (hV n 1).bind λaq=>(pL n v.N).bind λaB=>av (bW (aq.length+aB.length))<|some (aq++aB)) ( cond (decide (v.Kind=2)) ( (hV n 2).bind λbe=>(ne n v.S).bind λcG=>av (bW (be.length+cG.length))<|some (be++cG)) ( (hV n 0).bind λcC=>some cC))
def Mg(n:Nat)(b:Bool):Option ahs:=cond b ( some ([1]:ahs)) ( some ([0]:ahs))
def C8(n:Nat)(gh:ahs):Option ahs:=some gh
def Mh(ai:Request)(v22:ahs):Option ahs:=(Mg n ai.fM).bind λeL=>av (bW (v22.length+eL.length))<|cond ai.fM ( (C7 n ai.b9.Reads).bind λe5=>(C7 n ai.b9.dB).bind λe6=>av (bW (e5.length+e6.length))<|av (bW ((v22++eL).length+(e5++e6).length))<|C8 n ((v22++eL)++(e5++e6))) ( C8 n (v22++eL))
def Mi(ai:Request)(fE:ahs→Int→Option ahs)(bx:ahs)(c6:Int):Option ahs:=cond (decide (c6<((ai.aA.length:Nat):Int))) ( av (aV c6 ai.aA.length)<|(yA n (ahv ai.aA c6)).bind λf5=>av (bW (bx.length+f5.length))<|fE (bx++f5) (ahu (c6+1))) ( Mh n ai bx)
def C9(n:Nat)(ai:Request):Nat→ahs→Int→Option ahs
 | 0=>λ_ _=>none
 |m+1=>Mi n ai (C9 n ai m)
def Mj(ai:Request):Option ahs:=(u' n ai).bind λaf=>cond (!decide (af=0)) ( some ([]:ahs)) ( (hV n (IntKind.u64.wrap ai.Client)).bind λaB=>(hV n (IntKind.u64.wrap ai.Seq)).bind λaD=>av (bW (aB.length+aD.length))<|(ne n ai.bh).bind λbe=>av (bW ((aB++aD).length+be.length))<|(hV n (IntKind.u64.wrap ((ai.aA.length:Nat):Int))).bind λcq=>av (bW (((aB++aD)++be).length+cq.length))<|C9 n ai n (((aB++aD)++be)++cq) 0)
def Mk(n:Nat)(aX:ahs):Option ahs:=some aX
def Ml(l:List Request)(ao:Int→ahs→Option ahs)(v9:Int)(v10:ahs):Option ahs:=cond (decide (v9<((l.length:Nat):Int))) ( av (aV v9 l.length)<|(u' n (⟨(ahv l v9).Client,(ahv l v9).Seq,(ahv l v9).bh,(ahv l v9).aA,(ahv l v9).fM,⟨((ahv l v9).b9).eX,((ahv l v9).b9).Reads,((ahv l v9).b9).dB⟩⟩:Request)).bind λeW=>cond (!decide (eW=0)) ( some ([]:ahs)) ( (Mj n (⟨(ahv l v9).Client,(ahv l v9).Seq,(ahv l v9).bh,(ahv l v9).aA,(ahv l v9).fM,⟨((ahv l v9).b9).eX,((ahv l v9).b9).Reads,((ahv l v9).b9).dB⟩⟩:Request)).bind λdu=>av (bW (v10.length+du.length))<|ao (ahu (v9+1)) (v10++du))) ( Mk n v10)
def C'(n:Nat)(l:List Request):Nat→Int→ahs→Option ahs
 | 0=>λ_ _=>none
 |m+1=>Ml n l (C' n l m)
def Mm(l:List Request):Option ahs:=cond (decide (64<((l.length:Nat):Int))) ( some ([]:ahs)) ( (hV n (IntKind.u64.wrap ((l.length:Nat):Int))).bind λaq=>C' n l n 0 aq)
def C_(n:Nat):ahw:=some true
def yB(floor:Int)(last:Int)(ai:Row)(ao:Int→ahw)(bq:Int):ahw:=cond (decide (bq<((ai.bd.length:Nat):Int))) ( av (aV bq ai.bd.length)<|Option.bind (cond (!(cond (decide ((ahv ai.bd bq).b4<floor)) true (decide (last<(ahv ai.bd bq).b4)))) (pK n (⟨((ahv ai.bd bq).bk).Kind,((ahv ai.bd bq).bk).N,((ahv ai.bd bq).bk).S⟩:bv)) (some default)) λd_=>cond (cond (cond (decide ((ahv ai.bd bq).b4<floor)) true (decide (last<(ahv ai.bd bq).b4))) true (!d_)) ( some false) ( av (!(decide (0<bq))||aV (ahu (bq-1)) ai.bd.length)<|av (!(decide (0<bq))||((decide ((ahv ai.bd bq).b4≤(ahv ai.bd (ahu (bq-1))).b4))||aV (ahu (bq-1)) ai.bd.length))<|cond (cond (decide (0<bq)) (cond (decide ((ahv ai.bd bq).b4≤(ahv ai.bd (ahu (bq-1))).b4)) true ((decide (((ahv ai.bd bq).bk).Kind=((ahv ai.bd (ahu (bq-1))).bk).Kind))&&((decide (((ahv ai.bd bq).bk).N=((ahv ai.bd (ahu (bq-1))).bk).N))&&((decide (((ahv ai.bd bq).bk).S=((ahv ai.bd (ahu (bq-1))).bk).S))&&true)))) false) ( some false) ( ao (ahu (bq+1))))) ( C_ n)
def sV(n:Nat)(floor:Int)(last:Int)(ai:Row):Nat→Int→ahw
 | 0=>λ_=>none
 |m+1=>yB n floor last ai (sV n floor last ai m)
def yC(ai:Row)(floor:Int)(last:Int):ahw:=av ((decide (((ai.bd.length:Nat):Int)=0))||aV 0 ai.bd.length)<|cond (cond (decide (((ai.bd.length:Nat):Int)=0)) true (decide (((ai.bd.getD 0 default).bk).Kind=0))) ( some false) ( sV n floor last ai n 0)
def Da(n:Nat):ahw:=some true
def yD(s:ar)(ao:Int→ahw)(bp:Int):ahw:=cond (decide (bp<((s.Rows.length:Nat):Int))) ( av (aV bp s.Rows.length)<|(rc n ((ahv s.Rows bp).Key)).bind λcC=>av ((!cC)||(!(decide (0<bp))||aV (ahu (bp-1)) s.Rows.length))<|Option.bind (cond (!(cond (!cC) true (cond (decide (0<bp)) ((Op.bytesLess ((ahv s.Rows bp).Key) ((ahv s.Rows (ahu (bp-1))).Key))||(decide (((ahv s.Rows bp).Key)=((ahv s.Rows (ahu (bp-1))).Key)))) false))) (yC n (ahv s.Rows bp) s.bo s.bm) (some default)) λbT=>cond (cond (cond (!cC) true (cond (decide (0<bp)) ((Op.bytesLess ((ahv s.Rows bp).Key) ((ahv s.Rows (ahu (bp-1))).Key))||(decide (((ahv s.Rows bp).Key)=((ahv s.Rows (ahu (bp-1))).Key)))) false)) true (!bT)) ( some false) ( ao (ahu (bp+1)))) ( Da n)
def sW(n:Nat)(s:ar):Nat→Int→ahw
 | 0=>λ_=>none
 |m+1=>yD n s (sW n s m)
def sX(s:ar):ahw:=cond (cond (cond (decide (s.bo<0)) true (decide (s.bm<s.bo))) true (decide (1099511627776<s.bm))) ( some false) ( sW n s n 0)
def Db(n:Nat)(s:ar)(at_:Int):ahx:=cond (cond (decide (at_<s.bo)) true (decide (s.bm<at_))) ( some 15) ( some 0)
def Dc(n:Nat)(v6:Int):ahx:=some v6
def Dd(at_:Int)(ai:Row)(ao:Int→ahx)(v3:Int):ahx:=av (!(decide (v3<((ai.bd.length:Nat):Int)))||aV v3 ai.bd.length)<|cond (cond (decide (v3<((ai.bd.length:Nat):Int))) (decide ((ahv ai.bd v3).b4≤at_)) false) ( ao (ahu (v3+1))) ( Dc n v3)
def u_(n:Nat)(at_:Int)(ai:Row):Nat→Int→ahx
 | 0=>λ_=>none
 |m+1=>Dd n at_ ai (u_ n at_ ai m)
def De(ai:Row)(at_:Int):ahx:=u_ n at_ ai n 0
def yE(ai:Row)(at_:Int):Option bv:=(De n ai at_).bind λaf=>cond (decide (af=0)) ( some (⟨0,0,[]⟩:bv)) ( av (aV (ahu (af-1)) ai.bd.length)<|some (⟨((ahv ai.bd (ahu (af-1))).bk).Kind,((ahv ai.bd (ahu (af-1))).bk).N,((ahv ai.bd (ahu (af-1))).bk).S⟩:bv))
def Df(n:Nat)(cM:List aJ):Option ((List aJ)×Int):=some (cM,0)
def va(n:Nat)(ao:Int→(List aJ)→Option ((List aJ)×Int))(at_:Int)(s:ar)(v11:Int)(c6:List aJ):Option ((List aJ)×Int):=ao (ahu (v11+1)) c6
def Dg(at_:Int)(s:ar)(ao:Int→(List aJ)→Option ((List aJ)×Int))(v11:Int)(v12:List aJ):Option ((List aJ)×Int):=cond (decide (v11<((s.Rows.length:Nat):Int))) ( av (aV v11 s.Rows.length)<|(yE n (ahv s.Rows v11) at_).bind λer=>cond (!decide (er.Kind=0)) ( av (room (v12.length+([(⟨(ahv s.Rows v11).Key,er⟩:aJ)]:List aJ).length) 48)<|va n ao at_ s v11 (v12++([(⟨(ahv s.Rows v11).Key,er⟩:aJ)]:List aJ))) ( va n ao at_ s v11 v12)) ( Df n v12)
def vb(n:Nat)(at_:Int)(s:ar):Nat→Int→(List aJ)→Option ((List aJ)×Int)
 | 0=>λ_ _=>none
 |m+1=>Dg n at_ s (vb n at_ s m)
def vc(s:ar)(at_:Int):Option ((List aJ)×Int):=(sX n s).bind λaf=>cond (!af) ( some (([]:List aJ),1)) ( (Db n s at_).bind λaB=>cond (!decide (aB=0)) ( some (([]:List aJ),aB)) ( vb n at_ s n 0 ([]:List aJ)))
def Mn(n:Nat)(kz:ahs):Option ahs:=some kz
def Mo(p:cd)(ao:Int→ahs→Option ahs)(aX:Int)(cN:ahs):Option ahs:=cond (decide (aX<((p.a'.length:Nat):Int))) ( av (aV aX p.a'.length)<|(pL n ((ahv p.a' aX).Id)).bind λes=>(ne n ((ahv p.a' aX).ez)).bind λeU=>av (bW (es.length+eU.length))<|(pL n ((ahv p.a' aX).Node)).bind λeL=>av (bW ((es++eU).length+eL.length))<|(pL n ((ahv p.a' aX).gO)).bind λe5=>av (bW (((es++eU)++eL).length+e5.length))<|(ne n ((ahv p.a' aX).cY)).bind λdp=>av (bW ((((es++eU)++eL)++e5).length+dp.length))<|av (bW (cN.length+((((es++eU)++eL)++e5)++dp).length))<|ao (ahu (aX+1)) (cN++((((es++eU)++eL)++e5)++dp))) ( Mn n cN)
def Dh(n:Nat)(p:cd):Nat→Int→ahs→Option ahs
 | 0=>λ_ _=>none
 |m+1=>Mo n p (Dh n p m)
def Mp(p:cd):Option ahs:=(pL n p.Version).bind λaf=>(hV n (IntKind.u64.wrap ((p.a'.length:Nat):Int))).bind λaq=>av (bW (af.length+aq.length))<|Dh n p n 0 (af++aq)
def Mq(n:Nat)(y:Param)(ae:Param):ahw:=some (decide (y.Name=ae.Name))
def Mr(n:Nat)(ae:Param):ahx:=some (-1)
def Ms(s:List Param)(ae:Param)(ao:Int→ahx)(v4:Int):ahx:=cond (decide (v4<((s.length:Nat):Int))) ( av (aV v4 s.length)<|(Mq n (ahv s v4) ae).bind λbe=>cond be ( some v4) ( ao (ahu (v4+1)))) ( Mr n ae)
def Di(n:Nat)(s:List Param)(ae:Param):Nat→Int→ahx
 | 0=>λ_=>none
 |m+1=>Ms n s ae (Di n s ae m)
def Mt(s:List Param)(ae:Param):ahx:=Di n s ae n 0
def Mu(s:List Param)(ae:Param):ahw:=(Mt n s ae).bind λaf=>some (decide (0≤af))
def Mv(n:Nat):ahx:=some 0
def Mw(l:List Param)(ao:Int→ahx)(bp:Int):ahx:=cond (decide (bp<((l.length:Nat):Int))) ( av (aV bp l.length)<|(re n ((ahv l bp).Name)).bind λcC=>cond (!cC) ( some 7) ( cond (cond (decide ((ahv l bp).hU<1)) true (decide (3<(ahv l bp).hU))) ( some 10) ( av (gm bp l.length)<|(Mu n (l.take (bp).toNat) (ahv l bp)).bind λbT=>cond bT ( some 8) ( ao (ahu (bp+1)))))) ( Mv n)
def Dj(n:Nat)(l:List Param):Nat→Int→ahx
 | 0=>λ_=>none
 |m+1=>Mw n l (Dj n l m)
def Mx(l:List Param):ahx:=cond (decide (6<((l.length:Nat):Int))) ( some 2) ( Dj n l n 0)
def My(n:Nat)(op:Int):ahx:=cond (cond (decide (op<1)) true (decide (27<op))) ( some (-1)) ( cond (cond (decide (op≤3)) true (decide (25≤op))) ( some 0) ( cond (cond (cond (decide (op=9)) true (decide (op=18))) true (decide (20≤op))) ( some 1) ( some 2)))
def Dk(n:Nat)(s:ahs):ahw:=some (decide (((s.length:Nat):Int)≤64))
def Dl(s:ahs)(ao:Int→ahw)(v4:Int):ahw:=cond (decide (v4<((s.length:Nat):Int))) ( av (aV v4 s.length)<|av ((decide ((((s.getD (v4).toNat 0).toNat:Nat):Int)<32))||aV v4 s.length)<|cond (cond (decide ((((s.getD (v4).toNat 0).toNat:Nat):Int)<32)) true (decide (126<(((s.getD (v4).toNat 0).toNat:Nat):Int)))) ( some false) ( ao (ahu (v4+1)))) ( Dk n s)
def sY(n:Nat)(s:ahs):Nat→Int→ahw
 | 0=>λ_=>none
 |m+1=>Dl n s (sY n s m)
def Dm(s:ahs):ahw:=sY n s n 0
def Mz(e:Expr)(depth:Int):ahx:=(My n e.Op).bind λaf=>cond (cond (cond (decide (af<0)) true (cond (!decide (e.Op=1)) (!decide (e.N=0)) false)) true (cond (cond (!decide (e.Op=2)) (!decide (e.Op=3)) false) (!(decide (e.S=([]:ahs)))) false)) ( some 1) ( Option.bind (cond (decide (e.Op=3)) (re n e.S) (some default)) λaB=>cond (cond (decide (e.Op=3)) (!aB) false) ( some 7) ( Option.bind (cond ((!(cond (decide (e.Op=1)) (decide (e.N<0)) false))&&(decide (e.Op=2))) (Dm n e.S) (some default)) λbE=>cond (cond (cond (cond (decide (e.Op=1)) (decide (e.N<0)) false) true (cond (decide (e.Op=2)) (!bE) false)) true (!decide (((e.aA.length:Nat):Int)=af))) ( some 1) ( cond (decide (12<depth)) ( some 2) ( some 0))))
def MA(n:Nat)(kZ:Expr→Int→ahx):ahx:=some 0
def MB(kZ:Expr→Int→ahx)(depth:Int)(e:Expr)(ao:Int→ahx)(v6:Int):ahx:=cond (decide (v6<((e.aA.length:Nat):Int))) ( av (aV v6 e.aA.length)<|(kZ (ahv e.aA v6) (ahu (depth+1))).bind λcq=>cond (!decide (cq=0)) ( some cq) ( ao (ahu (v6+1)))) ( MA n kZ)
def Dn(n:Nat)(kZ:Expr→Int→ahx)(depth:Int)(e:Expr):Nat→Int→ahx
 | 0=>λ_=>none
 |m+1=>MB n kZ depth e (Dn n kZ depth e m)
def MC(kZ:Expr→Int→ahx)(e:Expr)(depth:Int):ahx:=(Mz n e depth).bind λaf=>cond (!decide (af=0)) ( some af) ( Dn n kZ depth e n 0)
def Do:Nat→Expr→Int→ahx
 | 0=>λ_ _=>none
 |m+1=>MC m (Do m)
def Dp(e:Expr):ahx:=(Do n e 1).bind λaf=>some af
def yF(n:Nat)(e:Expr):ahw:=some (cond (cond (cond (decide (e.Op=0)) (decide (e.N=0)) false) (decide (e.S=([]:ahs))) false) (decide (((e.aA.length:Nat):Int)=0)) false)
def MD(s:Stmt)(u:jw):ahw:=Option.bind (cond ((!(cond (!u.name) (!(decide (s.Name=([]:ahs)))) false))&&(!u.a)) (yF n (⟨s.A.Op,s.A.N,s.A.S,s.A.aA⟩:Expr)) (some default)) λaf=>Option.bind (cond ((!(cond (cond (!u.name) (!(decide (s.Name=([]:ahs)))) false) true (cond (!u.a) (!af) false)))&&(!u.b)) (yF n (⟨s.B.Op,s.B.N,s.B.S,s.B.aA⟩:Expr)) (some default)) λaq=>cond (cond (cond (cond (cond (cond (cond (!u.name) (!(decide (s.Name=([]:ahs)))) false) true (cond (!u.a) (!af) false)) true (cond (!u.b) (!aq) false)) true (cond (!u.max) (!decide (s.Max=0)) false)) true (cond (!u.body) (decide (0<((s.Body.length:Nat):Int))) false)) true (cond (!u.other) (decide (0<((s.da.length:Nat):Int))) false)) ( some false) ( cond (decide (s.Op=6)) ( some (cond (decide (1≤s.Max)) (decide (s.Max≤16)) false)) ( cond (decide (s.Op=8)) ( some (cond (decide (0≤s.Max)) (decide (s.Max≤999)) false)) ( some true)))
def ME(n:Nat):Option (jw×Bool):=some ((⟨false,false,false,false,false,false⟩:jw),false)
def Dq(op:Int)(v2:Bool):Option (jw×Bool):=cond v2 ( some ((⟨false,true,false,false,false,false⟩:jw),true)) ( cond (decide (op=5)) ( some ((⟨false,true,false,false,true,true⟩:jw),true)) ( cond (decide (op=6)) ( some ((⟨true,true,true,true,true,false⟩:jw),true)) ( cond (decide (op=8)) ( some ((⟨false,false,false,true,false,false⟩:jw),true)) ( ME n))))
def Dr(op:Int)(v1:Bool):Option (jw×Bool):=cond v1 ( some ((⟨true,true,false,false,false,false⟩:jw),true)) ( cond (decide (op=3)) ( some ((⟨false,true,true,false,false,false⟩:jw),true)) ( cond (decide (op=4)) ( Dq n op (decide (op=4))) ( Dq n op (decide (op=7)))))
def MF(op:Int):Option (jw×Bool):=cond (decide (op=1)) ( Dr n op (decide (op=1))) ( Dr n op (decide (op=2)))
def Ds(n:Nat)(depth:Int):ahx:=cond (decide (12<depth)) ( some 2) ( some 0)
def Dt(depth:Int)(s:Stmt)(af:jw×Bool):ahx:=cond af.1.b ( (Dp n (⟨s.B.Op,s.B.N,s.B.S,s.B.aA⟩:Expr)).bind λcG=>cond (!decide (cG=0)) ( some cG) ( Ds n depth)) ( Ds n depth)
def MG(s:Stmt)(depth:Int):ahx:=(MF n s.Op).bind λaf=>Option.bind (cond (!(!af.2)) (MD n (⟨s.Op,s.Name,s.Max,⟨s.A.Op,s.A.N,s.A.S,s.A.aA⟩,⟨s.B.Op,s.B.N,s.B.S,s.B.aA⟩,s.Body,s.da⟩:Stmt) af.1) (some default)) λaq=>cond (cond (!af.2) true (!aq)) ( some 1) ( Option.bind (cond af.1.name (re n s.Name) (some default)) λaD=>cond (cond af.1.name (!aD) false) ( some 7) ( cond af.1.a ( (Dp n (⟨s.A.Op,s.A.N,s.A.S,s.A.aA⟩:Expr)).bind λbe=>cond (!decide (be=0)) ( some be) ( Dt n depth s af)) ( Dt n depth s af)))
def MH(s:Stmt)(depth:Int)(ae:Int):ahx:=cond (decide (ae=0)) ( (MG n (⟨s.Op,s.Name,s.Max,⟨s.A.Op,s.A.N,s.A.S,s.A.aA⟩,⟨s.B.Op,s.B.N,s.B.S,s.B.aA⟩,s.Body,s.da⟩:Stmt) depth).bind λaq=>some aq) ( some ae)
def MI(n:Nat)(a0:Expr):Option Unit:=some ()
def MJ(n:Nat)(nf:Expr→Int→Int→ahx)(e:Expr)(e7:Int)(ed:Int→Int→ahx)(v6:Int)(bp:Int):ahx:=cond (decide (bp<((e.aA.length:Nat):Int))) ( av (aV bp e.aA.length)<|(nf (ahv e.aA bp) v6 e7).bind λcC=>ed cC (ahu (bp+1))) ( some v6)
def Du(n:Nat)(nf:Expr→Int→Int→ahx)(e:Expr)(e7:Int):Nat→Int→Int→ahx
 | 0=>λ_ _=>none
 |m+1=>MJ n nf e e7 (Du n nf e e7 m)
def MK(nf:Expr→Int→Int→ahx)(e:Expr)(hW:Int)(e7:Int):ahx:=cond (decide (hW=0)) ( some hW) ( Du n nf e e7 n (ahu (hW-1)) 0)
def Dv:Nat→Expr→Int→Int→ahx
 | 0=>λ_ _ _=>none
 |m+1=>MK m (Dv m)
def Dw(e:Expr)(hW:Int)(e7:Int):ahx:=Option.bind (cond (!(decide (hW=0))) (yF n e) (some default)) λaf=>cond (cond (decide (hW=0)) true af) ( some hW) ( (MI n e).bind λaB=>(Dv n e hW e7).bind λaD=>some aD)
def ML(mD:(List Stmt)→Int→Int→Int→Option (Int×Int))(depth:Int)(l:List Stmt)(ed:Int→Int→Int→Option (Int×Int))(v10:Int)(v11:Int)(v12:Int):Option (Int×Int):=cond (decide (v12<((l.length:Nat):Int))) ( av (aV v12 l.length)<|cond (decide (v10=0)) ( some (v10,v11)) ( (MH n (⟨(ahv l v12).Op,(ahv l v12).Name,(ahv l v12).Max,⟨((ahv l v12).A).Op,((ahv l v12).A).N,((ahv l v12).A).S,((ahv l v12).A).aA⟩,⟨((ahv l v12).B).Op,((ahv l v12).B).N,((ahv l v12).B).S,((ahv l v12).B).aA⟩,(ahv l v12).Body,(ahv l v12).da⟩:Stmt) depth v11).bind λer=>(Dw n (⟨((ahv l v12).A).Op,((ahv l v12).A).N,((ahv l v12).A).S,((ahv l v12).A).aA⟩:Expr) (ahu (v10-1)) er).bind λdv=>(Dw n (⟨((ahv l v12).B).Op,((ahv l v12).B).N,((ahv l v12).B).S,((ahv l v12).B).aA⟩:Expr) dv er).bind λdL=>(mD ((ahv l v12).Body) (ahu (depth+1)) dL er).bind λeM=>(mD ((ahv l v12).da) (ahu (depth+1)) eM.1 eM.2).bind λf5=>ed f5.1 f5.2 (ahu (v12+1)))) ( some (v10,v11))
def Dx(n:Nat)(mD:(List Stmt)→Int→Int→Int→Option (Int×Int))(depth:Int)(l:List Stmt):Nat→Int→Int→Int→Option (Int×Int)
 | 0=>λ_ _ _=>none
 |m+1=>ML n mD depth l (Dx n mD depth l m)
def MM(mD:(List Stmt)→Int→Int→Int→Option (Int×Int))(l:List Stmt)(depth:Int)(hW:Int)(e7:Int):Option (Int×Int):=Dx n mD depth l n hW e7 0
def Dy:Nat→(List Stmt)→Int→Int→Int→Option (Int×Int)
 | 0=>λ_ _ _ _=>none
 |m+1=>MM m (Dy m)
def MN(p:bh)(ae:Int):Option (Int×Int):=(Dy n p.Body 1 401 ae).bind λaf=>some ((ahu (401-af.1)),af.2)
def Dz(p:bh):ahx:=(re n p.Name).bind λaf=>cond (!af) ( some 7) ( (Mx n p.Params).bind λaB=>cond (!decide (aB=0)) ( some aB) ( (MN n p aB).bind λbE=>cond (cond (decide (bE.2=0)) (decide (400<bE.1)) false) ( some 2) ( some bE.2)))
def yG(n:Nat)(ty:Int):Option ahs:=cond (decide (ty=1)) ( some ([105,110,116]:ahs)) ( cond (decide (ty=2)) ( some ([115,116,114]:ahs)) ( some ([98,111,111,108]:ahs)))
def MO(n:Nat)(op:Int):Option (Unit ⊕ Unit ⊕ Unit ⊕ Unit ⊕ Unit ⊕ Unit ⊕ Unit ⊕ Unit):=cond (decide (op=1)) ( some (.inl ())) ( cond (decide (op=2)) ( some (.inr (.inl ()))) ( cond (decide (op=3)) ( some (.inr (.inr (.inl ())))) ( cond (decide (op=4)) ( some (.inr (.inr (.inr (.inl ()))))) ( cond (decide (op=5)) ( some (.inr (.inr (.inr (.inr (.inl ())))))) ( cond (decide (op=6)) ( some (.inr (.inr (.inr (.inr (.inr (.inl ()))))))) ( cond (decide (op=7)) ( some (.inr (.inr (.inr (.inr (.inr (.inr (.inl ())))))))) ( some (.inr (.inr (.inr (.inr (.inr (.inr (.inr ()))))))))))))))
def yH(ep:Int):Option ahs:=(CS n ep 10).bind λaf=>some af
def yI(n:Nat)(bU:List Int)(b3:Int):Option Unit:=some ()
def MP(c:Int)(bU:List Int)(b3:Int):Option (List Int):=(yI n bU b3).bind λaf=>av (room (bU.length+([c]:List Int).length) 1)<|some (bU++([c]:List Int))
def DA(s:ahs)(bU:List Int)(b3:Int):Option (Int×(List Int)):=(yI n bU b3).bind λaf=>av (room (bU.length+s.length) 1)<|some (((s.length:Nat):Int),(bU++s.map λb=>(b.toNat:Int)))
def MQ(b3:Int)(v20:List Int):Option (List Int):=(MP n 10 v20 b3).bind λeU=>some eU
def MR(parts:List ahs)(b3:Int)(fE:(List Int)→Int→Option (List Int))(bL:List Int)(bx:Int):Option (List Int):=cond (decide (bx<((parts.length:Nat):Int))) ( av (aV bx parts.length)<|(DA n (ahv parts bx) bL b3).bind λeM=>fE eM.2 (ahu (bx+1))) ( MQ n b3 bL)
def DB(n:Nat)(parts:List ahs)(b3:Int):Nat→(List Int)→Int→Option (List Int)
 | 0=>λ_ _=>none
 |m+1=>MR n parts b3 (DB n parts b3 m)
def MS(parts:List ahs)(b3:Int)(v9:List Int):Option (List Int):=DB n parts b3 n v9 0
def MT(parts:List ahs)(b3:Int)(eC:(List Int)→Int→Option (List Int))(v4:List Int)(v5:Int):Option (List Int):=cond (decide (v5<b3)) ( (DA n ([32,32,32,32]:ahs) v4 b3).bind λbe=>eC be.2 (ahu (v5+1))) ( MS n parts b3 v4)
def DC(n:Nat)(parts:List ahs)(b3:Int):Nat→(List Int)→Int→Option (List Int)
 | 0=>λ_ _=>none
 |m+1=>MT n parts b3 (DC n parts b3 m)
def k0(parts:List ahs)(bU:List Int)(b3:Int):Option (List Int):=DC n parts b3 n bU 0
def MU(s:Stmt)(bU:List Int)(b3:Int):Option (List Int):=(yH n s.Max).bind λaf=>(k0 n ([([97,98,111,114,116,32]:ahs),af,([59]:ahs)]:List ahs) bU b3).bind λaq=>some aq
def MV(n:Nat):ahw:=some true
def MW(s:ahs)(ao:Int→ahw)(v4:Int):ahw:=cond (decide (v4<((s.length:Nat):Int))) ( av (aV v4 s.length)<|av ((decide ((((s.getD (v4).toNat 0).toNat:Nat):Int)<32))||aV v4 s.length)<|cond (cond (decide ((((s.getD (v4).toNat 0).toNat:Nat):Int)<32)) true (decide (126<(((s.getD (v4).toNat 0).toNat:Nat):Int)))) ( some false) ( ao (ahu (v4+1)))) ( MV n)
def DD(n:Nat)(s:ahs):Nat→Int→ahw
 | 0=>λ_=>none
 |m+1=>MW n s (DD n s m)
def MX(s:ahs):ahw:=DD n s n 0
def rf(n:Nat)(bU:List Int):Option (ahs×(List Int)):=av (oK bU&&decide (bU.length≤9223372036854775807))<|some (jS bU,bU)
def yJ(n:Nat)(bU:List Int):Option Unit:=some ()
def vd(c:Int)(bU:List Int):Option (List Int):=(yJ n bU).bind λaf=>av (room (bU.length+([c]:List Int).length) 1)<|some (bU++([c]:List Int))
def MY(v25:List Int):Option (ahs×Int):=(vd n 34 v25).bind λe6=>(rf n e6).bind λdp=>some (dp.1,0)
def MZ(n:Nat)(ao:(List Int)→Int→Option (ahs×Int))(s:ahs)(bx:Int)(v22:List Int):Option (ahs×Int):=ao v22 (ahu (bx+1))
def DE(ao:(List Int)→Int→Option (ahs×Int))(s:ahs)(bx:Int)(cM:List Int):Option (ahs×Int):=av (aV bx s.length)<|(vd n (((s.getD (bx).toNat 0).toNat:Nat):Int) cM).bind λeU=>MZ n ao s bx eU
def M0(s:ahs)(ao:(List Int)→Int→Option (ahs×Int))(bL:List Int)(bx:Int):Option (ahs×Int):=cond (decide (bx<((s.length:Nat):Int))) ( av (aV bx s.length)<|av ((decide ((((s.getD (bx).toNat 0).toNat:Nat):Int)=34))||aV bx s.length)<|cond (cond (decide ((((s.getD (bx).toNat 0).toNat:Nat):Int)=34)) true (decide ((((s.getD (bx).toNat 0).toNat:Nat):Int)=92))) ( (vd n 92 bL).bind λf5=>DE n ao s bx f5) ( DE n ao s bx bL)) ( MY n bL)
def DF(n:Nat)(s:ahs):Nat→(List Int)→Int→Option (ahs×Int)
 | 0=>λ_ _=>none
 |m+1=>M0 n s (DF n s m)
def M1(s:ahs):Option (ahs×Int):=cond (decide (64<((s.length:Nat):Int))) ( some (([]:ahs),2)) ( (MX n s).bind λaq=>cond (!aq) ( some (([]:ahs),1)) ( (vd n 34 ([]:List Int)).bind λaD=>DF n s n aD 0))
def M3(n:Nat):ahx:=some 9
def yK(op:Int)(v3:Bool):ahx:=cond v3 ( some 7) ( cond (decide (op=9)) ( some 8) ( M3 n))
def DG(op:Int)(v2:Bool):ahx:=cond v2 ( some 6) ( cond (decide (op=6)) ( yK n op (decide (op=6))) ( cond (decide (op=7)) ( yK n op (decide (op=7))) ( yK n op (decide (op=8)))))
def rh(op:Int)(v1:Bool):ahx:=cond v1 ( some 4) ( cond (decide (op=19)) ( some 5) ( cond (decide (op=4)) ( DG n op (decide (op=4))) ( DG n op (decide (op=5)))))
def DH(op:Int):ahx:=cond (decide (op=17)) ( some 1) ( cond (decide (op=16)) ( some 2) ( cond (decide (op=18)) ( some 3) ( cond (decide (op=10)) ( rh n op (decide (op=10))) ( cond (decide (op=11)) ( rh n op (decide (op=11))) ( cond (decide (op=12)) ( rh n op (decide (op=12))) ( cond (decide (op=13)) ( rh n op (decide (op=13))) ( cond (decide (op=14)) ( rh n op (decide (op=14))) ( rh n op (decide (op=15))))))))))
def DI(n:Nat)(op:Int):Option ahs:=cond (decide (op=17)) ( some ([111,114]:ahs)) ( cond (decide (op=16)) ( some ([97,110,100]:ahs)) ( cond (decide (op=10)) ( some ([61,61]:ahs)) ( cond (decide (op=11)) ( some ([33,61]:ahs)) ( cond (decide (op=12)) ( some ([60]:ahs)) ( cond (decide (op=13)) ( some ([60,61]:ahs)) ( cond (decide (op=14)) ( some ([62]:ahs)) ( cond (decide (op=15)) ( some ([62,61]:ahs)) ( cond (decide (op=19)) ( some ([43,43]:ahs)) ( cond (decide (op=4)) ( some ([43]:ahs)) ( cond (decide (op=5)) ( some ([45]:ahs)) ( cond (decide (op=6)) ( some ([42]:ahs)) ( cond (decide (op=7)) ( some ([47]:ahs)) ( some ([37]:ahs))))))))))))))
def DJ(n:Nat)(op:Int):Option ahs:=cond (decide (op=20)) ( some ([116,101,120,116]:ahs)) ( cond (decide (op=21)) ( some ([108,101,110]:ahs)) ( cond (decide (op=22)) ( some ([103,101,116,105,110,116]:ahs)) ( cond (decide (op=23)) ( some ([103,101,116,115,116,114]:ahs)) ( cond (decide (op=24)) ( some ([104,97,115]:ahs)) ( cond (decide (op=25)) ( some ([110,111,119]:ahs)) ( cond (decide (op=26)) ( some ([114,97,110,100,111,109]:ahs)) ( cond (decide (op=27)) ( some ([110,111,100,101]:ahs)) ( some ([]:ahs)))))))))
def M4(n3:Expr→Option ahs)(lS:Expr→Int→Option ahs)(e:Expr):Option ahs:=(DH n e.Op).bind λaf=>cond (decide (e.Op=1)) ( (yH n e.N).bind λaB=>some aB) ( cond (decide (e.Op=2)) ( (M1 n e.S).bind λbE=>some bE.1) ( cond (decide (e.Op=3)) ( some e.S) ( cond (decide (e.Op=18)) ( av (aV 0 e.aA.length)<|(lS (e.aA.getD 0 default) af).bind λcC=>av (bW (([110,111,116,32]:ahs).length+cC.length))<|some (([110,111,116,32]:ahs)++cC)) ( cond (decide (e.Op=9)) ( av (aV 0 e.aA.length)<|(lS (e.aA.getD 0 default) af).bind λdu=>av (bW (([45]:ahs).length+du.length))<|some (([45]:ahs)++du)) ( cond (cond (decide (af=9)) (decide (((e.aA.length:Nat):Int)=0)) false) ( (DJ n e.Op).bind λdL=>av (bW (dL.length+([40,41]:ahs).length))<|some (dL++([40,41]:ahs))) ( cond (decide (af=9)) ( (DJ n e.Op).bind λeE=>av (bW (eE.length+([40]:ahs).length))<|av (aV 0 e.aA.length)<|(n3 (e.aA.getD 0 default)).bind λea=>av (bW ((eE++([40]:ahs)).length+ea.length))<|av (bW (((eE++([40]:ahs))++ea).length+([41]:ahs).length))<|some (((eE++([40]:ahs))++ea)++([41]:ahs))) ( cond (decide (af=4)) ( av (aV 0 e.aA.length)<|(lS (e.aA.getD 0 default) 5).bind λdp=>av (bW (dp.length+([32]:ahs).length))<|(DI n e.Op).bind λe8=>av (bW ((dp++([32]:ahs)).length+e8.length))<|av (bW (((dp++([32]:ahs))++e8).length+([32]:ahs).length))<|av (aV 1 e.aA.length)<|(lS (e.aA.getD 1 default) 5).bind λmE=>av (bW ((((dp++([32]:ahs))++e8)++([32]:ahs)).length+mE.length))<|some ((((dp++([32]:ahs))++e8)++([32]:ahs))++mE)) ( av (aV 0 e.aA.length)<|(lS (e.aA.getD 0 default) af).bind λlT=>av (bW (lT.length+([32]:ahs).length))<|(DI n e.Op).bind λng=>av (bW ((lT++([32]:ahs)).length+ng.length))<|av (bW (((lT++([32]:ahs))++ng).length+([32]:ahs).length))<|av (aV 1 e.aA.length)<|(lS (e.aA.getD 1 default) (ahu (af+1))).bind λgi=>av (bW ((((lT++([32]:ahs))++ng)++([32]:ahs)).length+gi.length))<|some ((((lT++([32]:ahs))++ng)++([32]:ahs))++gi)))))))))
def M5(n3:Expr→Option ahs)(lS:Expr→Int→Option ahs)(e:Expr)(least:Int):Option ahs:=(DH n e.Op).bind λaf=>cond (decide (af<least)) ( (n3 e).bind λaB=>av (bW (([40]:ahs).length+aB.length))<|av (bW ((([40]:ahs)++aB).length+([41]:ahs).length))<|some ((([40]:ahs)++aB)++([41]:ahs))) ( (n3 e).bind λbe=>some be)
def sZ:Nat→(Expr→Option ahs)×(Expr→Int→Option ahs)
 | 0=>(λ_=>none,λ_ _=>none)
 |m+1=>(M4 m ((sZ m).1) ((sZ m).2),M5 m ((sZ m).1) ((sZ m).2))
def nh:Expr→Option ahs:=(sZ n).1
def Zn:Expr→Int→Option ahs:=(sZ n).2
def M6(s:Stmt)(bU:List Int)(b3:Int):Option (List Int):=(nh n (⟨s.A.Op,s.A.N,s.A.S,s.A.aA⟩:Expr)).bind λaf=>(k0 n ([s.Name,([32,61,32]:ahs),af,([59]:ahs)]:List ahs) bU b3).bind λaq=>some aq
def M7(s:Stmt)(bU:List Int)(b3:Int):Option (List Int):=(nh n (⟨s.A.Op,s.A.N,s.A.S,s.A.aA⟩:Expr)).bind λaf=>(k0 n ([([108,101,116,32]:ahs),s.Name,([32,61,32]:ahs),af,([59]:ahs)]:List ahs) bU b3).bind λaq=>some aq
def M8(s:Stmt)(bU:List Int)(b3:Int):Option (List Int):=(nh n (⟨s.A.Op,s.A.N,s.A.S,s.A.aA⟩:Expr)).bind λaf=>(k0 n ([([101,109,105,116,32]:ahs),af,([59]:ahs)]:List ahs) bU b3).bind λaq=>some aq
def M9(s:Stmt)(bU:List Int)(b3:Int):Option (List Int):=(nh n (⟨s.A.Op,s.A.N,s.A.S,s.A.aA⟩:Expr)).bind λaf=>(nh n (⟨s.B.Op,s.B.N,s.B.S,s.B.aA⟩:Expr)).bind λaq=>(k0 n ([([112,117,116,32]:ahs),af,([32,61,32]:ahs),aq,([59]:ahs)]:List ahs) bU b3).bind λaB=>some aB
def M_(s:Stmt)(bU:List Int)(b3:Int):Option (List Int):=(nh n (⟨s.A.Op,s.A.N,s.A.S,s.A.aA⟩:Expr)).bind λaf=>(k0 n ([([100,101,108,101,116,101,32]:ahs),af,([59]:ahs)]:List ahs) bU b3).bind λaq=>some aq
def Na(n:Nat)(gE:(List Stmt)→(List Int)→Int→Option ((List Int)×Int))(gS:Stmt→(List Int)→Int→Option ((List Int)×Int))(gT:Stmt→(List Int)→Int→Option ((List Int)×Int))(kz:List Int)(oS:Int):Option ((List Int)×Int):=some (kz,(ahu (oS-1)))
def Nb(gE:(List Stmt)→(List Int)→Int→Option ((List Int)×Int))(gS:Stmt→(List Int)→Int→Option ((List Int)×Int))(gT:Stmt→(List Int)→Int→Option ((List Int)×Int))(l:List Stmt)(ao:(List Int)→Int→Int→Option ((List Int)×Int))(bx:List Int)(c6:Int)(aX:Int):Option ((List Int)×Int):=cond (decide (aX<((l.length:Nat):Int))) ( av (aV aX l.length)<|(MO n ((ahv l aX).Op)).bind λeE=>jb.on eE (λZo=>(M7 n (⟨(ahv l aX).Op,(ahv l aX).Name,(ahv l aX).Max,⟨((ahv l aX).A).Op,((ahv l aX).A).N,((ahv l aX).A).S,((ahv l aX).A).aA⟩,⟨((ahv l aX).B).Op,((ahv l aX).B).N,((ahv l aX).B).S,((ahv l aX).B).aA⟩,(ahv l aX).Body,(ahv l aX).da⟩:Stmt) bx c6).bind λeU=>ao eU c6 (ahu (aX+1))) (λNc=>jb.on Nc (λZp=>(M6 n (⟨(ahv l aX).Op,(ahv l aX).Name,(ahv l aX).Max,⟨((ahv l aX).A).Op,((ahv l aX).A).N,((ahv l aX).A).S,((ahv l aX).A).aA⟩,⟨((ahv l aX).B).Op,((ahv l aX).B).N,((ahv l aX).B).S,((ahv l aX).B).aA⟩,(ahv l aX).Body,(ahv l aX).da⟩:Stmt) bx c6).bind λea=>ao ea c6 (ahu (aX+1))) (λNd=>jb.on Nd (λZq=>(M9 n (⟨(ahv l aX).Op,(ahv l aX).Name,(ahv l aX).Max,⟨((ahv l aX).A).Op,((ahv l aX).A).N,((ahv l aX).A).S,((ahv l aX).A).aA⟩,⟨((ahv l aX).B).Op,((ahv l aX).B).N,((ahv l aX).B).S,((ahv l aX).B).aA⟩,(ahv l aX).Body,(ahv l aX).da⟩:Stmt) bx c6).bind λeL=>ao eL c6 (ahu (aX+1))) (λNf=>jb.on Nf (λZr=>(M_ n (⟨(ahv l aX).Op,(ahv l aX).Name,(ahv l aX).Max,⟨((ahv l aX).A).Op,((ahv l aX).A).N,((ahv l aX).A).S,((ahv l aX).A).aA⟩,⟨((ahv l aX).B).Op,((ahv l aX).B).N,((ahv l aX).B).S,((ahv l aX).B).aA⟩,(ahv l aX).Body,(ahv l aX).da⟩:Stmt) bx c6).bind λfD=>ao fD c6 (ahu (aX+1))) (λNg=>jb.on Ng (λZs=>(gS (⟨(ahv l aX).Op,(ahv l aX).Name,(ahv l aX).Max,⟨((ahv l aX).A).Op,((ahv l aX).A).N,((ahv l aX).A).S,((ahv l aX).A).aA⟩,⟨((ahv l aX).B).Op,((ahv l aX).B).N,((ahv l aX).B).S,((ahv l aX).B).aA⟩,(ahv l aX).Body,(ahv l aX).da⟩:Stmt) bx c6).bind λe5=>ao e5.1 e5.2 (ahu (aX+1))) (λNh=>jb.on Nh (λZt=>(gT (⟨(ahv l aX).Op,(ahv l aX).Name,(ahv l aX).Max,⟨((ahv l aX).A).Op,((ahv l aX).A).N,((ahv l aX).A).S,((ahv l aX).A).aA⟩,⟨((ahv l aX).B).Op,((ahv l aX).B).N,((ahv l aX).B).S,((ahv l aX).B).aA⟩,(ahv l aX).Body,(ahv l aX).da⟩:Stmt) bx c6).bind λe6=>ao e6.1 e6.2 (ahu (aX+1))) (λNi=>jb.on Ni (λZu=>(M8 n (⟨(ahv l aX).Op,(ahv l aX).Name,(ahv l aX).Max,⟨((ahv l aX).A).Op,((ahv l aX).A).N,((ahv l aX).A).S,((ahv l aX).A).aA⟩,⟨((ahv l aX).B).Op,((ahv l aX).B).N,((ahv l aX).B).S,((ahv l aX).B).aA⟩,(ahv l aX).Body,(ahv l aX).da⟩:Stmt) bx c6).bind λdp=>ao dp c6 (ahu (aX+1))) (λZv=>(MU n (⟨(ahv l aX).Op,(ahv l aX).Name,(ahv l aX).Max,⟨((ahv l aX).A).Op,((ahv l aX).A).N,((ahv l aX).A).S,((ahv l aX).A).aA⟩,⟨((ahv l aX).B).Op,((ahv l aX).B).N,((ahv l aX).B).S,((ahv l aX).B).aA⟩,(ahv l aX).Body,(ahv l aX).da⟩:Stmt) bx c6).bind λmF=>ao mF c6 (ahu (aX+1)))))))))) ( Na n gE gS gT bx c6)
def DK(n:Nat)(gE:(List Stmt)→(List Int)→Int→Option ((List Int)×Int))(gS:Stmt→(List Int)→Int→Option ((List Int)×Int))(gT:Stmt→(List Int)→Int→Option ((List Int)×Int))(l:List Stmt):Nat→(List Int)→Int→Int→Option ((List Int)×Int)
 | 0=>λ_ _ _=>none
 |m+1=>Nb n gE gS gT l (DK n gE gS gT l m)
def Nj(gE:(List Stmt)→(List Int)→Int→Option ((List Int)×Int))(gS:Stmt→(List Int)→Int→Option ((List Int)×Int))(gT:Stmt→(List Int)→Int→Option ((List Int)×Int))(l:List Stmt)(bU:List Int)(b3:Int):Option ((List Int)×Int):=DK n gE gS gT l n bU (ahu (b3+1)) 0
def DL(gE:(List Stmt)→(List Int)→Int→Option ((List Int)×Int))(gS:Stmt→(List Int)→Int→Option ((List Int)×Int))(gT:Stmt→(List Int)→Int→Option ((List Int)×Int))(v6:List Int)(bp:Int):Option ((List Int)×Int):=(k0 n ([([125]:ahs)]:List ahs) v6 bp).bind λcq=>some (cq,bp)
def Nk(gE:(List Stmt)→(List Int)→Int→Option ((List Int)×Int))(gS:Stmt→(List Int)→Int→Option ((List Int)×Int))(gT:Stmt→(List Int)→Int→Option ((List Int)×Int))(s:Stmt)(bU:List Int)(b3:Int):Option ((List Int)×Int):=(nh n (⟨s.A.Op,s.A.N,s.A.S,s.A.aA⟩:Expr)).bind λaf=>(k0 n ([([105,102,32]:ahs),af,([32,123]:ahs)]:List ahs) bU b3).bind λaq=>(gE s.Body aq b3).bind λaB=>cond (decide (0<((s.da.length:Nat):Int))) ( (k0 n ([([125,32,101,108,115,101,32,123]:ahs)]:List ahs) aB.1 aB.2).bind λaD=>(gE s.da aD aB.2).bind λbE=>DL n gE gS gT bE.1 bE.2) ( DL n gE gS gT aB.1 aB.2)
def Nl(gE:(List Stmt)→(List Int)→Int→Option ((List Int)×Int))(gS:Stmt→(List Int)→Int→Option ((List Int)×Int))(gT:Stmt→(List Int)→Int→Option ((List Int)×Int))(s:Stmt)(bU:List Int)(b3:Int):Option ((List Int)×Int):=(nh n (⟨s.A.Op,s.A.N,s.A.S,s.A.aA⟩:Expr)).bind λaf=>(nh n (⟨s.B.Op,s.B.N,s.B.S,s.B.aA⟩:Expr)).bind λaq=>(yH n s.Max).bind λaB=>(k0 n ([([102,111,114,32]:ahs),s.Name,([32,61,32]:ahs),af,([32,116,111,32]:ahs),aq,([32,109,97,120,32]:ahs),aB,([32,123]:ahs)]:List ahs) bU b3).bind λaD=>(gE s.Body aD b3).bind λbE=>(k0 n ([([125]:ahs)]:List ahs) bE.1 bE.2).bind λbe=>some (be,bE.2)
def mG:Nat→((List Stmt)→(List Int)→Int→Option ((List Int)×Int))×(Stmt→(List Int)→Int→Option ((List Int)×Int))×(Stmt→(List Int)→Int→Option ((List Int)×Int))
 | 0=>(λ_ _ _=>none,λ_ _ _=>none,λ_ _ _=>none)
 |m+1=>(Nj m ((mG m).1) ((mG m).2.1) ((mG m).2.2),Nk m ((mG m).1) ((mG m).2.1) ((mG m).2.2),Nl m ((mG m).1) ((mG m).2.1) ((mG m).2.2))
def DM:(List Stmt)→(List Int)→Int→Option ((List Int)×Int):=(mG n).1
def Zw:Stmt→(List Int)→Int→Option ((List Int)×Int):=(mG n).2.1
def Zx:Stmt→(List Int)→Int→Option ((List Int)×Int):=(mG n).2.2
def DN(n:Nat)(bU:List Int)(b3:Int):Option (ahs×(List Int)):=av (oK bU&&decide (bU.length≤9223372036854775807))<|some (jS bU,bU)
def Nm(p:bh)(cM:List ahs):Option ahs:=(CT n cM ([44,32]:ahs)).bind λes=>(k0 n ([([112,114,111,99,32]:ahs),p.Name,([40]:ahs),es,([41,32,123]:ahs)]:List ahs) ([]:List Int) 0).bind λeU=>(DM n p.Body eU 0).bind λea=>(k0 n ([([125]:ahs)]:List ahs) ea.1 ea.2).bind λeL=>(DN n eL ea.2).bind λfD=>some fD.1
def Nn(p:bh)(ao:Int→(List ahs)→Option ahs)(v10:Int)(v11:List ahs):Option ahs:=cond (decide (v10<((p.Params.length:Nat):Int))) ( av (aV v10 p.Params.length)<|av (bW (((ahv p.Params v10).Name).length+([58,32]:ahs).length))<|(yG n ((ahv p.Params v10).hU)).bind λer=>av (bW ((((ahv p.Params v10).Name)++([58,32]:ahs)).length+er.length))<|av (room (v11.length+([((((ahv p.Params v10).Name)++([58,32]:ahs))++er)]:List ahs).length) 16)<|ao (ahu (v10+1)) (v11++([((((ahv p.Params v10).Name)++([58,32]:ahs))++er)]:List ahs))) ( Nm n p v11)
def DO(n:Nat)(p:bh):Nat→Int→(List ahs)→Option ahs
 | 0=>λ_ _=>none
 |m+1=>Nn n p (DO n p m)
def yL(p:bh):Option ahs:=(Dz n p).bind λaf=>cond (!decide (af=0)) ( some ([]:ahs)) ( DO n p n 0 ([]:List ahs))
def DP(n:Nat)(next:Int):ahx:=some (cond (decide ((ahu (next-1))<8)) (ahu (next-1)) 8)
def No(n:Nat):ahw:=some false
def Np(n:Nat):ahw:=some true
def Nq(o:Outcome)(fE:Int→ahw)(v4:Int):ahw:=cond (decide (v4<((o.Out.length:Nat):Int))) ( av (aV v4 o.Out.length)<|(pK n (ahv o.Out v4)).bind λbe=>cond (cond (!be) true (decide ((ahv o.Out v4).Kind=0))) ( some false) ( fE (ahu (v4+1)))) ( Np n)
def DQ(n:Nat)(o:Outcome):Nat→Int→ahw
 | 0=>λ_=>none
 |m+1=>Nq n o (DQ n o m)
def Nr(o:Outcome):ahw:=cond (decide (o.Status=1)) ( cond (cond (!decide (o.Code=0)) true (decide (16<((o.Out.length:Nat):Int)))) ( some false) ( DQ n o n 0)) ( cond (decide (o.Status=2)) ( some (cond (cond (decide (0≤o.Code)) (decide (o.Code≤1009)) false) (decide (((o.Out.length:Nat):Int)=0)) false)) ( No n))
def Ns(n:Nat):ahw:=some true
def Nt(s:bO)(ao:Int→ahw)(v6:Int):ahw:=cond (decide (v6<((s.dl.length:Nat):Int))) ( av (aV v6 s.dl.length)<|Option.bind (cond (!(!((decide ((ahv s.dl v6).Client=s.Client))&&((decide ((ahv s.dl v6).Seq=(ahu ((ahu (s.Next-((s.dl.length:Nat):Int)))+v6))))&&true)))) (Nr n (⟨((ahv s.dl v6).Outcome).Status,((ahv s.dl v6).Outcome).Code,((ahv s.dl v6).Outcome).Out⟩:Outcome)) (some default)) λcq=>cond (cond (!((decide ((ahv s.dl v6).Client=s.Client))&&((decide ((ahv s.dl v6).Seq=(ahu ((ahu (s.Next-((s.dl.length:Nat):Int)))+v6))))&&true))) true (!cq)) ( some false) ( ao (ahu (v6+1)))) ( Ns n)
def DR(n:Nat)(s:bO):Nat→Int→ahw
 | 0=>λ_=>none
 |m+1=>Nt n s (DR n s m)
def Nu(s:bO):ahw:=Option.bind (cond (!(cond (cond (cond (decide (s.Client<1)) true (decide (32<s.Client))) true (decide (s.Next<1))) true (decide (1099511627776<s.Next)))) (DP n s.Next) (some default)) λaf=>cond (cond (cond (cond (cond (decide (s.Client<1)) true (decide (32<s.Client))) true (decide (s.Next<1))) true (decide (1099511627776<s.Next))) true (!decide (((s.dl.length:Nat):Int)=af))) ( some false) ( DR n s n 0)
def Nv(n:Nat):ahw:=some true
def Nw(l:List bO)(ao:Int→ahw)(v5:Int):ahw:=cond (decide (v5<((l.length:Nat):Int))) ( av (aV v5 l.length)<|(Nu n (ahv l v5)).bind λcG=>av ((!cG)||(!(decide (0<v5))||aV (ahu (v5-1)) l.length))<|cond (cond (!cG) true (cond (decide (0<v5)) (decide ((ahv l v5).Client≤(ahv l (ahu (v5-1))).Client)) false)) ( some false) ( ao (ahu (v5+1)))) ( Nv n)
def DS(n:Nat)(l:List bO):Nat→Int→ahw
 | 0=>λ_=>none
 |m+1=>Nw n l (DS n l m)
def yM(l:List bO):ahw:=DS n l n 0
def ix(s:ahs)(bU:List Int):Option (Int×(List Int)):=(yJ n bU).bind λaf=>av (room (bU.length+s.length) 1)<|some (((s.length:Nat):Int),(bU++s.map λb=>(b.toNat:Int)))
def Nx(yN:List Int):Option ahs:=(rf n yN).bind λve=>some ve.1
def Ny(n:Nat)(ao:(List Int)→Int→Option ahs)(l:List bO)(dP:Int)(pM:List Int):Option ahs:=ao pM (ahu (dP+1))
def Nz(n:Nat)(eC:(List Int)→Int→Option ahs)(ao:(List Int)→Int→Option ahs)(l:List bO)(dP:Int)(gU:Int)(v109:List Int):Option ahs:=eC v109 (ahu (gU+1))
def NA(eC:(List Int)→Int→Option ahs)(ao:(List Int)→Int→Option ahs)(l:List bO)(dP:Int)(gU:Int)(vf:(List Int)→Int→Option ahs)(lU:List Int)(kA:Int):Option ahs:=cond (decide (kA<(((((((ahv l dP).dl).getD (gU).toNat default).Outcome).Out).length:Nat):Int))) ( av (aV kA (((((ahv l dP).dl).getD (gU).toNat default).Outcome).Out).length)<|(yA n ((((((ahv l dP).dl).getD (gU).toNat default).Outcome).Out).getD (kA).toNat default)).bind λpN=>(ix n pN lU).bind λNB=>vf NB.2 (ahu (kA+1))) ( Nz n eC ao l dP gU lU)
def DT(n:Nat)(eC:(List Int)→Int→Option ahs)(ao:(List Int)→Int→Option ahs)(l:List bO)(dP:Int)(gU:Int):Nat→(List Int)→Int→Option ahs
 | 0=>λ_ _=>none
 |m+1=>NA n eC ao l dP gU (DT n eC ao l dP gU m)
def NC(ao:(List Int)→Int→Option ahs)(l:List bO)(dP:Int)(eC:(List Int)→Int→Option ahs)(vg:List Int)(gU:Int):Option ahs:=cond (decide (gU<((((ahv l dP).dl).length:Nat):Int))) ( av (aV gU ((ahv l dP).dl).length)<|(hV n (IntKind.u64.wrap (((((ahv l dP).dl).getD (gU).toNat default).Outcome).Status))).bind λs0=>(hV n (IntKind.u64.wrap (((((ahv l dP).dl).getD (gU).toNat default).Outcome).Code))).bind λri=>av (bW (s0.length+ri.length))<|(hV n (IntKind.u64.wrap (((((((ahv l dP).dl).getD (gU).toNat default).Outcome).Out).length:Nat):Int))).bind λDU=>av (bW ((s0++ri).length+DU.length))<|(ix n ((s0++ri)++DU) vg).bind λyO=>DT n eC ao l dP gU n yO.2 0) ( Ny n ao l dP vg)
def DV(n:Nat)(ao:(List Int)→Int→Option ahs)(l:List bO)(dP:Int):Nat→(List Int)→Int→Option ahs
 | 0=>λ_ _=>none
 |m+1=>NC n ao l dP (DV n ao l dP m)
def ND(l:List bO)(ao:(List Int)→Int→Option ahs)(v59:List Int)(dP:Int):Option ahs:=cond (decide (dP<((l.length:Nat):Int))) ( av (aV dP l.length)<|(hV n (IntKind.u64.wrap ((ahv l dP).Client))).bind λDW=>(hV n (IntKind.u64.wrap ((ahv l dP).Next))).bind λvh=>av (bW (DW.length+vh.length))<|(ix n (DW++vh) v59).bind λpO=>DV n ao l dP n pO.2 0) ( Nx n v59)
def DX(n:Nat)(l:List bO):Nat→(List Int)→Int→Option ahs
 | 0=>λ_ _=>none
 |m+1=>ND n l (DX n l m)
def NE(l:List bO):Option ahs:=(yM n l).bind λaf=>cond (!af) ( some ([]:ahs)) ( (hV n (IntKind.u64.wrap ((l.length:Nat):Int))).bind λaB=>(ix n aB ([]:List Int)).bind λaD=>DX n l n aD.2 0)
def NF(cM:List Int):Option ahs:=(rf n cM).bind λes=>some es.1
def NG(l:List aJ)(ao:(List Int)→Int→Option ahs)(v10:List Int)(v11:Int):Option ahs:=cond (decide (v11<((l.length:Nat):Int))) ( av (aV v11 l.length)<|(ne n ((ahv l v11).Key)).bind λdu=>(ix n du v10).bind λer=>(yA n (⟨((ahv l v11).bk).Kind,((ahv l v11).bk).N,((ahv l v11).bk).S⟩:bv)).bind λdv=>(ix n dv er.2).bind λdL=>ao dL.2 (ahu (v11+1))) ( NF n v10)
def DY(n:Nat)(l:List aJ):Nat→(List Int)→Int→Option ahs
 | 0=>λ_ _=>none
 |m+1=>NG n l (DY n l m)
def NH(l:List aJ):Option ahs:=(hV n (IntKind.u64.wrap ((l.length:Nat):Int))).bind λaf=>(ix n af ([]:List Int)).bind λaq=>DY n l n aq.2 0
def NI(ai:bS)(kB:List Int):Option ahs:=(Mm n ai.Queue).bind λvi=>(ix n vi kB).bind λlV=>(hV n ai.cE).bind λn4=>(ix n n4 lV.2).bind λyP=>(rf n yP.2).bind λvj=>some vj.1
def NJ(ai:bS)(fE:(List Int)→Int→Option ahs)(vk:List Int)(v37:Int):Option ahs:=cond (decide (v37<((ai.bf.length:Nat):Int))) ( av (aV v37 ai.bf.length)<|(ne n ((ahv ai.bf v37).Key)).bind λs2=>(ix n s2 vk).bind λrj=>(pL n ((ahv ai.bf v37).Count)).bind λk1=>(ix n k1 rj.2).bind λgi=>fE gi.2 (ahu (v37+1))) ( NI n ai vk)
def DZ(n:Nat)(ai:bS):Nat→(List Int)→Int→Option ahs
 | 0=>λ_ _=>none
 |m+1=>NJ n ai (DZ n ai m)
def NK(ai:bS)(v22:List Int):Option ahs:=(NE n ai.cB).bind λeL=>(ix n eL v22).bind λfD=>(Mp n ai.Place).bind λe5=>(ix n e5 fD.2).bind λe6=>(hV n (IntKind.u64.wrap ((ai.bf.length:Nat):Int))).bind λdp=>(ix n dp e6.2).bind λmF=>DZ n ai n mF.2 0
def NL(ai:bS)(eC:(List Int)→Int→Option ahs)(bL:List Int)(bx:Int):Option ahs:=cond (decide (bx<((ai.cj.length:Nat):Int))) ( av (aV bx ai.cj.length)<|(yL n (ahv ai.cj bx)).bind λeM=>(ne n eM).bind λf5=>(ix n f5 bL).bind λeE=>eC eE.2 (ahu (bx+1))) ( NK n ai bL)
def D0(n:Nat)(ai:bS):Nat→(List Int)→Int→Option ahs
 | 0=>λ_ _=>none
 |m+1=>NL n ai (D0 n ai m)
def D1(ai:bS):Option ahs:=(vc n ai.ar ai.Pos).bind λaf=>(pL n ai.Pos).bind λaq=>(ix n aq ([]:List Int)).bind λaB=>(NH n af.1).bind λaD=>(ix n aD aB.2).bind λbE=>(hV n (IntKind.u64.wrap ((ai.cj.length:Nat):Int))).bind λbe=>(ix n be bE.2).bind λcG=>D0 n ai n cG.2 0
def D2(n:Nat)(dU:Int):ahx:=some dU
def NM(n:Nat)(p:aJ):ahw:=some (decide (p.bk.Kind=0))
def NN(n:Nat):ahx:=some (-1)
def NO(s:List aJ)(ao:Int→ahx)(v4:Int):ahx:=cond (decide (v4<((s.length:Nat):Int))) ( av (aV v4 s.length)<|(NM n (ahv s v4)).bind λbe=>cond be ( some v4) ( ao (ahu (v4+1)))) ( NN n)
def D3(n:Nat)(s:List aJ):Nat→Int→ahx
 | 0=>λ_=>none
 |m+1=>NO n s (D3 n s m)
def NP(s:List aJ):ahx:=D3 n s n 0
def NQ(s:List aJ):ahw:=(NP n s).bind λaf=>some (decide (0≤af))
def NR(n:Nat):ahw:=some true
def NS(l:List aJ)(ao:Int→ahw)(v6:Int):ahw:=cond (decide (v6<((l.length:Nat):Int))) ( av (aV v6 l.length)<|(rc n ((ahv l v6).Key)).bind λcq=>Option.bind (cond (!(!cq)) (pK n (⟨((ahv l v6).bk).Kind,((ahv l v6).bk).N,((ahv l v6).bk).S⟩:bv)) (some default)) λcC=>av ((cond (!cq) true (!cC))||(!(decide (0<v6))||aV (ahu (v6-1)) l.length))<|cond (cond (cond (!cq) true (!cC)) true (cond (decide (0<v6)) (!(Op.bytesLess ((ahv l (ahu (v6-1))).Key) ((ahv l v6).Key))) false)) ( some false) ( ao (ahu (v6+1)))) ( NR n)
def D4(n:Nat)(l:List aJ):Nat→Int→ahw
 | 0=>λ_=>none
 |m+1=>NS n l (D4 n l m)
def NT(l:List aJ):ahw:=D4 n l n 0
def D5(l:List aJ):ahw:=(NT n l).bind λaf=>Option.bind (cond af (NQ n l) (some default)) λaq=>some (cond af (!aq) false)
def NU(n:Nat)(ep:Int):Option bv:=some (⟨1,ep,[]⟩:bv)
def D6(n:Nat)(s:ahs)(at_:Int):ahw:=some (cond (decide (at_<0)) true (decide (((s.length:Nat):Int)<at_)))
def NV(n:Nat):Option (Int×Int×Int):=some (0,0,5)
def NW(s:ahs)(at_:Int)(ao:Int→Int→Option (Int×Int×Int))(bp:Int)(bq:Int):Option (Int×Int×Int):=cond (decide (bp<10)) ( cond (decide (((s.length:Nat):Int)≤(ahu (at_+bp)))) ( some (0,0,6)) ( av (aV (ahu (at_+bp)) s.length)<|cond (cond (cond (decide (bp=9)) (decide (1<(((s.getD ((ahu (at_+bp))).toNat 0).toNat:Nat):Int))) false) true (cond (decide ((((s.getD ((ahu (at_+bp))).toNat 0).toNat:Nat):Int)=0)) (decide (0<bp)) false)) ( some (0,0,5)) ( av (mN (ahu (7*bp)))<|cond (decide ((((s.getD ((ahu (at_+bp))).toNat 0).toNat:Nat):Int)<128)) ( some ((r4 .u64 bq (r5 .u64 (IntKind.u64.wrap (r3 .u8 (((s.getD ((ahu (at_+bp))).toNat 0).toNat:Nat):Int) 127)) (ahu (7*bp)))),(ahu ((ahu (at_+bp))+1)),0)) ( ao (ahu (bp+1)) (r4 .u64 bq (r5 .u64 (IntKind.u64.wrap (r3 .u8 (((s.getD ((ahu (at_+bp))).toNat 0).toNat:Nat):Int) 127)) (ahu (7*bp)))))))) ( NV n)
def D7(n:Nat)(s:ahs)(at_:Int):Nat→Int→Int→Option (Int×Int×Int)
 | 0=>λ_ _=>none
 |m+1=>NW n s at_ (D7 n s at_ m)
def rk(s:ahs)(at_:Int):Option (Int×Int×Int):=(D6 n s at_).bind λaf=>cond af ( some (0,0,1)) ( D7 n s at_ n 0 0)
def yQ(s:ahs)(at_:Int):Option (Int×Int×Int):=(rk n s at_).bind λaf=>cond (!decide (af.2.2=0)) ( some (0,0,af.2.2)) ( some ((tS .i64 (ahu (r6 .u64 af.1 1)) (ahu (0-(ahu (r3 .u64 af.1 1))))),af.2.1,0))
def n5(s:ahs)(at_:Int)(dU:Int):Option (Int×Int×Int):=(rk n s at_).bind λaf=>cond (!decide (af.2.2=0)) ( some (0,0,af.2.2)) ( cond (cond (decide (dU<0)) true (decide ((IntKind.u64.wrap dU)<af.1))) ( some (0,0,2)) ( cond (decide ((IntKind.u64.wrap (ahu (((s.length:Nat):Int)-af.2.1)))<af.1)) ( some (0,0,6)) ( some ((ahu af.1),af.2.1,0))))
def rl(s:ahs)(at_:Int)(dU:Int):Option (ahs×Int×Int):=(n5 n s at_ dU).bind λaf=>cond (!decide (af.2.2=0)) ( some (([]:ahs),0,af.2.2)) ( av (nw af.2.1 (ahu (af.2.1+af.1)) s.length)<|some (((s.take ((ahu (af.2.1+af.1))).toNat).drop (af.2.1).toNat),(ahu (af.2.1+af.1)),0))
def D8(n:Nat)(cC:ahs×Int×Int)(v11:Int):Option (bv×Int×Int):=cond (!decide (v11=0)) ( some ((⟨0,0,[]⟩:bv),0,v11)) ( some ((⟨2,0,cC.1⟩:bv),cC.2.1,0))
def yR(s:ahs)(at_:Int):Option (bv×Int×Int):=(rk n s at_).bind λaf=>cond (!decide (af.2.2=0)) ( some ((⟨0,0,[]⟩:bv),0,af.2.2)) ( cond (decide (af.1=0)) ( some ((⟨0,0,[]⟩:bv),af.2.1,0)) ( cond (decide (af.1=1)) ( (yQ n s af.2.1).bind λbE=>cond (!decide (bE.2.2=0)) ( some ((⟨0,0,[]⟩:bv),0,bE.2.2)) ( (NU n bE.1).bind λcG=>some (cG,bE.2.1,0))) ( cond (decide (af.1=2)) ( (rl n s af.2.1 64).bind λcC=>Option.bind (cond (decide (cC.2.2=0)) (u9 n cC.1) (some default)) λd_=>cond (cond (decide (cC.2.2=0)) (!d_) false) ( D8 n cC 5) ( D8 n cC cC.2.2)) ( some ((⟨0,0,[]⟩:bv),0,5)))))
def NX(cN:Int)(cM:List aJ):Option ((List aJ)×Int×Int):=(D5 n cM).bind λes=>cond (!es) ( some (([]:List aJ),0,5)) ( some (cM,cN,0))
def NY(s:ahs)(af:Int×Int×Int)(ao:Int→Int→(List aJ)→Option ((List aJ)×Int×Int))(v9:Int)(v10:Int)(v11:List aJ):Option ((List aJ)×Int×Int):=cond (decide (v10<af.1)) ( (rl n s v9 24).bind λeW=>cond (!decide (eW.2.2=0)) ( some (([]:List aJ),0,eW.2.2)) ( (yR n s eW.2.1).bind λdu=>cond (!decide (du.2.2=0)) ( some (([]:List aJ),0,du.2.2)) ( av (room (v11.length+([(⟨eW.1,du.1⟩:aJ)]:List aJ).length) 48)<|ao du.2.1 (ahu (v10+1)) (v11++([(⟨eW.1,du.1⟩:aJ)]:List aJ))))) ( NX n v9 v11)
def D9(n:Nat)(s:ahs)(af:Int×Int×Int):Nat→Int→Int→(List aJ)→Option ((List aJ)×Int×Int)
 | 0=>λ_ _ _=>none
 |m+1=>NY n s af (D9 n s af m)
def NZ(s:ahs)(at_:Int):Option ((List aJ)×Int×Int):=(n5 n s at_ 2147483647).bind λaf=>cond (!decide (af.2.2=0)) ( some (([]:List aJ),0,af.2.2)) ( D9 n s af n af.2.1 0 ([]:List aJ))
def N0(ae:fG):Option ((List aJ)×Int×Int):=cond (!decide (ae.e=0)) ( some (([]:List aJ),ae.at_,ae.e)) ( (NZ n ae.s ae.at_).bind λaq=>cond (!decide (aq.2.2=0)) ( some (([]:List aJ),ae.at_,aq.2.2)) ( some (aq.1,aq.2.1,aq.2.2)))
def N1(n:Nat)(s:ahs):ahw:=some (decide (((s.length:Nat):Int)≤24))
def N2(s:ahs)(ao:Int→ahw)(v4:Int):ahw:=cond (decide (v4<((s.length:Nat):Int))) ( av (aV v4 s.length)<|av ((decide ((((s.getD (v4).toNat 0).toNat:Nat):Int)<33))||aV v4 s.length)<|cond (cond (decide ((((s.getD (v4).toNat 0).toNat:Nat):Int)<33)) true (decide (126<(((s.getD (v4).toNat 0).toNat:Nat):Int)))) ( some false) ( ao (ahu (v4+1)))) ( N1 n s)
def D'(n:Nat)(s:ahs):Nat→Int→ahw
 | 0=>λ_=>none
 |m+1=>N2 n s (D' n s m)
def D_(s:ahs):ahw:=D' n s n 0
def N3(n:Nat)(x:Part)(ae:Int):ahw:=some (decide (x.Id=ae))
def N4(n:Nat)(ae:Int):ahx:=some (-1)
def N5(s:List Part)(ae:Int)(ao:Int→ahx)(v4:Int):ahx:=cond (decide (v4<((s.length:Nat):Int))) ( av (aV v4 s.length)<|(N3 n (ahv s v4) ae).bind λbe=>cond be ( some v4) ( ao (ahu (v4+1)))) ( N4 n ae)
def Ea(n:Nat)(s:List Part)(ae:Int):Nat→Int→ahx
 | 0=>λ_=>none
 |m+1=>N5 n s ae (Ea n s ae m)
def N6(s:List Part)(ae:Int):ahx:=Ea n s ae n 0
def N7(l:List Part)(id:Int):ahx:=(N6 n l id).bind λaf=>some af
def Eb(n:Nat)(ep:Int):ahw:=some (cond (decide (1≤ep)) (decide (ep≤16)) false)
def N8(n:Nat)(ep:Int):ahw:=some (cond (decide (1≤ep)) (decide (ep≤1099511627776)) false)
def N9(l:List Part)(i:Int):ahw:=av (aV i l.length)<|cond (decide ((ahv l i).gO=0)) ( some (decide (((ahv l i).cY)=([]:ahs)))) ( (Eb n ((ahv l i).gO)).bind λaB=>Option.bind (cond (cond aB (!decide ((ahv l i).gO=(ahv l i).Node)) false) (D_ n ((ahv l i).cY)) (some default)) λaD=>av (!(cond (cond (cond aB (!decide ((ahv l i).gO=(ahv l i).Node)) false) aD false) (!(Op.bytesLess ((ahv l i).cY) ((ahv l i).ez))) false)||((decide ((ahu (i+1))=((l.length:Nat):Int)))||aV (ahu (i+1)) l.length))<|some (cond (cond (cond (cond aB (!decide ((ahv l i).gO=(ahv l i).Node)) false) aD false) (!(Op.bytesLess ((ahv l i).cY) ((ahv l i).ez))) false) (cond (decide ((ahu (i+1))=((l.length:Nat):Int))) true (Op.bytesLess ((ahv l i).cY) ((ahv l (ahu (i+1))).ez))) false))
def N'(n:Nat):ahw:=some true
def N_(p:cd)(ao:Int→ahw)(v12:Int):ahw:=cond (decide (v12<((p.a'.length:Nat):Int))) ( av (aV v12 p.a'.length)<|Option.bind (cond (decide (0<v12)) (D_ n ((ahv p.a' v12).ez)) (some default)) λer=>av (!(decide (0<v12))||((!er)||aV (ahu (v12-1)) p.a'.length))<|cond (cond (decide (0<v12)) (cond (!er) true ((Op.bytesLess ((ahv p.a' v12).ez) ((ahv p.a' (ahu (v12-1))).ez))||(decide (((ahv p.a' v12).ez)=((ahv p.a' (ahu (v12-1))).ez))))) false) ( some false) ( (N8 n ((ahv p.a' v12).Id)).bind λdL=>Option.bind (cond (!(!dL)) (Eb n ((ahv p.a' v12).Node)) (some default)) λeM=>Option.bind (cond (!(cond (!dL) true (!eM))) (N9 n p.a' v12) (some default)) λf5=>av ((cond (cond (!dL) true (!eM)) true (!f5))||gm v12 p.a'.length)<|Option.bind (cond (!(cond (cond (!dL) true (!eM)) true (!f5))) (N7 n (p.a'.take (v12).toNat) ((ahv p.a' v12).Id)) (some default)) λes=>cond (cond (cond (cond (!dL) true (!eM)) true (!f5)) true (decide (0≤es))) ( some false) ( ao (ahu (v12+1))))) ( N' n)
def Ec(n:Nat)(p:cd):Nat→Int→ahw
 | 0=>λ_=>none
 |m+1=>N_ n p (Ec n p m)
def Ed(p:cd):ahw:=av ((cond (cond (cond (decide (p.Version<0)) true (decide (1099511627776<p.Version))) true (decide (((p.a'.length:Nat):Int)<1))) true (decide (16<((p.a'.length:Nat):Int))))||aV 0 p.a'.length)<|cond (cond (cond (cond (cond (decide (p.Version<0)) true (decide (1099511627776<p.Version))) true (decide (((p.a'.length:Nat):Int)<1))) true (decide (16<((p.a'.length:Nat):Int)))) true (!(decide (((p.a'.getD 0 default).ez)=([]:ahs))))) ( some false) ( Ec n p n 0)
def vl(ae:mC):Option (Int×Int×Int):=cond (!decide (ae.e=0)) ( some (0,ae.at_,ae.e)) ( (yQ n ae.s ae.at_).bind λaq=>some (aq.1,aq.2.1,aq.2.2))
def Ee(ae:mC):Option (ahs×Int×Int):=cond (!decide (ae.e=0)) ( some (([]:ahs),ae.at_,ae.e)) ( (rl n ae.s ae.at_ 24).bind λaq=>some (aq.1,aq.2.1,aq.2.2))
def Ef(n:Nat)(s:ahs)(v28:Int)(af:Int×Int×Int)(v30:List Part)(kz:Int):Option (cd×Int×Int):=cond (!decide (kz=0)) ( some ((⟨0,[]⟩:cd),0,kz)) ( some ((⟨af.1,v30⟩:cd),v28,0))
def Oa(s:ahs)(af:Int×Int×Int)(v28:Int)(gh:Int)(v30:List Part):Option (cd×Int×Int):=Option.bind (cond (decide (gh=0)) (Ed n (⟨af.1,v30⟩:cd)) (some default)) λfH=>cond (cond (decide (gh=0)) (!fH) false) ( Ef n s v28 af v30 5) ( Ef n s v28 af v30 gh)
def Ob(aB:Int×Int×Int)(s:ahs)(af:Int×Int×Int)(fE:Int→Int→(List Part)→Int→Option (cd×Int×Int))(bL:Int)(bx:Int)(c6:List Part)(aX:Int):Option (cd×Int×Int):=cond (decide (aX<aB.1)) ( (vl n (⟨s,bL,bx⟩:mC)).bind λf5=>(Ee n (⟨s,f5.2.1,f5.2.2⟩:mC)).bind λeE=>(vl n (⟨s,eE.2.1,eE.2.2⟩:mC)).bind λes=>(vl n (⟨s,es.2.1,es.2.2⟩:mC)).bind λeU=>(Ee n (⟨s,eU.2.1,eU.2.2⟩:mC)).bind λea=>av (room (c6.length+([(⟨f5.1,eE.1,es.1,eU.1,ea.1⟩:Part)]:List Part).length) 56)<|fE ea.2.1 ea.2.2 (c6++([(⟨f5.1,eE.1,es.1,eU.1,ea.1⟩:Part)]:List Part)) (ahu (aX+1))) ( Oa n s af bL bx c6)
def Eg(n:Nat)(aB:Int×Int×Int)(s:ahs)(af:Int×Int×Int):Nat→Int→Int→(List Part)→Int→Option (cd×Int×Int)
 | 0=>λ_ _ _ _=>none
 |m+1=>Ob n aB s af (Eg n aB s af m)
def Oc(s:ahs)(at_:Int):Option (cd×Int×Int):=(vl n (⟨s,at_,0⟩:mC)).bind λaf=>cond (!decide (af.2.2=0)) ( some ((⟨0,[]⟩:cd),0,af.2.2)) ( (n5 n s af.2.1 16).bind λaB=>Eg n aB s af n aB.2.1 aB.2.2 ([]:List Part) 0)
def Od(ae:fG):Option (cd×Int×Int):=cond (!decide (ae.e=0)) ( some ((⟨0,[]⟩:cd),ae.at_,ae.e)) ( (Oc n ae.s ae.at_).bind λaq=>cond (!decide (aq.2.2=0)) ( some ((⟨0,[]⟩:cd),ae.at_,aq.2.2)) ( some (aq.1,aq.2.1,aq.2.2)))
def s3(n:Nat)(next:Int)(e:Int)(ae:gC):Option (Int×Int):=some (next,e)
def Eh(dU:Int)(ae:gC):Option (Int×Int×Int):=cond (!decide (ae.e=0)) ( some (0,ae.at_,ae.e)) ( (n5 n ae.s ae.at_ dU).bind λaq=>(s3 n aq.2.1 aq.2.2 ae).bind λaB=>some (aq.1,aB.1,aB.2))
def Oe(s:ahs)(at_:Int):Option (Bool×Int×Int):=(D6 n s at_).bind λaf=>cond af ( some (false,0,1)) ( cond (decide (at_=((s.length:Nat):Int))) ( some (false,0,6)) ( av (aV at_ s.length)<|cond (decide (1<(((s.getD (at_).toNat 0).toNat:Nat):Int))) ( some (false,0,5)) ( av (aV at_ s.length)<|some ((decide ((((s.getD (at_).toNat 0).toNat:Nat):Int)=1)),(ahu (at_+1)),0))))
def Of(ae:gC):Option (Bool×Int×Int):=cond (!decide (ae.e=0)) ( some (false,ae.at_,ae.e)) ( (Oe n ae.s ae.at_).bind λaq=>(s3 n aq.2.1 aq.2.2 ae).bind λaB=>some (aq.1,aB.1,aB.2))
def Ei(dU:Int)(ae:gC):Option (ahs×Int×Int):=cond (!decide (ae.e=0)) ( some (([]:ahs),ae.at_,ae.e)) ( (rl n ae.s ae.at_ dU).bind λaq=>(s3 n aq.2.1 aq.2.2 ae).bind λaB=>some (aq.1,aB.1,aB.2))
def Og(n:Nat)(ae:gC)(cN:Int)(cM:Int)(v20:List ahs):Option ((List ahs)×Int×Int):=some (v20,cN,cM)
def Oh(af:Int×Int×Int)(ae:gC)(ao:Int→Int→(List ahs)→Int→Option ((List ahs)×Int×Int))(bq:Int)(v9:Int)(v10:List ahs)(v11:Int):Option ((List ahs)×Int×Int):=cond (decide (v11<af.1)) ( (Ei n 24 (⟨ae.s,bq,v9⟩:gC)).bind λeW=>av (room (v10.length+([eW.1]:List ahs).length) 16)<|ao eW.2.1 eW.2.2 (v10++([eW.1]:List ahs)) (ahu (v11+1))) ( Og n ae bq v9 v10)
def Ej(n:Nat)(af:Int×Int×Int)(ae:gC):Nat→Int→Int→(List ahs)→Int→Option ((List ahs)×Int×Int)
 | 0=>λ_ _ _ _=>none
 |m+1=>Oh n af ae (Ej n af ae m)
def Ek(ae:gC):Option ((List ahs)×Int×Int):=(Eh n 64 ae).bind λaf=>Ej n af ae n af.2.1 af.2.2 ([]:List ahs) 0
def El(ae:gC):Option (Int×Int×Int):=cond (!decide (ae.e=0)) ( some (0,ae.at_,ae.e)) ( (rk n ae.s ae.at_).bind λaq=>(s3 n aq.2.1 aq.2.2 ae).bind λaB=>some (aq.1,aB.1,aB.2))
def Oi(ae:gC):Option (bv×Int×Int):=cond (!decide (ae.e=0)) ( some ((⟨0,0,[]⟩:bv),ae.at_,ae.e)) ( (yR n ae.s ae.at_).bind λaq=>(s3 n aq.2.1 aq.2.2 ae).bind λaB=>some (aq.1,aB.1,aB.2))
def Em(af:Int×Int×Int)(aq:Int×Int×Int)(s:ahs)(aB:ahs×Int×Int)(v23:List bv)(fD:Bool×Int×Int)(k2:Int)(v28:Int)(gh:List ahs)(v30:List ahs):Option (Request×Int×Int):=cond (!decide (v28=0)) ( some ((⟨0,0,[],[],false,⟨false,[],[]⟩⟩:Request),0,v28)) ( cond (cond (decide (32<af.1)) true (decide (1099511627776<aq.1))) ( some ((⟨0,0,[],[],false,⟨false,[],[]⟩⟩:Request),0,5)) ( (u' n (⟨(ahu af.1),(ahu aq.1),aB.1,v23,fD.1,⟨false,gh,v30⟩⟩:Request)).bind λmE=>cond (!decide (mE=0)) ( some ((⟨0,0,[],[],false,⟨false,[],[]⟩⟩:Request),0,5)) ( some ((⟨(ahu af.1),(ahu aq.1),aB.1,v23,fD.1,⟨false,gh,v30⟩⟩:Request),k2,0))))
def Oj(af:Int×Int×Int)(aq:Int×Int×Int)(s:ahs)(aB:ahs×Int×Int)(v21:Int)(v22:Int)(v23:List bv):Option (Request×Int×Int):=(Of n (⟨s,v21,v22⟩:gC)).bind λfD=>cond fD.1 ( (Ek n (⟨s,fD.2.1,fD.2.2⟩:gC)).bind λe5=>(Ek n (⟨s,e5.2.1,e5.2.2⟩:gC)).bind λe6=>Em n af aq s aB v23 fD e6.2.1 e6.2.2 e5.1 e6.1) ( Em n af aq s aB v23 fD fD.2.1 fD.2.2 ([]:List ahs) ([]:List ahs))
def Ok(af:Int×Int×Int)(aq:Int×Int×Int)(aD:Int×Int×Int)(s:ahs)(aB:ahs×Int×Int)(fE:Int→Int→(List bv)→Int→Option (Request×Int×Int))(v11:Int)(v12:Int)(c':List bv)(bL:Int):Option (Request×Int×Int):=cond (decide (bL<aD.1)) ( (Oi n (⟨s,v11,v12⟩:gC)).bind λdv=>av (room (c'.length+([dv.1]:List bv).length) 32)<|fE dv.2.1 dv.2.2 (c'++([dv.1]:List bv)) (ahu (bL+1))) ( Oj n af aq s aB v11 v12 c')
def En(n:Nat)(af:Int×Int×Int)(aq:Int×Int×Int)(aD:Int×Int×Int)(s:ahs)(aB:ahs×Int×Int):Nat→Int→Int→(List bv)→Int→Option (Request×Int×Int)
 | 0=>λ_ _ _ _=>none
 |m+1=>Ok n af aq aD s aB (En n af aq aD s aB m)
def Ol(s:ahs)(at_:Int):Option (Request×Int×Int):=(El n (⟨s,at_,0⟩:gC)).bind λaf=>(El n (⟨s,af.2.1,af.2.2⟩:gC)).bind λaq=>(Ei n 16 (⟨s,aq.2.1,aq.2.2⟩:gC)).bind λaB=>(Eh n 6 (⟨s,aB.2.1,aB.2.2⟩:gC)).bind λaD=>En n af aq aD s aB n aD.2.1 aD.2.2 ([]:List bv) 0
def Om(n:Nat)(c6:List Request)(aX:Int):Option ((List Request)×Int×Int):=some (c6,aX,0)
def On(s:ahs)(af:Int×Int×Int)(ao:(List Request)→Int→Int→Option ((List Request)×Int×Int))(bq:List Request)(v9:Int)(v10:Int):Option ((List Request)×Int×Int):=cond (decide (v9<af.1)) ( (Ol n s v10).bind λbT=>cond (!decide (bT.2.2=0)) ( some (([]:List Request),0,bT.2.2)) ( av (room (bq.length+([bT.1]:List Request).length) 120)<|ao (bq++([bT.1]:List Request)) (ahu (v9+1)) bT.2.1)) ( Om n bq v10)
def Eo(n:Nat)(s:ahs)(af:Int×Int×Int):Nat→(List Request)→Int→Int→Option ((List Request)×Int×Int)
 | 0=>λ_ _ _=>none
 |m+1=>On n s af (Eo n s af m)
def Oo(s:ahs)(at_:Int):Option ((List Request)×Int×Int):=(n5 n s at_ 64).bind λaf=>cond (!decide (af.2.2=0)) ( some (([]:List Request),0,af.2.2)) ( Eo n s af n ([]:List Request) 0 af.2.1)
def Oq(ae:fG):Option ((List Request)×Int×Int):=cond (!decide (ae.e=0)) ( some (([]:List Request),ae.at_,ae.e)) ( (Oo n ae.s ae.at_).bind λaq=>cond (!decide (aq.2.2=0)) ( some (([]:List Request),ae.at_,aq.2.2)) ( some (aq.1,aq.2.1,aq.2.2)))
def Ep(n:Nat)(aq:Int×Int×Int)(ae:jc)(v3:Int):Option (Int×Int×Int):=cond (!decide (v3=0)) ( some (0,ae.at_,v3)) ( some ((ahu aq.1),aq.2.1,v3))
def vm(least:Int)(dU:Int)(ae:jc):Option (Int×Int×Int):=cond (!decide (ae.e=0)) ( some (0,ae.at_,ae.e)) ( (rk n ae.s ae.at_).bind λaq=>cond (cond (decide (aq.2.2=0)) (cond (decide (aq.1<least)) true (decide (dU<aq.1))) false) ( Ep n aq ae 5) ( Ep n aq ae aq.2.2))
def Ot(n:Nat)(ae:jc)(af:Int×Int×Int)(aq:Int×Int×Int)(v21:Int)(v22:Int)(v23:List bv):Option (Outcome×Int×Int):=some ((⟨af.1,aq.1,v23⟩:Outcome),v21,v22)
def Ou(aD:Int×Int×Int)(ae:jc)(af:Int×Int×Int)(aq:Int×Int×Int)(ao:Int→Int→(List bv)→Int→Option (Outcome×Int×Int))(v11:Int)(v12:Int)(c':List bv)(bL:Int):Option (Outcome×Int×Int):=cond (cond (decide (bL<aD.1)) (decide (v12=0)) false) ( (yR n ae.s v11).bind λdv=>av (room (c'.length+([dv.1]:List bv).length) 32)<|ao dv.2.1 dv.2.2 (c'++([dv.1]:List bv)) (ahu (bL+1))) ( Ot n ae af aq v11 v12 c')
def Er(n:Nat)(aD:Int×Int×Int)(ae:jc)(af:Int×Int×Int)(aq:Int×Int×Int):Nat→Int→Int→(List bv)→Int→Option (Outcome×Int×Int)
 | 0=>λ_ _ _ _=>none
 |m+1=>Ou n aD ae af aq (Er n aD ae af aq m)
def Ov(ae:jc):Option (Outcome×Int×Int):=(vm n 0 9999 ae).bind λaf=>(vm n 0 9999 (⟨ae.s,af.2.1,af.2.2⟩:jc)).bind λaq=>cond (!decide (aq.2.2=0)) ( some ((⟨af.1,aq.1,[]⟩:Outcome),aq.2.1,aq.2.2)) ( (n5 n ae.s aq.2.1 16).bind λaD=>Er n aD ae af aq n aD.2.1 aD.2.2 ([]:List bv) 0)
def Ow(n:Nat)(ae:jc)(af:Int×Int×Int)(aq:Int×Int×Int)(v21:Int)(v22:Int)(v23:List eV):Option (bO×Int×Int):=some ((⟨af.1,aq.1,v23⟩:bO),v21,v22)
def Ox(aD:Int)(ae:jc)(af:Int×Int×Int)(aq:Int×Int×Int)(ao:Int→Int→(List eV)→Int→Option (bO×Int×Int))(v11:Int)(v12:Int)(c':List eV)(bL:Int):Option (bO×Int×Int):=cond (cond (decide (bL<aD)) (decide (v12=0)) false) ( (Ov n (⟨ae.s,v11,v12⟩:jc)).bind λdv=>av (room (c'.length+([(⟨af.1,(ahu (aq.1-(ahu (aD-bL)))),dv.1⟩:eV)]:List eV).length) 56)<|ao dv.2.1 dv.2.2 (c'++([(⟨af.1,(ahu (aq.1-(ahu (aD-bL)))),dv.1⟩:eV)]:List eV)) (ahu (bL+1))) ( Ow n ae af aq v11 v12 c')
def Es(n:Nat)(aD:Int)(ae:jc)(af:Int×Int×Int)(aq:Int×Int×Int):Nat→Int→Int→(List eV)→Int→Option (bO×Int×Int)
 | 0=>λ_ _ _ _=>none
 |m+1=>Ox n aD ae af aq (Es n aD ae af aq m)
def Oy(ae:jc):Option (bO×Int×Int):=(vm n 1 32 ae).bind λaf=>(vm n 1 1099511627776 (⟨ae.s,af.2.1,af.2.2⟩:jc)).bind λaq=>cond (!decide (aq.2.2=0)) ( some ((⟨af.1,aq.1,[]⟩:bO),aq.2.1,aq.2.2)) ( (DP n aq.1).bind λaD=>Es n aD ae af aq n aq.2.1 aq.2.2 ([]:List eV) 0)
def Oz(s:ahs)(cM:Int)(v20:Int)(v21:List bO):Option ((List bO)×Int×Int):=cond (!decide (v20=0)) ( some (([]:List bO),0,v20)) ( (yM n v21).bind λeL=>cond (!eL) ( some (([]:List bO),0,5)) ( some (v21,cM,0)))
def OA(af:Int×Int×Int)(s:ahs)(ao:Int→Int→(List bO)→Int→Option ((List bO)×Int×Int))(v9:Int)(v10:Int)(v11:List bO)(v12:Int):Option ((List bO)×Int×Int):=cond (cond (decide (v12<af.1)) (decide (v10=0)) false) ( (Oy n (⟨s,v9,v10⟩:jc)).bind λdu=>av (room (v11.length+([du.1]:List bO).length) 40)<|ao du.2.1 du.2.2 (v11++([du.1]:List bO)) (ahu (v12+1))) ( Oz n s v9 v10 v11)
def Et(n:Nat)(af:Int×Int×Int)(s:ahs):Nat→Int→Int→(List bO)→Int→Option ((List bO)×Int×Int)
 | 0=>λ_ _ _ _=>none
 |m+1=>OA n af s (Et n af s m)
def OB(s:ahs)(at_:Int):Option ((List bO)×Int×Int):=(n5 n s at_ 32).bind λaf=>cond (!decide (af.2.2=0)) ( some (([]:List bO),0,af.2.2)) ( Et n af s n af.2.1 0 ([]:List bO) 0)
def OC(ae:fG):Option ((List bO)×Int×Int):=cond (!decide (ae.e=0)) ( some (([]:List bO),ae.at_,ae.e)) ( (OB n ae.s ae.at_).bind λaq=>cond (!decide (aq.2.2=0)) ( some (([]:List bO),ae.at_,aq.2.2)) ( some (aq.1,aq.2.1,aq.2.2)))
def OD(s:ahs)(at_:Int)(a2:Int):Option (Int×Int×Int):=(n5 n s at_ a2).bind λaf=>some (af.1,af.2.1,af.2.2)
def Eu(p:Int)(ae:fG):Option (Int×Int×Int):=cond (!decide (ae.e=0)) ( some (0,ae.at_,ae.e)) ( (OD n ae.s ae.at_ p).bind λaq=>cond (!decide (aq.2.2=0)) ( some (0,ae.at_,aq.2.2)) ( some (aq.1,aq.2.1,aq.2.2)))
def Ev(ae:fG):Option (Int×Int×Int):=cond (!decide (ae.e=0)) ( some (0,ae.at_,ae.e)) ( (yQ n ae.s ae.at_).bind λaq=>cond (!decide (aq.2.2=0)) ( some (0,ae.at_,aq.2.2)) ( some (aq.1,aq.2.1,aq.2.2)))
def OE(s:ahs)(at_:Int)(a2:Int):Option (ahs×Int×Int):=(rl n s at_ a2).bind λaf=>some (af.1,af.2.1,af.2.2)
def Ew(p:Int)(ae:fG):Option (ahs×Int×Int):=cond (!decide (ae.e=0)) ( some (([]:ahs),ae.at_,ae.e)) ( (OE n ae.s ae.at_ p).bind λaq=>cond (!decide (aq.2.2=0)) ( some (([]:ahs),ae.at_,aq.2.2)) ( some (aq.1,aq.2.1,aq.2.2)))
def OF(ae:fG):Option (Int×Int×Int):=cond (!decide (ae.e=0)) ( some (0,ae.at_,ae.e)) ( (rk n ae.s ae.at_).bind λaq=>cond (!decide (aq.2.2=0)) ( some (0,ae.at_,aq.2.2)) ( some (aq.1,aq.2.1,aq.2.2)))
def Ex(n:Nat)(dU:Int):ahx:=some dU
def OG(ae:fG)(af:Int×Int×Int)(e6:(List bO)×Int×Int)(dp:cd×Int×Int)(aq:(List aJ)×Int×Int)(v25:List ahs)(kf:Int)(v51:Int)(kC:List bf):Option (mB×Int×Int):=(Oq n (⟨ae.s,kf,v51⟩:fG)).bind λs4=>(OF n (⟨ae.s,s4.2.1,s4.2.2⟩:fG)).bind λjd=>some ((⟨⟨af.1,⟨0,0,[]⟩,[],e6.1,dp.1,kC,s4.1,jd.1⟩,aq.1,v25⟩:mB),jd.2.1,jd.2.2)
def OH(ae:fG)(af:Int×Int×Int)(e6:(List bO)×Int×Int)(dp:cd×Int×Int)(aq:(List aJ)×Int×Int)(v25:List ahs)(fE:Int→Int→(List bf)→Int→Option (mB×Int×Int))(gV:Int)(jT:Int)(v40:List bf)(iy:Int):Option (mB×Int×Int):=cond (cond (decide (0<iy)) (decide (jT=0)) false) ( (Ex n 24).bind λgi=>(Ew n gi (⟨ae.s,gV,jT⟩:fG)).bind λlW=>(Ev n (⟨ae.s,lW.2.1,lW.2.2⟩:fG)).bind λfR=>av (room (v40.length+([(⟨lW.1,fR.1⟩:bf)]:List bf).length) 24)<|fE fR.2.1 fR.2.2 (v40++([(⟨lW.1,fR.1⟩:bf)]:List bf)) (ahu (iy-1))) ( OG n ae af e6 dp aq v25 gV jT v40)
def Ey(n:Nat)(ae:fG)(af:Int×Int×Int)(e6:(List bO)×Int×Int)(dp:cd×Int×Int)(aq:(List aJ)×Int×Int)(v25:List ahs):Nat→Int→Int→(List bf)→Int→Option (mB×Int×Int)
 | 0=>λ_ _ _ _=>none
 |m+1=>OH n ae af e6 dp aq v25 (Ey n ae af e6 dp aq v25 m)
def OI(ae:fG)(af:Int×Int×Int)(aq:(List aJ)×Int×Int)(v23:Int)(v24:Int)(v25:List ahs):Option (mB×Int×Int):=(OC n (⟨ae.s,v23,v24⟩:fG)).bind λe6=>(Od n (⟨ae.s,e6.2.1,e6.2.2⟩:fG)).bind λdp=>(D2 n 32).bind λmF=>(Eu n mF (⟨ae.s,dp.2.1,dp.2.2⟩:fG)).bind λe8=>Ey n ae af e6 dp aq v25 n e8.2.1 e8.2.2 ([]:List bf) e8.1
def OJ(ae:fG)(af:Int×Int×Int)(aq:(List aJ)×Int×Int)(eC:Int→Int→(List ahs)→Int→Option (mB×Int×Int))(v12:Int)(c':Int)(bL:List ahs)(bx:Int):Option (mB×Int×Int):=cond (cond (decide (0<bx)) (decide (c'=0)) false) ( (Ex n 16384).bind λdL=>(Ew n dL (⟨ae.s,v12,c'⟩:fG)).bind λeM=>av (room (bL.length+([eM.1]:List ahs).length) 16)<|eC eM.2.1 eM.2.2 (bL++([eM.1]:List ahs)) (ahu (bx-1))) ( OI n ae af aq v12 c' bL)
def Ez(n:Nat)(ae:fG)(af:Int×Int×Int)(aq:(List aJ)×Int×Int):Nat→Int→Int→(List ahs)→Int→Option (mB×Int×Int)
 | 0=>λ_ _ _ _=>none
 |m+1=>OJ n ae af aq (Ez n ae af aq m)
def OK(ae:fG):Option (mB×Int×Int):=(Ev n ae).bind λaf=>(N0 n (⟨ae.s,af.2.1,af.2.2⟩:fG)).bind λaq=>(D2 n 16).bind λaB=>(Eu n aB (⟨ae.s,aq.2.1,aq.2.2⟩:fG)).bind λaD=>Ez n ae af aq n aD.2.1 aD.2.2 ([]:List ahs) aD.1
def EA(n:Nat):Option (ahs×Int×Int):=some (([]:ahs),0,6)
def OL(n:Nat)(ao:(List Int)→Int→Option (ahs×Int×Int))(s:ahs)(cM:List Int)(v20:Int):Option (ahs×Int×Int):=ao cM (ahu (v20+1))
def EB(ao:(List Int)→Int→Option (ahs×Int×Int))(s:ahs)(v11:List Int)(c6:Int)(aX:Int):Option (ahs×Int×Int):=cond (cond (decide (aX<32)) true (decide (126<aX))) ( some (([]:ahs),0,5)) ( cond (decide (((v11.length:Nat):Int)=64)) ( some (([]:ahs),0,2)) ( av (room (v11.length+([aX]:List Int).length) 1)<|OL n ao s (v11++([aX]:List Int)) c6))
def OM(s:ahs)(ao:(List Int)→Int→Option (ahs×Int×Int))(v11:List Int)(v12:Int):Option (ahs×Int×Int):=cond (decide (v12<((s.length:Nat):Int))) ( av (aV v12 s.length)<|cond (decide ((((s.getD (v12).toNat 0).toNat:Nat):Int)=34)) ( av (oK v11)<|some ((jS v11),(ahu (v12+1)),0)) ( cond (decide ((((s.getD (v12).toNat 0).toNat:Nat):Int)=92)) ( cond (decide ((ahu (v12+1))=((s.length:Nat):Int))) ( EA n) ( av (aV (ahu (v12+1)) s.length)<|cond (cond (!decide ((((s.getD ((ahu (v12+1))).toNat 0).toNat:Nat):Int)=34)) (!decide ((((s.getD ((ahu (v12+1))).toNat 0).toNat:Nat):Int)=92)) false) ( some (([]:ahs),0,5)) ( EB n ao s v11 (ahu (v12+1)) (((s.getD ((ahu (v12+1))).toNat 0).toNat:Nat):Int)))) ( EB n ao s v11 v12 (((s.getD (v12).toNat 0).toNat:Nat):Int)))) ( EA n)
def EC(n:Nat)(s:ahs):Nat→(List Int)→Int→Option (ahs×Int×Int)
 | 0=>λ_ _=>none
 |m+1=>OM n s (EC n s m)
def ON(s:ahs):Option (ahs×Int×Int):=EC n s n ([]:List Int) 1
def OO(s:ahs)(c:Int):ahx:=(CQ n s c).bind λaf=>some af
def ED(s:ahs):Option ahs:=av (!(!(decide (s=([]:ahs))))||aV 0 s.length)<|Option.bind (cond (!(decide (s=([]:ahs)))) (OO n ([40,41,123,125,44,59,58,61,60,62,43,45,42,47,37]:ahs) (((s.getD 0 0).toNat:Nat):Int)) (some default)) λbE=>cond (cond (!(decide (s=([]:ahs)))) (decide (0≤bE)) false) ( av (gm 1 s.length)<|some (s.take 1)) ( some ([]:ahs))
def s5(s:ahs)(v2:Bool):Option ahs:=cond v2 ( av (gm 2 s.length)<|some (s.take 2)) ( ED n s)
def OP(s:ahs):Option ahs:=cond (decide (2≤((s.length:Nat):Int))) ( av (gm 2 s.length)<|cond (decide ((s.take 2)=([61,61]:ahs))) ( s5 n s (decide ((s.take 2)=([61,61]:ahs)))) ( cond (decide ((s.take 2)=([33,61]:ahs))) ( s5 n s (decide ((s.take 2)=([33,61]:ahs)))) ( cond (decide ((s.take 2)=([60,61]:ahs))) ( s5 n s (decide ((s.take 2)=([60,61]:ahs)))) ( cond (decide ((s.take 2)=([62,61]:ahs))) ( s5 n s (decide ((s.take 2)=([62,61]:ahs)))) ( s5 n s (decide ((s.take 2)=([43,43]:ahs)))))))) ( ED n s)
def EE(s:ahs)(v3:ahs)(v4:Bool)(v10:Int):Option (Int×Int):=av ((cond (decide (v10=0)) true (decide (v10<((v3.length:Nat):Int))))||aV 0 v3.length)<|cond (cond (cond (decide (v10=0)) true (decide (v10<((v3.length:Nat):Int)))) true (cond (decide ((((v3.getD 0 0).toNat:Nat):Int)=48)) (cond (decide (1<v10)) true v4) false)) ( some (0,5)) ( (CR n s 10 64).bind λdu=>jb.on du (λOQ=>cond (!true) ( some (0,3)) ( some (OQ,0))) (λOR=>cond (!false) ( some (0,3)) ( some (OR,0))))
def OS(s:ahs)(v3:ahs)(v4:Bool)(fE:Int→Option (Int×Int))(bp:Int):Option (Int×Int):=cond (decide (bp<((v3.length:Nat):Int))) ( av (aV bp v3.length)<|cond (cond (decide (48≤(((v3.getD (bp).toNat 0).toNat:Nat):Int))) (decide ((((v3.getD (bp).toNat 0).toNat:Nat):Int)≤57)) false) ( fE (ahu (bp+1))) ( EE n s v3 v4 bp)) ( EE n s v3 v4 bp)
def EF(n:Nat)(s:ahs)(v3:ahs)(v4:Bool):Nat→Int→Option (Int×Int)
 | 0=>λ_=>none
 |m+1=>OS n s v3 v4 (EF n s v3 v4 m)
def EG(s:ahs)(v3:ahs)(v4:Bool):Option (Int×Int):=EF n s v3 v4 n 0
def OT(s:ahs):Option (Int×Int):=av (!(decide (0<((s.length:Nat):Int)))||aV 0 s.length)<|cond (cond (decide (0<((s.length:Nat):Int))) (decide ((((s.getD 0 0).toNat:Nat):Int)=45)) false) ( av (gm 1 s.length)<|EG n s (s.drop 1) true) ( EG n s s false)
def OU(w:ahs):Option (Token×Int):=av (aV 0 w.length)<|cond (decide ((((w.getD 0 0).toNat:Nat):Int)=95)) ( some ((⟨0,[],0,0⟩:Token),5)) ( av (aV 0 w.length)<|(C1 n (IntKind.i32.wrap (((w.getD 0 0).toNat:Nat):Int))).bind λaD=>cond aD ( (C0 n w).bind λbe=>cond be ( some ((⟨2,w,0,0⟩:Token),0)) ( (re n w).bind λcq=>cond (!cq) ( some ((⟨0,[],0,0⟩:Token),2)) ( some ((⟨1,w,0,0⟩:Token),0)))) ( (OT n w).bind λd_=>cond (!decide (d_.2=0)) ( some ((⟨0,[],0,0⟩:Token),d_.2)) ( some ((⟨3,[],d_.1,0⟩:Token),0))))
def OV(s:ahs):Option (Token×Int×Int):=(yv n s).bind λaf=>cond (decide (0<af)) ( av (gm af s.length)<|(OU n (s.take (af).toNat)).bind λaD=>some (aD.1,af,aD.2)) ( av (aV 0 s.length)<|cond (decide ((((s.getD 0 0).toNat:Nat):Int)=34)) ( (ON n s).bind λcG=>some ((⟨4,cG.1,0,0⟩:Token),cG.2.1,cG.2.2)) ( (OP n s).bind λcq=>cond (decide (cq=([]:ahs))) ( some ((⟨0,[],0,0⟩:Token),0,5)) ( some ((⟨5,cq,0,0⟩:Token),((cq.length:Nat):Int),0))))
def yS(s:ahs):Option ahs:=(yu n s).bind λaf=>some af
def OW(n:Nat)(yT:List Token):Option ((List Token)×Int×Int):=some (yT,0,0)
def OX(ao:(List Token)→Int→Int→Option ((List Token)×Int×Int))(src:ahs)(aX:List Token)(cN:Int)(cM:Int):Option ((List Token)×Int×Int):=av (gm cM src.length)<|(OV n (src.drop (cM).toNat)).bind λe8=>cond (!decide (e8.2.2=0)) ( some (([]:List Token),cN,e8.2.2)) ( (yS n e8.1.Text).bind λhv=>av (room (aX.length+([(⟨e8.1.Kind,hv,e8.1.N,cN⟩:Token)]:List Token).length) 40)<|ao (aX++([(⟨e8.1.Kind,hv,e8.1.N,cN⟩:Token)]:List Token)) cN (ahu (cM+e8.2.1)))
def OY(n:Nat)(ao:(List Token)→Int→Int→Option ((List Token)×Int×Int))(src:ahs)(aX:List Token)(cN:Int)(k2:Int):Option ((List Token)×Int×Int):=ao aX cN k2
def OZ(ao:(List Token)→Int→Int→Option ((List Token)×Int×Int))(src:ahs)(aX:List Token)(cN:Int)(vf:Int→Option ((List Token)×Int×Int))(v24:Int):Option ((List Token)×Int×Int):=av (!(decide (v24<((src.length:Nat):Int)))||aV v24 src.length)<|cond (cond (decide (v24<((src.length:Nat):Int))) (!decide ((((src.getD (v24).toNat 0).toNat:Nat):Int)=10)) false) ( vf (ahu (v24+1))) ( OY n ao src aX cN v24)
def EH(n:Nat)(ao:(List Token)→Int→Int→Option ((List Token)×Int×Int))(src:ahs)(aX:List Token)(cN:Int):Nat→Int→Option ((List Token)×Int×Int)
 | 0=>λ_=>none
 |m+1=>OZ n ao src aX cN (EH n ao src aX cN m)
def EI(ao:(List Token)→Int→Int→Option ((List Token)×Int×Int))(src:ahs)(aX:List Token)(cN:Int)(cM:Int)(v21:Bool):Option ((List Token)×Int×Int):=cond v21 ( ao aX cN (ahu (cM+1))) ( cond (decide ((((src.getD (cM).toNat 0).toNat:Nat):Int)=35)) ( EH n ao src aX cN n cM) ( OX n ao src aX cN cM))
def O0(src:ahs)(ao:(List Token)→Int→Int→Option ((List Token)×Int×Int))(aX:List Token)(cN:Int)(cM:Int):Option ((List Token)×Int×Int):=cond (decide (cM<((src.length:Nat):Int))) ( av (aV cM src.length)<|cond (decide ((((src.getD (cM).toNat 0).toNat:Nat):Int)=10)) ( ao aX (ahu (cN+1)) (ahu (cM+1))) ( cond (decide ((((src.getD (cM).toNat 0).toNat:Nat):Int)=32)) ( EI n ao src aX cN cM (decide ((((src.getD (cM).toNat 0).toNat:Nat):Int)=32))) ( EI n ao src aX cN cM (decide ((((src.getD (cM).toNat 0).toNat:Nat):Int)=9))))) ( OW n aX)
def EJ(n:Nat)(src:ahs):Nat→(List Token)→Int→Int→Option ((List Token)×Int×Int)
 | 0=>λ_ _ _=>none
 |m+1=>O0 n src (EJ n src m)
def O1(src:ahs):Option ((List Token)×Int×Int):=cond (decide (16384<((src.length:Nat):Int))) ( some (([]:List Token),0,2)) ( EJ n src n ([]:List Token) 1 0)
def pP(n:Nat)(text:ahs)(ae:a1):ahw:=cond (decide (((ae.tokens.length:Nat):Int)≤ae.at_)) ( some false) ( av (aV ae.at_ ae.tokens.length)<|some (cond (cond (decide ((ahv ae.tokens (ae.at_)).Kind=2)) true (decide ((ahv ae.tokens (ae.at_)).Kind=5))) (decide (((ahv ae.tokens (ae.at_)).Text)=text)) false))
def jy(text:ahs)(ae:a1):Option (Bool×Int):=(pP n text ae).bind λaf=>cond (!af) ( some (false,ae.at_)) ( some (true,(ahu (ae.at_+1))))
def EK(n:Nat)(ae:a1):Option (aQ Unit Unit):=av (aV (ahu (((ae.tokens.length:Nat):Int)-1)) ae.tokens.length)<|some (.bb (.iface 379 (.agg [.int .i64 ((ahv ae.tokens (ahu (((ae.tokens.length:Nat):Int)-1))).ky),.int .i64 6])) ())
def EL(ae:a1):Option (aQ Unit Unit):=cond (decide (((ae.tokens.length:Nat):Int)=0)) ( some (.bb (.iface 379 (.agg [.int .i64 1,.int .i64 6])) ())) ( EK n ae)
def oT(code:Int)(ae:a1):Option (aQ Unit Unit):=cond (decide (ae.at_<((ae.tokens.length:Nat):Int))) ( av (aV ae.at_ ae.tokens.length)<|some (.bb (.iface 379 (.agg [.int .i64 ((ahv ae.tokens (ae.at_)).ky),.int .i64 code])) ())) ( EL n ae)
def je(text:ahs)(ae:a1):Option (aQ Unit Int):=(jy n text ae).bind λaf=>cond (!af.1) ( (oT n 5 (⟨ae.tokens,af.2⟩:a1)).bind λaB=>aQ.on aB (λaD bE=>some (.ret () af.2)) (λrm bE=>some (.bb rm af.2))) ( some (.ret () af.2))
def rn(s:Stmt)(ae:a1):Option (aQ Stmt Int):=(je n ([59]:ahs) ae).bind λaf=>aQ.on af (λaq aB=>some (.ret (⟨s.Op,s.Name,s.Max,⟨s.A.Op,s.A.N,s.A.S,s.A.aA⟩,⟨s.B.Op,s.B.N,s.B.S,s.B.aA⟩,s.Body,s.da⟩:Stmt) aB)) (λge aB=>some (.bb ge aB))
def yU(n:Nat)(ae:a1):Option (Int×Int):=cond (decide (((ae.tokens.length:Nat):Int)≤ae.at_)) ( some (0,0)) ( av (aV ae.at_ ae.tokens.length)<|cond (cond (!decide ((ahv ae.tokens (ae.at_)).Kind=2)) (!decide ((ahv ae.tokens (ae.at_)).Kind=5)) false) ( some (0,0)) ( cond (decide (((ahv ae.tokens (ae.at_)).Text)=([111,114]:ahs))) ( some (1,17)) ( cond (decide (((ahv ae.tokens (ae.at_)).Text)=([97,110,100]:ahs))) ( some (2,16)) ( cond (decide (((ahv ae.tokens (ae.at_)).Text)=([61,61]:ahs))) ( some (4,10)) ( cond (decide (((ahv ae.tokens (ae.at_)).Text)=([33,61]:ahs))) ( some (4,11)) ( cond (decide (((ahv ae.tokens (ae.at_)).Text)=([60]:ahs))) ( some (4,12)) ( cond (decide (((ahv ae.tokens (ae.at_)).Text)=([60,61]:ahs))) ( some (4,13)) ( cond (decide (((ahv ae.tokens (ae.at_)).Text)=([62]:ahs))) ( some (4,14)) ( cond (decide (((ahv ae.tokens (ae.at_)).Text)=([62,61]:ahs))) ( some (4,15)) ( cond (decide (((ahv ae.tokens (ae.at_)).Text)=([43,43]:ahs))) ( some (5,19)) ( cond (decide (((ahv ae.tokens (ae.at_)).Text)=([43]:ahs))) ( some (6,4)) ( cond (decide (((ahv ae.tokens (ae.at_)).Text)=([45]:ahs))) ( some (6,5)) ( cond (decide (((ahv ae.tokens (ae.at_)).Text)=([42]:ahs))) ( some (7,6)) ( cond (decide (((ahv ae.tokens (ae.at_)).Text)=([47]:ahs))) ( some (7,7)) ( cond (decide (((ahv ae.tokens (ae.at_)).Text)=([37]:ahs))) ( some (7,8)) ( some (0,0)))))))))))))))))
def yV(n:Nat)(depth:Int)(ae:a1):Option (aQ Int Unit):=some (.ret (ahu (depth+1)) ())
def s6(depth:Int)(ae:a1):Option (aQ Int Unit):=cond (decide (24≤depth)) ( (oT n 2 ae).bind λaf=>aQ.on af (λaq aB=>yV n depth ae) (λge aB=>some (.bb ge ()))) ( yV n depth ae)
def yW(n:Nat)(ae:a1):ahx:=av ((decide (((ae.tokens.length:Nat):Int)≤ae.at_))||aV ae.at_ ae.tokens.length)<|cond (cond (decide (((ae.tokens.length:Nat):Int)≤ae.at_)) true (!decide ((ahv ae.tokens (ae.at_)).Kind=2))) ( some 0) ( av (aV ae.at_ ae.tokens.length)<|cond (decide (((ahv ae.tokens (ae.at_)).Text)=([116,101,120,116]:ahs))) ( some 20) ( cond (decide (((ahv ae.tokens (ae.at_)).Text)=([108,101,110]:ahs))) ( some 21) ( cond (decide (((ahv ae.tokens (ae.at_)).Text)=([103,101,116,105,110,116]:ahs))) ( some 22) ( cond (decide (((ahv ae.tokens (ae.at_)).Text)=([103,101,116,115,116,114]:ahs))) ( some 23) ( cond (decide (((ahv ae.tokens (ae.at_)).Text)=([104,97,115]:ahs))) ( some 24) ( cond (decide (((ahv ae.tokens (ae.at_)).Text)=([110,111,119]:ahs))) ( some 25) ( cond (decide (((ahv ae.tokens (ae.at_)).Text)=([114,97,110,100,111,109]:ahs))) ( some 26) ( cond (decide (((ahv ae.tokens (ae.at_)).Text)=([110,111,100,101]:ahs))) ( some 27) ( some 0)))))))))
def EM(e9:Int→Int→a1→Option (aQ Expr Int))(fs:Int→Int→Int→a1→Option (aQ Expr Int))(fz:Int→a1→Option (aQ Expr Int))(ft:Int→a1→Option (aQ Expr Int))(level:Int)(depth:Int)(ae:a1)(ed:Int→Int→Int→ahs→(List Expr)→Option (aQ Expr Int))(v37:Int)(gV:Int)(jT:Int)(v40:ahs)(iy:List Expr):Option (aQ Expr Int):=(yU n (⟨ae.tokens,v37⟩:a1)).bind λgi=>cond (!decide (gi.1=level)) ( some (.ret (⟨gV,jT,v40,iy⟩:Expr) v37)) ( (e9 (ahu (level+1)) depth (⟨ae.tokens,(ahu (v37+1))⟩:a1)).bind λlW=>aQ.on lW (λfR hN=>cond (decide (level=4)) ( some (.ret (⟨gi.2,0,[],[⟨gV,jT,v40,iy⟩,fR]⟩:Expr) hN)) ( ed hN gi.2 0 ([]:ahs) ([(⟨gV,jT,v40,iy⟩:Expr),fR]:List Expr))) (λro hN=>some (.bb ro hN)))
def yX(n:Nat)(e9:Int→Int→a1→Option (aQ Expr Int))(fs:Int→Int→Int→a1→Option (aQ Expr Int))(fz:Int→a1→Option (aQ Expr Int))(ft:Int→a1→Option (aQ Expr Int))(level:Int)(depth:Int)(ae:a1):Nat→Int→Int→Int→ahs→(List Expr)→Option (aQ Expr Int)
 | 0=>λ_ _ _ _ _=>none
 |m+1=>EM n e9 fs fz ft level depth ae (yX n e9 fs fz ft level depth ae m)
def vn(e9:Int→Int→a1→Option (aQ Expr Int))(fs:Int→Int→Int→a1→Option (aQ Expr Int))(fz:Int→a1→Option (aQ Expr Int))(ft:Int→a1→Option (aQ Expr Int))(level:Int)(depth:Int)(ae:a1):Option (aQ Expr Int):=cond (decide (level=3)) ( (pP n ([110,111,116]:ahs) ae).bind λaq=>cond aq ( (fs 18 level depth ae).bind λaD=>aQ.on aD (λbE be=>some (.ret bE be)) (λEN be=>some (.bb EN be))) ( (e9 4 depth ae).bind λcq=>aQ.on cq (λcC d_=>some (.ret cC d_)) (λEO d_=>some (.bb EO d_)))) ( cond (decide (level=8)) ( (pP n ([45]:ahs) ae).bind λdu=>cond du ( (fs 9 level depth ae).bind λdv=>aQ.on dv (λdL eM=>some (.ret dL eM)) (λrp eM=>some (.bb rp eM))) ( (fz depth ae).bind λeE=>aQ.on eE (λes eU=>some (.ret es eU)) (λEP eU=>some (.bb EP eU)))) ( (e9 (ahu (level+1)) depth ae).bind λeL=>aQ.on eL (λfD e5=>yX n e9 fs fz ft level depth ae n e5 fD.Op fD.N fD.S fD.aA) (λEQ e5=>some (.bb EQ e5))))
def O2(e9:Int→Int→a1→Option (aQ Expr Int))(fs:Int→Int→Int→a1→Option (aQ Expr Int))(fz:Int→a1→Option (aQ Expr Int))(ft:Int→a1→Option (aQ Expr Int))(op:Int)(level:Int)(depth:Int)(ae:a1):Option (aQ Expr Int):=(s6 n depth ae).bind λaf=>aQ.on af (λaq aB=>(e9 level aq (⟨ae.tokens,(ahu (ae.at_+1))⟩:a1)).bind λbE=>aQ.on bE (λbe cG=>some (.ret (⟨op,0,[],[be]⟩:Expr) cG)) (λhX cG=>some (.bb hX cG))) (λge aB=>some (.bb ge ae.at_))
def ER(e9:Int→Int→a1→Option (aQ Expr Int))(fs:Int→Int→Int→a1→Option (aQ Expr Int))(fz:Int→a1→Option (aQ Expr Int))(ft:Int→a1→Option (aQ Expr Int))(depth:Int)(aB:Int)(ae:a1)(v2:Int):Option (aQ Expr Int):=(s6 n depth (⟨ae.tokens,v2⟩:a1)).bind λe6=>aQ.on e6 (λdp mF=>(ft dp (⟨ae.tokens,(ahu (v2+1))⟩:a1)).bind λhv=>aQ.on hv (λfH k3=>some (.ret (⟨aB,0,[],[fH]⟩:Expr) k3)) (λrq k3=>some (.bb rq k3))) (λES mF=>some (.bb ES v2))
def ET(e9:Int→Int→a1→Option (aQ Expr Int))(fs:Int→Int→Int→a1→Option (aQ Expr Int))(fz:Int→a1→Option (aQ Expr Int))(ft:Int→a1→Option (aQ Expr Int))(depth:Int)(ae:a1)(v2:Int):Option (aQ Expr Int):=(s6 n depth (⟨ae.tokens,v2⟩:a1)).bind λcC=>aQ.on cC (λd_ bT=>(ft d_ (⟨ae.tokens,v2⟩:a1)).bind λdu=>aQ.on du (λer dv=>some (.ret er dv)) (λrr dv=>some (.bb rr dv))) (λkD bT=>some (.bb kD v2))
def vo(e9:Int→Int→a1→Option (aQ Expr Int))(fs:Int→Int→Int→a1→Option (aQ Expr Int))(fz:Int→a1→Option (aQ Expr Int))(ft:Int→a1→Option (aQ Expr Int))(depth:Int)(aB:Int)(ae:a1)(v2:Int)(aX:Bool):Option (aQ Expr Int):=cond aX ( (je n ([40]:ahs) (⟨ae.tokens,(ahu (v2+1))⟩:a1)).bind λf5=>aQ.on f5 (λeE es=>(je n ([41]:ahs) (⟨ae.tokens,es⟩:a1)).bind λea=>aQ.on ea (λeL fD=>some (.ret (⟨aB,0,[],[]⟩:Expr) fD)) (λEU fD=>some (.bb EU fD))) (λEV es=>some (.bb EV es))) ( ER n e9 fs fz ft depth aB ae v2)
def vp(e9:Int→Int→a1→Option (aQ Expr Int))(fs:Int→Int→Int→a1→Option (aQ Expr Int))(fz:Int→a1→Option (aQ Expr Int))(ft:Int→a1→Option (aQ Expr Int))(depth:Int)(ae:a1)(v2:Int):Option (aQ Expr Int):=(yW n (⟨ae.tokens,v2⟩:a1)).bind λaB=>cond (decide (aB=0)) ( (pP n ([40]:ahs) (⟨ae.tokens,v2⟩:a1)).bind λaD=>cond (!aD) ( (oT n 5 (⟨ae.tokens,v2⟩:a1)).bind λbE=>aQ.on bE (λbe cG=>ET n e9 fs fz ft depth ae v2) (λhX cG=>some (.bb hX v2))) ( ET n e9 fs fz ft depth ae v2)) ( cond (decide (aB=25)) ( vo n e9 fs fz ft depth aB ae v2 (decide (aB=25))) ( cond (decide (aB=26)) ( vo n e9 fs fz ft depth aB ae v2 (decide (aB=26))) ( vo n e9 fs fz ft depth aB ae v2 (decide (aB=27)))))
def yY(e9:Int→Int→a1→Option (aQ Expr Int))(fs:Int→Int→Int→a1→Option (aQ Expr Int))(fz:Int→a1→Option (aQ Expr Int))(ft:Int→a1→Option (aQ Expr Int))(depth:Int)(ae:a1):Option (aQ Expr Int):=cond (decide (ae.at_<((ae.tokens.length:Nat):Int))) ( av (aV ae.at_ ae.tokens.length)<|cond (decide ((ahv ae.tokens (ae.at_)).Kind=3)) ( some (.ret (⟨1,(ahv ae.tokens (ae.at_)).N,[],[]⟩:Expr) (ahu (ae.at_+1)))) ( cond (decide ((ahv ae.tokens (ae.at_)).Kind=4)) ( some (.ret (⟨2,0,(ahv ae.tokens (ae.at_)).Text,[]⟩:Expr) (ahu (ae.at_+1)))) ( cond (decide ((ahv ae.tokens (ae.at_)).Kind=1)) ( some (.ret (⟨3,0,(ahv ae.tokens (ae.at_)).Text,[]⟩:Expr) (ahu (ae.at_+1)))) ( vp n e9 fs fz ft depth ae (ahu ((ahu (ae.at_+1))-1)))))) ( vp n e9 fs fz ft depth ae ae.at_)
def yZ(e9:Int→Int→a1→Option (aQ Expr Int))(fs:Int→Int→Int→a1→Option (aQ Expr Int))(fz:Int→a1→Option (aQ Expr Int))(ft:Int→a1→Option (aQ Expr Int))(depth:Int)(ae:a1):Option (aQ Expr Int):=(je n ([40]:ahs) ae).bind λaf=>aQ.on af (λaq aB=>(e9 1 depth (⟨ae.tokens,aB⟩:a1)).bind λbE=>aQ.on bE (λbe cG=>(je n ([41]:ahs) (⟨ae.tokens,cG⟩:a1)).bind λcC=>aQ.on cC (λd_ bT=>some (.ret be bT)) (λkD bT=>some (.bb kD bT))) (λhX cG=>some (.bb hX cG))) (λge aB=>some (.bb ge aB))
def iN:Nat→(Int→Int→a1→Option (aQ Expr Int))×(Int→Int→Int→a1→Option (aQ Expr Int))×(Int→a1→Option (aQ Expr Int))×(Int→a1→Option (aQ Expr Int))
 | 0=>(λ_ _ _=>none,λ_ _ _ _=>none,λ_ _=>none,λ_ _=>none)
 |m+1=>(vn m ((iN m).1) ((iN m).2.1) ((iN m).2.2.1) ((iN m).2.2.2),O2 m ((iN m).1) ((iN m).2.1) ((iN m).2.2.1) ((iN m).2.2.2),yY m ((iN m).1) ((iN m).2.1) ((iN m).2.2.1) ((iN m).2.2.2),yZ m ((iN m).1) ((iN m).2.1) ((iN m).2.2.1) ((iN m).2.2.2))
def jf:Int→Int→a1→Option (aQ Expr Int):=(iN n).1
def vq:Int→Int→Int→a1→Option (aQ Expr Int):=(iN n).2.1
def pQ:Int→a1→Option (aQ Expr Int):=(iN n).2.2.1
def ru:Int→a1→Option (aQ Expr Int):=(iN n).2.2.2
def EW(n:Nat)(ae:a1):Option (aQ Token Int):=av (aV (ahu ((ahu (ae.at_+1))-1)) ae.tokens.length)<|some (.ret (ahv ae.tokens (ahu ((ahu (ae.at_+1))-1))) (ahu (ae.at_+1)))
def pR(kind:Int)(ae:a1):Option (aQ Token Int):=av ((decide (((ae.tokens.length:Nat):Int)≤ae.at_))||aV ae.at_ ae.tokens.length)<|cond (cond (decide (((ae.tokens.length:Nat):Int)≤ae.at_)) true (!decide ((ahv ae.tokens (ae.at_)).Kind=kind))) ( (oT n 5 ae).bind λaq=>aQ.on aq (λaB aD=>EW n ae) (λrv aD=>some (.bb rv ae.at_))) ( EW n ae)
def O3(n:Nat)(f':Int→a1→Option (aQ (List Stmt) Int))(gj:Int→a1→Option (aQ Stmt Int))(gk:Int→a1→Option (aQ Stmt Int))(ae:a1)(v28:Int)(gh:List Stmt):Option (aQ (List Stmt) Int):=some (.ret gh v28)
def O4(f':Int→a1→Option (aQ (List Stmt) Int))(gj:Int→a1→Option (aQ Stmt Int))(gk:Int→a1→Option (aQ Stmt Int))(depth:Int)(ae:a1)(fE:Int→(List Stmt)→Option (aQ (List Stmt) Int))(cN:Int)(cM:List Stmt):Option (aQ (List Stmt) Int):=(jy n ([125]:ahs) (⟨ae.tokens,cN⟩:a1)).bind λes=>cond (!es.1) ( (gj (ahu (depth+1)) (⟨ae.tokens,es.2⟩:a1)).bind λeU=>aQ.on eU (λea eL=>av (room (cM.length+([ea]:List Stmt).length) 192)<|fE eL (cM++([ea]:List Stmt))) (λni eL=>some (.bb ni eL))) ( O3 n f' gj gk ae es.2 cM)
def EX(n:Nat)(f':Int→a1→Option (aQ (List Stmt) Int))(gj:Int→a1→Option (aQ Stmt Int))(gk:Int→a1→Option (aQ Stmt Int))(depth:Int)(ae:a1):Nat→Int→(List Stmt)→Option (aQ (List Stmt) Int)
 | 0=>λ_ _=>none
 |m+1=>O4 n f' gj gk depth ae (EX n f' gj gk depth ae m)
def EY(f':Int→a1→Option (aQ (List Stmt) Int))(gj:Int→a1→Option (aQ Stmt Int))(gk:Int→a1→Option (aQ Stmt Int))(depth:Int)(ae:a1):Option (aQ (List Stmt) Int):=(je n ([123]:ahs) ae).bind λbe=>aQ.on be (λcG cq=>EX n f' gj gk depth ae n cq ([]:List Stmt)) (λEZ cq=>some (.bb EZ cq))
def O5(f':Int→a1→Option (aQ (List Stmt) Int))(gj:Int→a1→Option (aQ Stmt Int))(gk:Int→a1→Option (aQ Stmt Int))(depth:Int)(ae:a1):Option (aQ (List Stmt) Int):=(pP n ([123]:ahs) ae).bind λaf=>cond (cond af (decide (12<depth)) false) ( (oT n 2 ae).bind λaq=>aQ.on aq (λaB aD=>EY n f' gj gk depth ae) (λrv aD=>some (.bb rv ae.at_))) ( EY n f' gj gk depth ae)
def E0(n:Nat)(f':Int→a1→Option (aQ (List Stmt) Int))(gj:Int→a1→Option (aQ Stmt Int))(gk:Int→a1→Option (aQ Stmt Int))(ae:a1)(kE:Expr)(rx:(List Stmt))(y0:Int)(y1:List Stmt):Option (aQ Stmt Int):=some (.ret (⟨5,[],0,kE,⟨0,0,[],[]⟩,rx,y1⟩:Stmt) y0)
def O6(f':Int→a1→Option (aQ (List Stmt) Int))(gj:Int→a1→Option (aQ Stmt Int))(gk:Int→a1→Option (aQ Stmt Int))(depth:Int)(ae:a1):Option (aQ Stmt Int):=(jy n ([108,101,116]:ahs) ae).bind λaf=>cond af.1 ( (pR n 1 (⟨ae.tokens,af.2⟩:a1)).bind λaB=>aQ.on aB (λaD bE=>(je n ([61]:ahs) (⟨ae.tokens,bE⟩:a1)).bind λcG=>aQ.on cG (λcq cC=>(jf n 1 0 (⟨ae.tokens,cC⟩:a1)).bind λbT=>aQ.on bT (λeW du=>(rn n (⟨1,aD.Text,0,eW,⟨0,0,[],[]⟩,[],[]⟩:Stmt) (⟨ae.tokens,du⟩:a1)).bind λdv=>aQ.on dv (λdL eM=>some (.ret (⟨dL.Op,dL.Name,dL.Max,⟨dL.A.Op,dL.A.N,dL.A.S,dL.A.aA⟩,⟨dL.B.Op,dL.B.N,dL.B.S,dL.B.aA⟩,dL.Body,dL.da⟩:Stmt) eM)) (λrp eM=>some (.bb rp eM))) (λE1 du=>some (.bb E1 du))) (λE2 cC=>some (.bb E2 cC))) (λrm bE=>some (.bb rm bE))) ( (jy n ([112,117,116]:ahs) (⟨ae.tokens,af.2⟩:a1)).bind λeE=>cond eE.1 ( (jf n 1 0 (⟨ae.tokens,eE.2⟩:a1)).bind λeU=>aQ.on eU (λea eL=>(je n ([61]:ahs) (⟨ae.tokens,eL⟩:a1)).bind λe5=>aQ.on e5 (λe6 dp=>(jf n 1 0 (⟨ae.tokens,dp⟩:a1)).bind λe8=>aQ.on e8 (λhv fH=>(rn n (⟨3,[],0,ea,hv,[],[]⟩:Stmt) (⟨ae.tokens,fH⟩:a1)).bind λmE=>aQ.on mE (λk4 lX=>some (.ret (⟨k4.Op,k4.Name,k4.Max,⟨k4.A.Op,k4.A.N,k4.A.S,k4.A.aA⟩,⟨k4.B.Op,k4.B.N,k4.B.S,k4.B.aA⟩,k4.Body,k4.da⟩:Stmt) lX)) (λE3 lX=>some (.bb E3 lX))) (λry fH=>some (.bb ry fH))) (λrz dp=>some (.bb rz dp))) (λni eL=>some (.bb ni eL))) ( (jy n ([100,101,108,101,116,101]:ahs) (⟨ae.tokens,eE.2⟩:a1)).bind λrA=>cond rA.1 ( (jf n 1 0 (⟨ae.tokens,rA.2⟩:a1)).bind λs2=>aQ.on s2 (λrj k1=>(rn n (⟨4,[],0,rj,⟨0,0,[],[]⟩,[],[]⟩:Stmt) (⟨ae.tokens,k1⟩:a1)).bind λlW=>aQ.on lW (λfR hN=>some (.ret (⟨fR.Op,fR.Name,fR.Max,⟨fR.A.Op,fR.A.N,fR.A.S,fR.A.aA⟩,⟨fR.B.Op,fR.B.N,fR.B.S,fR.B.aA⟩,fR.Body,fR.da⟩:Stmt) hN)) (λro hN=>some (.bb ro hN))) (λrB k1=>some (.bb rB k1))) ( (jy n ([101,109,105,116]:ahs) (⟨ae.tokens,rA.2⟩:a1)).bind λlV=>cond lV.1 ( (jf n 1 0 (⟨ae.tokens,lV.2⟩:a1)).bind λyP=>aQ.on yP (λvj nj=>(rn n (⟨7,[],0,vj,⟨0,0,[],[]⟩,[],[]⟩:Stmt) (⟨ae.tokens,nj⟩:a1)).bind λs4=>aQ.on s4 (λjd vr=>some (.ret (⟨jd.Op,jd.Name,jd.Max,⟨jd.A.Op,jd.A.N,jd.A.S,jd.A.aA⟩,⟨jd.B.Op,jd.B.N,jd.B.S,jd.B.aA⟩,jd.Body,jd.da⟩:Stmt) vr)) (λE4 vr=>some (.bb E4 vr))) (λE5 nj=>some (.bb E5 nj))) ( (jy n ([97,98,111,114,116]:ahs) (⟨ae.tokens,lV.2⟩:a1)).bind λy2=>cond y2.1 ( (pR n 3 (⟨ae.tokens,y2.2⟩:a1)).bind λmH=>aQ.on mH (λO7 vt=>(rn n (⟨8,[],O7.N,⟨0,0,[],[]⟩,⟨0,0,[],[]⟩,[],[]⟩:Stmt) (⟨ae.tokens,vt⟩:a1)).bind λvh=>aQ.on vh (λfc pO=>some (.ret (⟨fc.Op,fc.Name,fc.Max,⟨fc.A.Op,fc.A.N,fc.A.S,fc.A.aA⟩,⟨fc.B.Op,fc.B.N,fc.B.S,fc.B.aA⟩,fc.Body,fc.da⟩:Stmt) pO)) (λE6 pO=>some (.bb E6 pO))) (λE7 vt=>some (.bb E7 vt))) ( (jy n ([105,102]:ahs) (⟨ae.tokens,y2.2⟩:a1)).bind λy3=>cond y3.1 ( (jf n 1 0 (⟨ae.tokens,y3.2⟩:a1)).bind λZy=>aQ.on Zy (λkE vu=>(f' depth (⟨ae.tokens,vu⟩:a1)).bind λZz=>aQ.on Zz (λrx vv=>(jy n ([101,108,115,101]:ahs) (⟨ae.tokens,vv⟩:a1)).bind λy4=>cond y4.1 ( (f' depth (⟨ae.tokens,y4.2⟩:a1)).bind λZA=>aQ.on ZA (λO8 vw=>E0 n f' gj gk ae kE rx vw O8) (λE8 vw=>some (.bb E8 vw))) ( E0 n f' gj gk ae kE rx y4.2 ([]:List Stmt))) (λE9 vv=>some (.bb E9 vv))) (λE' vu=>some (.bb E' vu))) ( (jy n ([102,111,114]:ahs) (⟨ae.tokens,y3.2⟩:a1)).bind λy5=>cond y5.1 ( (gk depth (⟨ae.tokens,y5.2⟩:a1)).bind λZB=>aQ.on ZB (λk5 vx=>some (.ret (⟨k5.Op,k5.Name,k5.Max,⟨k5.A.Op,k5.A.N,k5.A.S,k5.A.aA⟩,⟨k5.B.Op,k5.B.N,k5.B.S,k5.B.aA⟩,k5.Body,k5.da⟩:Stmt) vx)) (λE_ vx=>some (.bb E_ vx))) ( (pR n 1 (⟨ae.tokens,y5.2⟩:a1)).bind λs0=>aQ.on s0 (λri vy=>(je n ([61]:ahs) (⟨ae.tokens,vy⟩:a1)).bind λZC=>aQ.on ZC (λyO vz=>(jf n 1 0 (⟨ae.tokens,vz⟩:a1)).bind λZD=>aQ.on ZD (λO9 vA=>(rn n (⟨2,ri.Text,0,O9,⟨0,0,[],[]⟩,[],[]⟩:Stmt) (⟨ae.tokens,vA⟩:a1)).bind λZE=>aQ.on ZE (λk6 pN=>some (.ret (⟨k6.Op,k6.Name,k6.Max,⟨k6.A.Op,k6.A.N,k6.A.S,k6.A.aA⟩,⟨k6.B.Op,k6.B.N,k6.B.S,k6.B.aA⟩,k6.Body,k6.da⟩:Stmt) pN)) (λFa pN=>some (.bb Fa pN))) (λFb vA=>some (.bb Fb vA))) (λFc vz=>some (.bb Fc vz))) (λFd vy=>some (.bb Fd vy)))))))))
def O'(f':Int→a1→Option (aQ (List Stmt) Int))(gj:Int→a1→Option (aQ Stmt Int))(gk:Int→a1→Option (aQ Stmt Int))(depth:Int)(ae:a1):Option (aQ Stmt Int):=(pR n 1 ae).bind λaf=>aQ.on af (λaq aB=>(je n ([61]:ahs) (⟨ae.tokens,aB⟩:a1)).bind λbE=>aQ.on bE (λbe cG=>(jf n 1 0 (⟨ae.tokens,cG⟩:a1)).bind λcC=>aQ.on cC (λd_ bT=>(je n ([116,111]:ahs) (⟨ae.tokens,bT⟩:a1)).bind λdu=>aQ.on du (λer dv=>(jf n 1 0 (⟨ae.tokens,dv⟩:a1)).bind λeM=>aQ.on eM (λf5 eE=>(je n ([109,97,120]:ahs) (⟨ae.tokens,eE⟩:a1)).bind λeU=>aQ.on eU (λea eL=>(pR n 3 (⟨ae.tokens,eL⟩:a1)).bind λe5=>aQ.on e5 (λe6 dp=>(f' depth (⟨ae.tokens,dp⟩:a1)).bind λe8=>aQ.on e8 (λhv fH=>some (.ret (⟨6,aq.Text,e6.N,d_,f5,hv,[]⟩:Stmt) fH)) (λry fH=>some (.bb ry fH))) (λrz dp=>some (.bb rz dp))) (λni eL=>some (.bb ni eL))) (λFe eE=>some (.bb Fe eE))) (λrr dv=>some (.bb rr dv))) (λkD bT=>some (.bb kD bT))) (λhX cG=>some (.bb hX cG))) (λge aB=>some (.bb ge aB))
def mI:Nat→(Int→a1→Option (aQ (List Stmt) Int))×(Int→a1→Option (aQ Stmt Int))×(Int→a1→Option (aQ Stmt Int))
 | 0=>(λ_ _=>none,λ_ _=>none,λ_ _=>none)
 |m+1=>(O5 m ((mI m).1) ((mI m).2.1) ((mI m).2.2),O6 m ((mI m).1) ((mI m).2.1) ((mI m).2.2),O' m ((mI m).1) ((mI m).2.1) ((mI m).2.2))
def Ff:Int→a1→Option (aQ (List Stmt) Int):=(mI n).1
def ZF:Int→a1→Option (aQ Stmt Int):=(mI n).2.1
def ZG:Int→a1→Option (aQ Stmt Int):=(mI n).2.2
def vB(n:Nat)(ae:a1)(aq:Token)(c6:Int)(aX:Int):Option (aQ Param Int):=some (.ret (⟨aq.Text,aX⟩:Param) c6)
def Fg(ae:a1):Option (aQ Param Int):=(pR n 1 ae).bind λaf=>aQ.on af (λaq aB=>(je n ([58]:ahs) (⟨ae.tokens,aB⟩:a1)).bind λbE=>aQ.on bE (λbe cG=>(jy n ([105,110,116]:ahs) (⟨ae.tokens,cG⟩:a1)).bind λcC=>cond cC.1 ( vB n ae aq cC.2 1) ( (jy n ([115,116,114]:ahs) (⟨ae.tokens,cC.2⟩:a1)).bind λd_=>cond d_.1 ( vB n ae aq d_.2 2) ( (jy n ([98,111,111,108]:ahs) (⟨ae.tokens,d_.2⟩:a1)).bind λbT=>cond bT.1 ( vB n ae aq bT.2 3) ( (oT n 5 (⟨ae.tokens,bT.2⟩:a1)).bind λeW=>aQ.on eW (λdu er=>vB n ae aq bT.2 0) (λFh er=>some (.bb Fh bT.2)))))) (λhX cG=>some (.bb hX cG))) (λge aB=>some (.bb ge aB))
def Fj(ae:a1)(be:Token)(y6:Int)(y7:List Param):Option (aQ bh Int):=(Ff n 0 (⟨ae.tokens,y6⟩:a1)).bind λhN=>aQ.on hN (λvi lV=>some (.ret (⟨be.Text,y7,vi⟩:bh) lV)) (λFk lV=>some (.bb Fk lV))
def O_(ae:a1)(be:Token)(v37:Int)(gV:List Param):Option (aQ bh Int):=(je n ([41]:ahs) (⟨ae.tokens,v37⟩:a1)).bind λs2=>aQ.on s2 (λrj k1=>Fj n ae be k1 gV) (λrB k1=>some (.bb rB k1))
def Pa(ae:a1)(be:Token)(fE:Int→(List Param)→Option (aQ bh Int))(k2:Int)(v28:List Param):Option (aQ bh Int):=(jy n ([44]:ahs) (⟨ae.tokens,k2⟩:a1)).bind λe8=>cond e8.1 ( (Fg n (⟨ae.tokens,e8.2⟩:a1)).bind λhv=>aQ.on hv (λfH k3=>av (room (v28.length+([fH]:List Param).length) 24)<|fE k3 (v28++([fH]:List Param))) (λrq k3=>some (.bb rq k3))) ( O_ n ae be e8.2 v28)
def Fl(n:Nat)(ae:a1)(be:Token):Nat→Int→(List Param)→Option (aQ bh Int)
 | 0=>λ_ _=>none
 |m+1=>Pa n ae be (Fl n ae be m)
def Pb(ae:a1):Option (aQ bh Int):=(je n ([112,114,111,99]:ahs) ae).bind λaf=>aQ.on af (λaq aB=>(pR n 1 (⟨ae.tokens,aB⟩:a1)).bind λbE=>aQ.on bE (λbe cG=>(je n ([40]:ahs) (⟨ae.tokens,cG⟩:a1)).bind λcC=>aQ.on cC (λd_ bT=>(jy n ([41]:ahs) (⟨ae.tokens,bT⟩:a1)).bind λdu=>cond (!du.1) ( (Fg n (⟨ae.tokens,du.2⟩:a1)).bind λer=>aQ.on er (λdv dL=>av (room (([]:List Param).length+([dv]:List Param).length) 24)<|Fl n ae be n dL (([]:List Param)++([dv]:List Param))) (λFm dL=>some (.bb Fm dL))) ( Fj n ae be du.2 ([]:List Param))) (λkD bT=>some (.bb kD bT))) (λhX cG=>some (.bb hX cG))) (λge aB=>some (.bb ge aB))
def Pc(ae:a1)(e7:bh):Option (aQ Unit (Int×ahs×(List Param)×(List Stmt))):=(Pb n ae).bind λaf=>aQ.on af (λaq aB=>some (.ret () (aB,aq.Name,aq.Params,aq.Body))) (λge aB=>some (.bb ge (aB,e7.Name,e7.Params,e7.Body)))
def Pd(n:Nat)(ae:a1):Option (aQ Unit Unit):=av (aV (ahu (((ae.tokens.length:Nat):Int)-1)) ae.tokens.length)<|some (.bb (.iface 379 (.agg [.int .i64 ((ahv ae.tokens (ahu (((ae.tokens.length:Nat):Int)-1))).ky),.int .i64 6])) ())
def Pe(ae:a1):Option (aQ Unit Unit):=cond (decide (((ae.tokens.length:Nat):Int)=0)) ( some (.bb (.iface 379 (.agg [.int .i64 1,.int .i64 6])) ())) ( Pd n ae)
def Pf(code:Int)(ae:a1):Option (aQ Unit Unit):=cond (decide (ae.at_<((ae.tokens.length:Nat):Int))) ( av (aV ae.at_ ae.tokens.length)<|some (.bb (.iface 379 (.agg [.int .i64 ((ahv ae.tokens (ae.at_)).ky),.int .i64 code])) ())) ( Pe n ae)
def Fn(src:ahs)(ae:bh):Option (Int×Int×ahs×(List Param)×(List Stmt)):=(O1 n src).bind λaf=>cond (!decide (af.2.2=0)) (some (af.2.1,af.2.2,ae.Name,ae.Params,ae.Body)) ((Pc n (⟨af.1,0⟩:a1) ae).bind λaq=>aQ.on aq (λcv k7=>cond (decide (k7.1<((af.1.length:Nat):Int))) ((Pf n 5 (⟨af.1,k7.1⟩:a1)).bind λaB=>aQ.on aB (λcy Fo=>none) (λet Fo=>(yc 379 et).bind λlc=>some (lc.1,lc.2,k7.2.1,k7.2.2.1,k7.2.2.2))) (some (0,0,k7.2.1,k7.2.2.1,k7.2.2.2))) (λet k7=>(yc 379 et).bind λlc=>some (lc.1,lc.2,k7.2.1,k7.2.2.1,k7.2.2.2)))
def Fp(n:Nat)(af:Int×Int×ahs×(List Param)×(List Stmt))(v3:Int):Option (bh×Int×Int):=cond (!decide (v3=0)) ( some ((⟨[],[],[]⟩:bh),af.1,v3)) ( some ((⟨af.2.2.1,af.2.2.2.1,af.2.2.2.2⟩:bh),0,0))
def Pg(src:ahs):Option (bh×Int×Int):=(Fn n src (⟨[],[],[]⟩:bh)).bind λaf=>cond (decide (af.2.1=0)) ( (Dz n (⟨af.2.2.1,af.2.2.2.1,af.2.2.2.2⟩:bh)).bind λaq=>Fp n af aq) ( Fp n af af.2.1)
def Ph(n:Nat)(bx:List bh):Option ((List bh)×Bool):=some (bx,true)
def Pi(l:List ahs)(ao:Int→(List bh)→Option ((List bh)×Bool))(bp:Int)(bq:List bh):Option ((List bh)×Bool):=cond (decide (bp<((l.length:Nat):Int))) ( av (aV bp l.length)<|(Pg n (ahv l bp)).bind λd_=>Option.bind (cond (!(!decide (d_.2.2=0))) (yL n d_.1) (some default)) λbT=>cond (cond (!decide (d_.2.2=0)) true (!(decide (bT=(ahv l bp))))) ( some (([]:List bh),false)) ( av (room (bq.length+([d_.1]:List bh).length) 64)<|ao (ahu (bp+1)) (bq++([d_.1]:List bh)))) ( Ph n bq)
def Fq(n:Nat)(l:List ahs):Nat→Int→(List bh)→Option ((List bh)×Bool)
 | 0=>λ_ _=>none
 |m+1=>Pi n l (Fq n l m)
def Pj(l:List ahs):Option ((List bh)×Bool):=Fq n l n 0 ([]:List bh)
def Pk(n:Nat)(l:List bf):ahw:=some (decide (((l.length:Nat):Int)≤32))
def Pl(l:List bf)(ao:Int→ahw)(v5:Int):ahw:=cond (decide (v5<((l.length:Nat):Int))) ( av (aV v5 l.length)<|(rc n ((ahv l v5).Key)).bind λcG=>av ((cond (cond (!cG) true (decide ((ahv l v5).Count<1))) true (decide (1099511627776<(ahv l v5).Count)))||(!(decide (0<v5))||aV (ahu (v5-1)) l.length))<|cond (cond (cond (cond (!cG) true (decide ((ahv l v5).Count<1))) true (decide (1099511627776<(ahv l v5).Count))) true (cond (decide (0<v5)) (!(Op.bytesLess ((ahv l (ahu (v5-1))).Key) ((ahv l v5).Key))) false)) ( some false) ( ao (ahu (v5+1)))) ( Pk n l)
def Fr(n:Nat)(l:List bf):Nat→Int→ahw
 | 0=>λ_=>none
 |m+1=>Pl n l (Fr n l m)
def Pm(l:List bf):ahw:=Fr n l n 0
def Pn(n:Nat):ahw:=some true
def Po(l:List bh)(ao:Int→ahw)(v6:Int):ahw:=cond (decide (v6<((l.length:Nat):Int))) ( av (aV v6 l.length)<|(yL n (ahv l v6)).bind λcq=>av ((cond (decide (cq=([]:ahs))) true (decide (16384<((cq.length:Nat):Int))))||(!(decide (0<v6))||aV (ahu (v6-1)) l.length))<|cond (cond (cond (decide (cq=([]:ahs))) true (decide (16384<((cq.length:Nat):Int)))) true (cond (decide (0<v6)) ((Op.bytesLess ((ahv l v6).Name) ((ahv l (ahu (v6-1))).Name))||(decide (((ahv l v6).Name)=((ahv l (ahu (v6-1))).Name)))) false)) ( some false) ( ao (ahu (v6+1)))) ( Pn n)
def Fs(n:Nat)(l:List bh):Nat→Int→ahw
 | 0=>λ_=>none
 |m+1=>Po n l (Fs n l m)
def Pp(l:List bh):ahw:=cond (decide (16<((l.length:Nat):Int))) ( some false) ( Fs n l n 0)
def Pq(ai:bS):ahw:=(yM n ai.cB).bind λbT=>Option.bind (cond bT (Ed n ai.Place) (some default)) λeW=>Option.bind (cond (cond bT eW false) (Pm n ai.bf) (some default)) λdu=>some (cond (cond bT eW false) du false)
def Pr(ai:bS)(ao:Int→ahw)(bp:Int):ahw:=cond (decide (bp<((ai.Queue.length:Nat):Int))) ( av (aV bp ai.Queue.length)<|(u' n (⟨(ahv ai.Queue bp).Client,(ahv ai.Queue bp).Seq,(ahv ai.Queue bp).bh,(ahv ai.Queue bp).aA,(ahv ai.Queue bp).fM,⟨((ahv ai.Queue bp).b9).eX,((ahv ai.Queue bp).b9).Reads,((ahv ai.Queue bp).b9).dB⟩⟩:Request)).bind λcC=>cond (!decide (cC=0)) ( some false) ( ao (ahu (bp+1)))) ( Pq n ai)
def Ft(n:Nat)(ai:bS):Nat→Int→ahw
 | 0=>λ_=>none
 |m+1=>Pr n ai (Ft n ai m)
def y8(ai:bS):ahw:=Option.bind (cond (!(cond (decide (ai.Pos<0)) true (decide (1099511627776<ai.Pos)))) (sX n ai.ar) (some default)) λaf=>Option.bind (cond (!(cond (cond (cond (decide (ai.Pos<0)) true (decide (1099511627776<ai.Pos))) true (!af)) true (!decide (ai.ar.bm=ai.Pos)))) (Pp n ai.cj) (some default)) λaq=>cond (cond (cond (cond (cond (cond (decide (ai.Pos<0)) true (decide (1099511627776<ai.Pos))) true (!af)) true (!decide (ai.ar.bm=ai.Pos))) true (!aq)) true (decide (64<((ai.Queue.length:Nat):Int)))) ( some false) ( Ft n ai n 0)
def Ps(n:Nat)(at_:Int)(c':List Row):Option (ar×Int):=some ((⟨at_,at_,c'⟩:ar),0)
def Pt(at_:Int)(l:List aJ)(ao:(List Row)→Int→Option (ar×Int))(bp:List Row)(bq:Int):Option (ar×Int):=cond (decide (bq<((l.length:Nat):Int))) ( av (aV bq l.length)<|av (room (bp.length+([(⟨(ahv l bq).Key,[⟨at_,⟨((ahv l bq).bk).Kind,((ahv l bq).bk).N,((ahv l bq).bk).S⟩⟩]⟩:Row)]:List Row).length) 40)<|ao (bp++([(⟨(ahv l bq).Key,[⟨at_,⟨((ahv l bq).bk).Kind,((ahv l bq).bk).N,((ahv l bq).bk).S⟩⟩]⟩:Row)]:List Row)) (ahu (bq+1))) ( Ps n at_ bp)
def Fu(n:Nat)(at_:Int)(l:List aJ):Nat→(List Row)→Int→Option (ar×Int)
 | 0=>λ_ _=>none
 |m+1=>Pt n at_ l (Fu n at_ l m)
def Fv(l:List aJ)(at_:Int):Option (ar×Int):=(D5 n l).bind λaf=>cond (cond (cond (!af) true (decide (at_<0))) true (decide (1099511627776<at_))) ( some ((⟨0,0,[]⟩:ar),1)) ( Fu n at_ l n ([]:List Row) 0)
def Fw(s:ahs):Option (bS×Int):=(OK n (⟨s,0,0⟩:fG)).bind λaf=>cond (!decide (af.2.2=0)) ( some ((⟨0,⟨0,0,[]⟩,[],[],⟨0,[]⟩,[],[],0⟩:bS),af.2.2)) ( cond (cond (cond (!decide (af.2.1=((s.length:Nat):Int))) true (decide (af.1.fy.Pos<0))) true (decide (1099511627776<af.1.fy.Pos))) ( some ((⟨0,⟨0,0,[]⟩,[],[],⟨0,[]⟩,[],[],0⟩:bS),5)) ( (Pj n af.1.sources).bind λaD=>cond (!aD.2) ( some ((⟨0,⟨0,0,[]⟩,[],[],⟨0,[]⟩,[],[],0⟩:bS),5)) ( (Fv n af.1.CP af.1.fy.Pos).bind λbe=>cond (!decide (be.2=0)) ( some ((⟨0,⟨0,0,[]⟩,[],[],⟨0,[]⟩,[],[],0⟩:bS),5)) ( (y8 n (⟨af.1.fy.Pos,be.1,aD.1,af.1.fy.cB,af.1.fy.Place,af.1.fy.bf,af.1.fy.Queue,af.1.fy.cE⟩:bS)).bind λcq=>cond (!cq) ( some ((⟨0,⟨0,0,[]⟩,[],[],⟨0,[]⟩,[],[],0⟩:bS),5)) ( some ((⟨af.1.fy.Pos,be.1,aD.1,af.1.fy.cB,af.1.fy.Place,af.1.fy.bf,af.1.fy.Queue,af.1.fy.cE⟩:bS),0))))))
def Pu(ai:bS):Option (bS×Int):=(y8 n ai).bind λaf=>cond (!af) ( some ((⟨0,⟨0,0,[]⟩,[],[],⟨0,[]⟩,[],[],0⟩:bS),1)) ( (D1 n ai).bind λaB=>(Fw n aB).bind λaD=>some (aD.1,aD.2))
def Pv(ai:bS):Option (dA×Int):=(Pu n ai).bind λaf=>cond (!decide (af.2=0)) ( some ((⟨0,⟨0,⟨0,0,[]⟩,[],[],⟨0,[]⟩,[],[],0⟩,[],false,[],[]⟩:dA),1)) ( some ((⟨ai.Pos,⟨ai.Pos,⟨0,0,[]⟩,ai.cj,ai.cB,ai.Place,ai.bf,ai.Queue,ai.cE⟩,[],false,[],[]⟩:dA),0))
def Fx(n:Nat):ahw:=some true
def y9(s:ar)(ao:Int→ahw)(v4:Int):ahw:=cond (decide (v4<((s.Rows.length:Nat):Int))) ( av (aV v4 s.Rows.length)<|cond (decide (40<((((ahv s.Rows v4).bd).length:Nat):Int))) ( some false) ( ao (ahu (v4+1)))) ( Fx n)
def s7(n:Nat)(s:ar):Nat→Int→ahw
 | 0=>λ_=>none
 |m+1=>y9 n s (s7 n s m)
def vC(s:ar):ahw:=cond (decide (60<((s.Rows.length:Nat):Int))) ( some false) ( s7 n s n 0)
def Pw(ai:bS):Option (ahs×Int):=(y8 n ai).bind λaf=>cond (!af) ( some (([]:ahs),1)) ( (D1 n ai).bind λaB=>cond (decide (16384<((aB.length:Nat):Int))) ( some (([]:ahs),2)) ( some (aB,0)))
def Fy(n:Nat)(bU:List Int):ahx:=some ((bU.length:Nat):Int)
def Px(c:dA)(v24:List Int):Option (ahs×Int×Int):=(Fy n v24).bind λe5=>cond (cond (decide (16384<e5)) true (decide ((ahu (1099511627776-c.b4))<((c.eD.length:Nat):Int)))) ( some (([]:ahs),0,2)) ( (rf n v24).bind λdp=>some (dp.1,(ahu (c.b4+((c.eD.length:Nat):Int))),0))
def Py(c:dA)(ao:(List Int)→Int→Option (ahs×Int×Int))(c6:List Int)(aX:Int):Option (ahs×Int×Int):=cond (decide (aX<((c.eD.length:Nat):Int))) ( av (aV aX c.eD.length)<|Option.bind (cond (!(decide (4096<(((ahv c.eD aX).length:Nat):Int)))) (Fy n c6) (some default)) λeE=>cond (cond (decide (4096<(((ahv c.eD aX).length:Nat):Int))) true (decide (16384<eE))) ( some (([]:ahs),0,2)) ( (ne n (ahv c.eD aX)).bind λes=>(ix n es c6).bind λeU=>ao eU.2 (ahu (aX+1)))) ( Px n c c6)
def Fz(n:Nat)(c:dA):Nat→(List Int)→Int→Option (ahs×Int×Int)
 | 0=>λ_ _=>none
 |m+1=>Py n c (Fz n c m)
def FA(c:dA):Option (ahs×Int×Int):=cond (!c.cY) ( some (([]:ahs),0,16)) ( (Fv n c.dO c.b4).bind λaq=>cond (!decide (aq.2=0)) ( some (([]:ahs),0,aq.2)) ( (Pw n (⟨c.Rest.Pos,aq.1,c.Rest.cj,c.Rest.cB,c.Rest.Place,c.Rest.bf,c.Rest.Queue,c.Rest.cE⟩:bS)).bind λaD=>cond (!decide (aD.2=0)) ( some (([]:ahs),0,aD.2)) ( (ne n aD.1).bind λbe=>(hV n (IntKind.u64.wrap ((c.eD.length:Nat):Int))).bind λcG=>av (bW (be.length+cG.length))<|(ix n (be++cG) ([]:List Int)).bind λcC=>Fz n c n cC.2 0)))
def y'(n:Nat)(s:List aJ):Option (List aJ):=av (room (([]:List aJ).length+s.length) 48)<|some (([]:List aJ)++s)
def y_(n:Nat)(s:List ahs):Option (List ahs):=av (room (([]:List ahs).length+s.length) 16)<|some (([]:List ahs)++s)
def vD(c:dA):Option dA:=(y' n c.dO).bind λaf=>(y_ n c.eD).bind λaq=>some (⟨c.b4,c.Rest,c.Next,c.cY,af,aq⟩:dA)
def Pz(c:dA)(data:ahs):Option dA:=(vD n c).bind λaf=>av (room (af.eD.length+([data]:List ahs).length) 16)<|some (⟨af.b4,af.Rest,af.Next,af.cY,af.dO,(af.eD++([data]:List ahs))⟩:dA)
def FB(n:Nat)(af:ahs×Int×Int)(ae:ahs)(v2:Int):Option (ahs×Int×Int):=some (af.1,af.2.2,v2)
def FC(dU:Int)(ae:ahs)(e7:Int):Option (ahs×Int×Int):=(rl n ae e7 dU).bind λaf=>cond (decide (af.2.2=0)) ( FB n af ae af.2.1) ( FB n af ae e7)
def PA(s:ahs):Option (bS×Int):=cond (decide (16384<((s.length:Nat):Int))) ( some ((⟨0,⟨0,0,[]⟩,[],[],⟨0,[]⟩,[],[],0⟩:bS),2)) ( (Fw n s).bind λaq=>some (aq.1,aq.2))
def PB(n:Nat)(be:Int×Int×Int)(s:ahs)(aD:bS×Int)(v21:Int)(v22:List ahs):Option (bS×(List ahs)×Int):=cond (cond (!decide (v21=((s.length:Nat):Int))) true (decide ((ahu (1099511627776-aD.1.Pos))<be.1))) ( some ((⟨0,⟨0,0,[]⟩,[],[],⟨0,[]⟩,[],[],0⟩:bS),([]:List ahs),5)) ( some (aD.1,v22,0))
def PC(be:Int×Int×Int)(s:ahs)(aD:bS×Int)(ao:Int→(List ahs)→Int→Option (bS×(List ahs)×Int))(c':Int)(bL:List ahs)(bx:Int):Option (bS×(List ahs)×Int):=cond (decide (bx<be.1)) ( (FC n 4096 s c').bind λdL=>cond (!decide (dL.2.1=0)) ( some ((⟨0,⟨0,0,[]⟩,[],[],⟨0,[]⟩,[],[],0⟩:bS),([]:List ahs),dL.2.1)) ( av (room (bL.length+([dL.1]:List ahs).length) 16)<|ao dL.2.2 (bL++([dL.1]:List ahs)) (ahu (bx+1)))) ( PB n be s aD c' bL)
def FD(n:Nat)(be:Int×Int×Int)(s:ahs)(aD:bS×Int):Nat→Int→(List ahs)→Int→Option (bS×(List ahs)×Int)
 | 0=>λ_ _ _=>none
 |m+1=>PC n be s aD (FD n be s aD m)
def PD(s:ahs):Option (bS×(List ahs)×Int):=cond (decide (16384<((s.length:Nat):Int))) ( some ((⟨0,⟨0,0,[]⟩,[],[],⟨0,[]⟩,[],[],0⟩:bS),([]:List ahs),2)) ( (FC n 16384 s 0).bind λaq=>cond (!decide (aq.2.1=0)) ( some ((⟨0,⟨0,0,[]⟩,[],[],⟨0,[]⟩,[],[],0⟩:bS),([]:List ahs),aq.2.1)) ( (PA n aq.1).bind λaD=>cond (!decide (aD.2=0)) ( some ((⟨0,⟨0,0,[]⟩,[],[],⟨0,[]⟩,[],[],0⟩:bS),([]:List ahs),aD.2)) ( (n5 n s aq.2.2 16384).bind λbe=>cond (!decide (be.2.2=0)) ( some ((⟨0,⟨0,0,[]⟩,[],[],⟨0,[]⟩,[],[],0⟩:bS),([]:List ahs),be.2.2)) ( FD n be s aD n be.2.1 ([]:List ahs) 0))))
def FE(n:Nat)(c:Int):ahw:=some (cond (decide (33≤c)) (decide (c≤126)) false)
def FF(n:Nat):ahw:=some true
def za(s:ahs)(ao:Int→ahw)(v5:Int):ahw:=cond (decide (v5<((s.length:Nat):Int))) ( av (aV v5 s.length)<|(FE n (((s.getD (v5).toNat 0).toNat:Nat):Int)).bind λcG=>cond (!cG) ( some false) ( ao (ahu (v5+1)))) ( FF n)
def s8(n:Nat)(s:ahs):Nat→Int→ahw
 | 0=>λ_=>none
 |m+1=>za n s (s8 n s m)
def FG(s:ahs):ahw:=cond (decide (24<((s.length:Nat):Int))) ( some false) ( s8 n s n 0)
def vE(s:ahs):ahw:=(FG n s).bind λaf=>some af
def s9(ai:Range):ahw:=(vE n ai.ez).bind λaf=>Option.bind (cond af (vE n ai.mA) (some default)) λaq=>some (cond (cond af aq false) (cond (decide (ai.mA=([]:ahs))) true (!((Op.bytesLess ai.mA ai.ez)||(decide (ai.mA=ai.ez))))) false)
def zb(ai:Range)(k:ahs):ahw:=(s9 n ai).bind λaf=>some (cond (cond af ((Op.bytesLess ai.ez k)||(decide (ai.ez=k))) false) (cond (decide (ai.mA=([]:ahs))) true (Op.bytesLess k ai.mA)) false)
def FH(n:Nat)(cM:List aJ):Option ((List aJ)×ahs×Int):=some (cM,([]:ahs),0)
def vF(n:Nat)(ao:(List aJ)→Int→Option ((List aJ)×ahs×Int))(dU:Int)(aB:(List aJ)×Int)(v12:Int)(ai:Range)(c6:List aJ):Option ((List aJ)×ahs×Int):=ao c6 (ahu (v12+1))
def FI(dU:Int)(aB:(List aJ)×Int)(ai:Range)(ao:(List aJ)→Int→Option ((List aJ)×ahs×Int))(v11:List aJ)(v12:Int):Option ((List aJ)×ahs×Int):=cond (decide (v12<((aB.1.length:Nat):Int))) ( av (aV v12 aB.1.length)<|(zb n ai ((ahv aB.1 v12).Key)).bind λer=>cond (!er) ( vF n ao dU aB v12 ai v11) ( cond (decide (dU≤((v11.length:Nat):Int))) ( some (v11,(ahv aB.1 v12).Key,0)) ( av (room (v11.length+([(⟨(ahv aB.1 v12).Key,⟨((ahv aB.1 v12).bk).Kind,((ahv aB.1 v12).bk).N,((ahv aB.1 v12).bk).S⟩⟩:aJ)]:List aJ).length) 48)<|vF n ao dU aB v12 ai (v11++([(⟨(ahv aB.1 v12).Key,⟨((ahv aB.1 v12).bk).Kind,((ahv aB.1 v12).bk).N,((ahv aB.1 v12).bk).S⟩⟩:aJ)]:List aJ))))) ( FH n v11)
def vG(n:Nat)(dU:Int)(aB:(List aJ)×Int)(ai:Range):Nat→(List aJ)→Int→Option ((List aJ)×ahs×Int)
 | 0=>λ_ _=>none
 |m+1=>FI n dU aB ai (vG n dU aB ai m)
def zc(s:ar)(at_:Int)(ai:Range)(dU:Int):Option ((List aJ)×ahs×Int):=(s9 n ai).bind λaf=>cond (!af) ( some (([]:List aJ),([]:ahs),1)) ( (vc n s at_).bind λaB=>cond (!decide (aB.2=0)) ( some (([]:List aJ),([]:ahs),aB.2)) ( vG n dU aB ai n ([]:List aJ) 0))
def pS(c:dA)(s:ar)(ep:Int):Option (dA×Int):=Option.bind (cond (!(decide (ep<1))) (sX n s) (some default)) λaf=>Option.bind (cond (!(cond (decide (ep<1)) true (!af))) (s9 n (⟨c.Next,[]⟩:Range)) (some default)) λaq=>cond (cond (cond (decide (ep<1)) true (!af)) true (!aq)) ( some ((⟨0,⟨0,⟨0,0,[]⟩,[],[],⟨0,[]⟩,[],[],0⟩,[],false,[],[]⟩:dA),1)) ( (vD n c).bind λaD=>cond c.cY ( some (aD,0)) ( (zc n s c.b4 (⟨c.Next,[]⟩:Range) ep).bind λbe=>cond (!decide (be.2.2=0)) ( some ((⟨0,⟨0,⟨0,0,[]⟩,[],[],⟨0,[]⟩,[],[],0⟩,[],false,[],[]⟩:dA),be.2.2)) ( av (room (aD.dO.length+be.1.length) 48)<|some ((⟨aD.b4,aD.Rest,be.2.1,(decide (be.2.1=([]:ahs))),(aD.dO++be.1),aD.eD⟩:dA),0))))
def zd(n:Nat)(k:ahs):Option aJ:=some (⟨k,⟨1,1,[]⟩⟩:aJ)
def PE(n:Nat):ahw:=some true
def FJ(s:ahs)(ao:Int→ahw)(v5:Int):ahw:=cond (decide (v5<((s.length:Nat):Int))) ( av (aV v5 s.length)<|av ((decide ((((s.getD (v5).toNat 0).toNat:Nat):Int)<32))||aV v5 s.length)<|cond (cond (decide ((((s.getD (v5).toNat 0).toNat:Nat):Int)<32)) true (decide (126<(((s.getD (v5).toNat 0).toNat:Nat):Int)))) ( some false) ( ao (ahu (v5+1)))) ( PE n)
def vH(n:Nat)(s:ahs):Nat→Int→ahw
 | 0=>λ_=>none
 |m+1=>FJ n s (vH n s m)
def ze(s:ahs):ahw:=cond (decide (64<((s.length:Nat):Int))) ( some false) ( vH n s n 0)
def pT(v:bv):ahw:=cond (decide (v.Kind=0)) ( some (cond (decide (v.N=0)) (decide (v.S=([]:ahs))) false)) ( cond (decide (v.Kind=1)) ( some (decide (v.S=([]:ahs)))) ( Option.bind (cond (cond (decide (v.Kind=2)) (decide (v.N=0)) false) (ze n v.S) (some default)) λaB=>some (cond (cond (decide (v.Kind=2)) (decide (v.N=0)) false) aB false)))
def FK(n:Nat)(k:ahs):ahw:=some (cond (decide (1≤((k.length:Nat):Int))) (decide (((k.length:Nat):Int)≤24)) false)
def zf(k:ahs)(ao:Int→ahw)(v3:Int):ahw:=cond (decide (v3<((k.length:Nat):Int))) ( av (aV v3 k.length)<|cond (cond (cond (cond (cond (cond (cond (decide ((((k.getD (v3).toNat 0).toNat:Nat):Int)<97)) true (decide (122<(((k.getD (v3).toNat 0).toNat:Nat):Int)))) (cond (decide ((((k.getD (v3).toNat 0).toNat:Nat):Int)<48)) true (decide (57<(((k.getD (v3).toNat 0).toNat:Nat):Int)))) false) (!decide ((((k.getD (v3).toNat 0).toNat:Nat):Int)=47)) false) (!decide ((((k.getD (v3).toNat 0).toNat:Nat):Int)=46)) false) (!decide ((((k.getD (v3).toNat 0).toNat:Nat):Int)=95)) false) (!decide ((((k.getD (v3).toNat 0).toNat:Nat):Int)=45)) false) ( some false) ( ao (ahu (v3+1)))) ( FK n k)
def s'(n:Nat)(k:ahs):Nat→Int→ahw
 | 0=>λ_=>none
 |m+1=>zf n k (s' n k m)
def rC(k:ahs):ahw:=s' n k n 0
def PF(n:Nat):ahw:=some true
def PG(l:List aJ)(ao:Int→ahw)(v6:Int):ahw:=cond (decide (v6<((l.length:Nat):Int))) ( av (aV v6 l.length)<|(rC n ((ahv l v6).Key)).bind λcq=>av ((!cq)||(!(decide (0<v6))||aV v6 l.length))<|av ((!cq)||(!(decide (0<v6))||aV (ahu (v6-1)) l.length))<|cond (cond (!cq) true (cond (decide (0<v6)) ((Op.bytesLess ((ahv l v6).Key) ((ahv l (ahu (v6-1))).Key))||(decide (((ahv l v6).Key)=((ahv l (ahu (v6-1))).Key)))) false)) ( some false) ( ao (ahu (v6+1)))) ( PF n)
def FL(n:Nat)(l:List aJ):Nat→Int→ahw
 | 0=>λ_=>none
 |m+1=>PG n l (FL n l m)
def PH(l:List aJ):ahw:=FL n l n 0
def PI(l:List aJ):ahw:=(PH n l).bind λcq=>some cq
def PJ(l:List aJ)(ao:Int→ahw)(v4:Int):ahw:=cond (decide (v4<((l.length:Nat):Int))) ( av (aV v4 l.length)<|(pT n ((ahv l v4).bk)).bind λbe=>cond (!be) ( some false) ( ao (ahu (v4+1)))) ( PI n l)
def FM(n:Nat)(l:List aJ):Nat→Int→ahw
 | 0=>λ_=>none
 |m+1=>PJ n l (FM n l m)
def FN(l:List aJ):ahw:=FM n l n 0
def PK(l:List aJ):ahw:=(FN n l).bind λbe=>some be
def PL(l:List aJ)(ao:Int→ahw)(v3:Int):ahw:=cond (decide (v3<((l.length:Nat):Int))) ( av (aV v3 l.length)<|cond (decide (((ahv l v3).bk).Kind=0)) ( some false) ( ao (ahu (v3+1)))) ( PK n l)
def FO(n:Nat)(l:List aJ):Nat→Int→ahw
 | 0=>λ_=>none
 |m+1=>PL n l (FO n l m)
def PM(l:List aJ):ahw:=FO n l n 0
def PN(n:Nat)(at_:Int)(bx:List Row):Option (ar×Int):=some ((⟨at_,at_,bx⟩:ar),0)
def PO(l:List aJ)(at_:Int)(ao:(List Row)→Int→Option (ar×Int))(bq:List Row)(v9:Int):Option (ar×Int):=cond (decide (v9<((l.length:Nat):Int))) ( av (aV v9 l.length)<|av (aV v9 l.length)<|av (room (bq.length+([(⟨(ahv l v9).Key,[⟨at_,⟨((ahv l v9).bk).Kind,((ahv l v9).bk).N,((ahv l v9).bk).S⟩⟩]⟩:Row)]:List Row).length) 40)<|ao (bq++([(⟨(ahv l v9).Key,[⟨at_,⟨((ahv l v9).bk).Kind,((ahv l v9).bk).N,((ahv l v9).bk).S⟩⟩]⟩:Row)]:List Row)) (ahu (v9+1))) ( PN n at_ bq)
def FP(n:Nat)(l:List aJ)(at_:Int):Nat→(List Row)→Int→Option (ar×Int)
 | 0=>λ_ _=>none
 |m+1=>PO n l at_ (FP n l at_ m)
def FQ(l:List aJ)(at_:Int):Option (ar×Int):=(PM n l).bind λaf=>cond (cond (cond (!af) true (decide (at_<0))) true (decide (1099511627776<at_))) ( some ((⟨0,0,[]⟩:ar),1)) ( FP n l at_ n ([]:List Row) 0)
def PP:Option bS:=(zd n ([97]:ahs)).bind λaf=>(zd n ([98]:ahs)).bind λaq=>(zd n ([99]:ahs)).bind λaB=>(FQ n ([af,aq,aB]:List aJ) 5).bind λaD=>some (⟨5,aD.1,[],[],⟨0,[⟨1,[],1,0,[]⟩]⟩,[],[],0⟩:bS)
def PQ(n:Nat):ahw:=some true
def PR(a:List ahs)(b:List ahs)(ao:Int→ahw)(v5:Int):ahw:=cond (decide (v5<((a.length:Nat):Int))) ( av (aV v5 a.length)<|av (aV v5 b.length)<|cond (!(decide ((ahv a v5)=(ahv b v5)))) ( some false) ( ao (ahu (v5+1)))) ( PQ n)
def FR(n:Nat)(a:List ahs)(b:List ahs):Nat→Int→ahw
 | 0=>λ_=>none
 |m+1=>PR n a b (FR n a b m)
def zg(a:List ahs)(b:List ahs):ahw:=cond (!decide (((a.length:Nat):Int)=((b.length:Nat):Int))) ( some false) ( FR n a b n 0)
def PS(n:Nat)(l:List ahs)(k:ahs)(v6:Int):Option (List ahs):=av (!(decide (v6<((l.length:Nat):Int)))||aV v6 l.length)<|cond (cond (decide (v6<((l.length:Nat):Int))) (decide ((ahv l v6)=k)) false) ( some l) ( av (gm v6 l.length)<|av (room (([]:List ahs).length+(l.take (v6).toNat).length) 16)<|av (room ((([]:List ahs)++(l.take (v6).toNat)).length+([k]:List ahs).length) 16)<|av (gm v6 l.length)<|av (room (((([]:List ahs)++(l.take (v6).toNat))++([k]:List ahs)).length+(l.drop (v6).toNat).length) 16)<|some (((([]:List ahs)++(l.take (v6).toNat))++([k]:List ahs))++(l.drop (v6).toNat)))
def PT(l:List ahs)(k:ahs)(ao:Int→Option (List ahs))(v3:Int):Option (List ahs):=av (!(decide (v3<((l.length:Nat):Int)))||aV v3 l.length)<|cond (cond (decide (v3<((l.length:Nat):Int))) (Op.bytesLess (ahv l v3) k) false) ( ao (ahu (v3+1))) ( PS n l k v3)
def FSb(n:Nat)(l:List ahs)(k:ahs):Nat→Int→Option (List ahs)
 | 0=>λ_=>none
 |m+1=>PT n l k (FSb n l k m)
def PU(l:List ahs)(k:ahs):Option (List ahs):=FSb n l k n 0
def FT(v:bv):ahw:=(pT n v).bind λaf=>some af
def FU(n:Nat):ahw:=some true
def zh(floor:Int)(last:Int)(ai:Row)(ao:Int→ahw)(v9:Int):ahw:=cond (decide (v9<((ai.bd.length:Nat):Int))) ( av (aV v9 ai.bd.length)<|(FT n (⟨((ahv ai.bd v9).bk).Kind,((ahv ai.bd v9).bk).N,((ahv ai.bd v9).bk).S⟩:bv)).bind λbT=>cond (cond (cond (!bT) true (decide ((ahv ai.bd v9).b4<floor))) true (decide (last<(ahv ai.bd v9).b4))) ( some false) ( av (!(decide (0<v9))||aV (ahu (v9-1)) ai.bd.length)<|av (!(decide (0<v9))||((decide ((ahv ai.bd v9).b4≤(ahv ai.bd (ahu (v9-1))).b4))||aV (ahu (v9-1)) ai.bd.length))<|cond (cond (decide (0<v9)) (cond (decide ((ahv ai.bd v9).b4≤(ahv ai.bd (ahu (v9-1))).b4)) true ((decide (((ahv ai.bd v9).bk).Kind=((ahv ai.bd (ahu (v9-1))).bk).Kind))&&((decide (((ahv ai.bd v9).bk).N=((ahv ai.bd (ahu (v9-1))).bk).N))&&((decide (((ahv ai.bd v9).bk).S=((ahv ai.bd (ahu (v9-1))).bk).S))&&true)))) false) ( some false) ( ao (ahu (v9+1))))) ( FU n)
def s_(n:Nat)(floor:Int)(last:Int)(ai:Row):Nat→Int→ahw
 | 0=>λ_=>none
 |m+1=>zh n floor last ai (s_ n floor last ai m)
def zi(ai:Row)(floor:Int)(last:Int):ahw:=(rC n ai.Key).bind λaf=>av ((cond (!af) true (decide (((ai.bd.length:Nat):Int)=0)))||aV 0 ai.bd.length)<|cond (cond (cond (!af) true (decide (((ai.bd.length:Nat):Int)=0))) true (decide (((ai.bd.getD 0 default).bk).Kind=0))) ( some false) ( s_ n floor last ai n 0)
def FV(n:Nat):ahw:=some true
def zj(s:ar)(ao:Int→ahw)(bp:Int):ahw:=cond (decide (bp<((s.Rows.length:Nat):Int))) ( av (aV bp s.Rows.length)<|(zi n (ahv s.Rows bp) s.bo s.bm).bind λcC=>av ((!cC)||(!(decide (0<bp))||aV (ahu (bp-1)) s.Rows.length))<|av ((!cC)||(!(decide (0<bp))||aV bp s.Rows.length))<|cond (cond (!cC) true (cond (decide (0<bp)) (!(Op.bytesLess ((ahv s.Rows (ahu (bp-1))).Key) ((ahv s.Rows bp).Key))) false)) ( some false) ( ao (ahu (bp+1)))) ( FV n)
def ta(n:Nat)(s:ar):Nat→Int→ahw
 | 0=>λ_=>none
 |m+1=>zj n s (ta n s m)
def tb(s:ar):ahw:=cond (cond (cond (decide (s.bo<0)) true (decide (s.bm<s.bo))) true (decide (1099511627776<s.bm))) ( some false) ( ta n s n 0)
def PV(n:Nat)(key:ahs):Option Row:=some (⟨key,[]⟩:Row)
def PW(key:ahs)(s:ar)(ao:Int→Option Row)(v4:Int):Option Row:=cond (decide (v4<((s.Rows.length:Nat):Int))) ( av (aV v4 s.Rows.length)<|cond (decide (((ahv s.Rows v4).Key)=key)) ( av (aV v4 s.Rows.length)<|some (ahv s.Rows v4)) ( ao (ahu (v4+1)))) ( PV n key)
def FW(n:Nat)(key:ahs)(s:ar):Nat→Int→Option Row
 | 0=>λ_=>none
 |m+1=>PW n key s (FW n key s m)
def PX(s:ar)(key:ahs):Option Row:=FW n key s n 0
def FX(n:Nat)(v23:Int)(v24:Int)(v25:ahs):Option bv:=some (⟨v23,v24,v25⟩:bv)
def zk(n:Nat)(ao:Int→Int→ahs→Int→Option bv)(at_:Int)(c':Int)(ai:Row)(c6:Int)(aX:Int)(cN:ahs):Option bv:=ao c6 aX cN (ahu (c'+1))
def FY(at_:Int)(ai:Row)(ao:Int→Int→ahs→Int→Option bv)(v10:Int)(v11:Int)(v12:ahs)(c':Int):Option bv:=cond (decide (c'<((ai.bd.length:Nat):Int))) ( av (aV c' ai.bd.length)<|cond (decide ((ahv ai.bd c').b4≤at_)) ( av (aV c' ai.bd.length)<|zk n ao at_ c' ai (((ahv ai.bd c').bk).Kind) (((ahv ai.bd c').bk).N) (((ahv ai.bd c').bk).S)) ( zk n ao at_ c' ai v10 v11 v12)) ( FX n v10 v11 v12)
def vI(n:Nat)(at_:Int)(ai:Row):Nat→Int→Int→ahs→Int→Option bv
 | 0=>λ_ _ _ _=>none
 |m+1=>FY n at_ ai (vI n at_ ai m)
def vJ(ai:Row)(at_:Int):Option bv:=vI n at_ ai n 0 0 ([]:ahs) 0
def PY(n:Nat)(s:ar)(at_:Int)(zl:List Row):Option (ar×Int):=some ((⟨s.bo,at_,zl⟩:ar),0)
def FZ(n:Nat)(eC:(List Row)→Int→Option (ar×Int))(at_:Int)(writes:List aJ)(v26:List ahs)(fu:Int)(s:ar)(oU:List Row):Option (ar×Int):=eC oU (ahu (fu+1))
def PZ(eC:(List Row)→Int→Option (ar×Int))(at_:Int)(writes:List aJ)(v26:List ahs)(fu:Int)(s:ar)(v53:List Row)(eN:Row)(v76:List Version):Option (ar×Int):=cond (decide (0<((v76.length:Nat):Int))) ( av (room (v53.length+([(⟨eN.Key,v76⟩:Row)]:List Row).length) 40)<|FZ n eC at_ writes v26 fu s (v53++([(⟨eN.Key,v76⟩:Row)]:List Row))) ( FZ n eC at_ writes v26 fu s v53)
def F0(n:Nat)(tc:(List Version)→Int→Option (ar×Int))(eC:(List Row)→Int→Option (ar×Int))(at_:Int)(writes:List aJ)(v26:List ahs)(fu:Int)(fe:Int)(s:ar)(v53:List Row)(eN:Row)(oV:List Version):Option (ar×Int):=tc oV (ahu (fe+1))
def P0(eC:(List Row)→Int→Option (ar×Int))(at_:Int)(writes:List aJ)(v26:List ahs)(fu:Int)(s:ar)(v53:List Row)(eN:Row)(tc:(List Version)→Int→Option (ar×Int))(k8:List Version)(fe:Int):Option (ar×Int):=cond (decide (fe<((writes.length:Nat):Int))) ( av (aV fe writes.length)<|av (!(decide (((ahv writes fe).Key)=eN.Key))||aV fe writes.length)<|Option.bind (cond (decide (((ahv writes fe).Key)=eN.Key)) (vJ n eN s.bm) (some default)) λkE=>cond (cond (decide (((ahv writes fe).Key)=eN.Key)) (!((decide (((ahv writes fe).bk).Kind=kE.Kind))&&((decide (((ahv writes fe).bk).N=kE.N))&&((decide (((ahv writes fe).bk).S=kE.S))&&true)))) false) ( av (aV fe writes.length)<|av (room (k8.length+([(⟨at_,⟨((ahv writes fe).bk).Kind,((ahv writes fe).bk).N,((ahv writes fe).bk).S⟩⟩:Version)]:List Version).length) 40)<|F0 n tc eC at_ writes v26 fu fe s v53 eN (k8++([(⟨at_,⟨((ahv writes fe).bk).Kind,((ahv writes fe).bk).N,((ahv writes fe).bk).S⟩⟩:Version)]:List Version))) ( F0 n tc eC at_ writes v26 fu fe s v53 eN k8)) ( PZ n eC at_ writes v26 fu s v53 eN k8)
def F1(n:Nat)(eC:(List Row)→Int→Option (ar×Int))(at_:Int)(writes:List aJ)(v26:List ahs)(fu:Int)(s:ar)(v53:List Row)(eN:Row):Nat→(List Version)→Int→Option (ar×Int)
 | 0=>λ_ _=>none
 |m+1=>P0 n eC at_ writes v26 fu s v53 eN (F1 n eC at_ writes v26 fu s v53 eN m)
def P1(at_:Int)(writes:List aJ)(v26:List ahs)(s:ar)(eC:(List Row)→Int→Option (ar×Int))(v53:List Row)(fu:Int):Option (ar×Int):=cond (decide (fu<((v26.length:Nat):Int))) ( av (aV fu v26.length)<|(PX n s (ahv v26 fu)).bind λeN=>av (room (([]:List Version).length+eN.bd.length) 40)<|F1 n eC at_ writes v26 fu s v53 eN n (([]:List Version)++eN.bd) 0) ( PY n s at_ v53)
def F2(n:Nat)(at_:Int)(writes:List aJ)(v26:List ahs)(s:ar):Nat→(List Row)→Int→Option (ar×Int)
 | 0=>λ_ _=>none
 |m+1=>P1 n at_ writes v26 s (F2 n at_ writes v26 s m)
def P2(at_:Int)(writes:List aJ)(s:ar)(v26:List ahs):Option (ar×Int):=F2 n at_ writes v26 s n ([]:List Row) 0
def P3(at_:Int)(writes:List aJ)(s:ar)(P4:Int→(List ahs)→Option (ar×Int))(v20:Int)(v21:List ahs):Option (ar×Int):=cond (decide (v20<((writes.length:Nat):Int))) ( av (aV v20 writes.length)<|(PU n v21 ((ahv writes v20).Key)).bind λeL=>P4 (ahu (v20+1)) eL) ( P2 n at_ writes s v21)
def F3(n:Nat)(at_:Int)(writes:List aJ)(s:ar):Nat→Int→(List ahs)→Option (ar×Int)
 | 0=>λ_ _=>none
 |m+1=>P3 n at_ writes s (F3 n at_ writes s m)
def P5(at_:Int)(writes:List aJ)(s:ar)(bx:List ahs):Option (ar×Int):=F3 n at_ writes s n 0 bx
def P6(at_:Int)(writes:List aJ)(s:ar)(P7:(List ahs)→Int→Option (ar×Int))(v9:List ahs)(v10:Int):Option (ar×Int):=cond (decide (v10<((s.Rows.length:Nat):Int))) ( av (aV v10 s.Rows.length)<|av (room (v9.length+([(ahv s.Rows v10).Key]:List ahs).length) 16)<|P7 (v9++([(ahv s.Rows v10).Key]:List ahs)) (ahu (v10+1))) ( P5 n at_ writes s v9)
def F4(n:Nat)(at_:Int)(writes:List aJ)(s:ar):Nat→(List ahs)→Int→Option (ar×Int)
 | 0=>λ_ _=>none
 |m+1=>P6 n at_ writes s (F4 n at_ writes s m)
def P8(s:ar)(at_:Int)(writes:List aJ):Option (ar×Int):=(tb n s).bind λaf=>Option.bind (cond (!(!af)) (FN n writes) (some default)) λaq=>cond (cond (!af) true (!aq)) ( some ((⟨0,0,[]⟩:ar),1)) ( cond (cond (decide (at_≤s.bm)) true (decide (1099511627776<at_))) ( some ((⟨0,0,[]⟩:ar),16)) ( F4 n at_ writes s n ([]:List ahs) 0))
def P9(n:Nat)(k9:Expr→Expr→ahw):ahw:=some true
def P'(k9:Expr→Expr→ahw)(a:Expr)(b:Expr)(ao:Int→ahw)(v6:Int):ahw:=cond (decide (v6<((a.aA.length:Nat):Int))) ( av (aV v6 a.aA.length)<|av (aV v6 b.aA.length)<|(k9 (ahv a.aA v6) (ahv b.aA v6)).bind λcC=>cond (!cC) ( some false) ( ao (ahu (v6+1)))) ( P9 n k9)
def F5(n:Nat)(k9:Expr→Expr→ahw)(a:Expr)(b:Expr):Nat→Int→ahw
 | 0=>λ_=>none
 |m+1=>P' n k9 a b (F5 n k9 a b m)
def P_(k9:Expr→Expr→ahw)(a:Expr)(b:Expr):ahw:=cond (cond (cond (cond (!decide (a.Op=b.Op)) true (!decide (a.N=b.N))) true (!(decide (a.S=b.S)))) true (!decide (((a.aA.length:Nat):Int)=((b.aA.length:Nat):Int)))) ( some false) ( F5 n k9 a b n 0)
def zm:Nat→Expr→Expr→ahw
 | 0=>λ_ _=>none
 |m+1=>P_ m (zm m)
def Qa(n:Nat)(kF:(List Stmt)→(List Stmt)→ahw):ahw:=some true
def Qb(kF:(List Stmt)→(List Stmt)→ahw)(a:List Stmt)(b:List Stmt)(ao:Int→ahw)(v9:Int):ahw:=cond (decide (v9<((a.length:Nat):Int))) ( av (aV v9 a.length)<|av (aV v9 b.length)<|Option.bind (cond (!(cond (cond (!decide ((ahv a v9).Op=(ahv b v9).Op)) true (!(decide (((ahv a v9).Name)=((ahv b v9).Name))))) true (!decide ((ahv a v9).Max=(ahv b v9).Max)))) (zm n (⟨((ahv a v9).A).Op,((ahv a v9).A).N,((ahv a v9).A).S,((ahv a v9).A).aA⟩:Expr) (⟨((ahv b v9).A).Op,((ahv b v9).A).N,((ahv b v9).A).S,((ahv b v9).A).aA⟩:Expr)) (some default)) λeW=>Option.bind (cond (!(cond (cond (cond (!decide ((ahv a v9).Op=(ahv b v9).Op)) true (!(decide (((ahv a v9).Name)=((ahv b v9).Name))))) true (!decide ((ahv a v9).Max=(ahv b v9).Max))) true (!eW))) (zm n (⟨((ahv a v9).B).Op,((ahv a v9).B).N,((ahv a v9).B).S,((ahv a v9).B).aA⟩:Expr) (⟨((ahv b v9).B).Op,((ahv b v9).B).N,((ahv b v9).B).S,((ahv b v9).B).aA⟩:Expr)) (some default)) λdu=>Option.bind (cond (!(cond (cond (cond (cond (!decide ((ahv a v9).Op=(ahv b v9).Op)) true (!(decide (((ahv a v9).Name)=((ahv b v9).Name))))) true (!decide ((ahv a v9).Max=(ahv b v9).Max))) true (!eW)) true (!du))) (kF ((ahv a v9).Body) ((ahv b v9).Body)) (some default)) λer=>Option.bind (cond (!(cond (cond (cond (cond (cond (!decide ((ahv a v9).Op=(ahv b v9).Op)) true (!(decide (((ahv a v9).Name)=((ahv b v9).Name))))) true (!decide ((ahv a v9).Max=(ahv b v9).Max))) true (!eW)) true (!du)) true (!er))) (kF ((ahv a v9).da) ((ahv b v9).da)) (some default)) λdv=>cond (cond (cond (cond (cond (cond (cond (!decide ((ahv a v9).Op=(ahv b v9).Op)) true (!(decide (((ahv a v9).Name)=((ahv b v9).Name))))) true (!decide ((ahv a v9).Max=(ahv b v9).Max))) true (!eW)) true (!du)) true (!er)) true (!dv)) ( some false) ( ao (ahu (v9+1)))) ( Qa n kF)
def F6(n:Nat)(kF:(List Stmt)→(List Stmt)→ahw)(a:List Stmt)(b:List Stmt):Nat→Int→ahw
 | 0=>λ_=>none
 |m+1=>Qb n kF a b (F6 n kF a b m)
def Qc(kF:(List Stmt)→(List Stmt)→ahw)(a:List Stmt)(b:List Stmt):ahw:=cond (!decide (((a.length:Nat):Int)=((b.length:Nat):Int))) ( some false) ( F6 n kF a b n 0)
def F7:Nat→(List Stmt)→(List Stmt)→ahw
 | 0=>λ_ _=>none
 |m+1=>Qc m (F7 m)
def Qd(a:bh)(b:bh):ahw:=(F7 n a.Body b.Body).bind λcC=>some cC
def Qe(a:bh)(b:bh)(ao:Int→ahw)(v5:Int):ahw:=cond (decide (v5<((a.Params.length:Nat):Int))) ( av (aV v5 a.Params.length)<|av (aV v5 b.Params.length)<|cond (!((decide ((ahv a.Params v5).Name=(ahv b.Params v5).Name))&&((decide ((ahv a.Params v5).hU=(ahv b.Params v5).hU))&&true))) ( some false) ( ao (ahu (v5+1)))) ( Qd n a b)
def F8(n:Nat)(a:bh)(b:bh):Nat→Int→ahw
 | 0=>λ_=>none
 |m+1=>Qe n a b (F8 n a b m)
def Qf(a:bh)(b:bh):ahw:=cond (cond (!(decide (a.Name=b.Name))) true (!decide (((a.Params.length:Nat):Int)=((b.Params.length:Nat):Int)))) ( some false) ( F8 n a b n 0)
def Qg(n:Nat):ahw:=some true
def Qh(a:List bh)(b:List bh)(ao:Int→ahw)(v6:Int):ahw:=cond (decide (v6<((a.length:Nat):Int))) ( av (aV v6 a.length)<|av (aV v6 b.length)<|(Qf n (ahv a v6) (ahv b v6)).bind λcC=>cond (!cC) ( some false) ( ao (ahu (v6+1)))) ( Qg n)
def F9(n:Nat)(a:List bh)(b:List bh):Nat→Int→ahw
 | 0=>λ_=>none
 |m+1=>Qh n a b (F9 n a b m)
def Qi(a:List bh)(b:List bh):ahw:=cond (!decide (((a.length:Nat):Int)=((b.length:Nat):Int))) ( some false) ( F9 n a b n 0)
def Qj(n:Nat):ahw:=some true
def Qk(n:Nat)(ao:Int→ahw)(v12:Int)(a:ar)(b:ar):ahw:=ao (ahu (v12+1))
def Ql(ao:Int→ahw)(v12:Int)(a:ar)(b:ar)(eC:Int→ahw)(cN:Int):ahw:=cond (decide (cN<((((ahv a.Rows v12).bd).length:Nat):Int))) ( av (aV cN ((ahv a.Rows v12).bd).length)<|av (aV cN ((ahv b.Rows v12).bd).length)<|cond (!((decide ((((ahv a.Rows v12).bd).getD (cN).toNat default).b4=(((ahv b.Rows v12).bd).getD (cN).toNat default).b4))&&((decide (((((ahv a.Rows v12).bd).getD (cN).toNat default).bk).Kind=((((ahv b.Rows v12).bd).getD (cN).toNat default).bk).Kind))&&((decide (((((ahv a.Rows v12).bd).getD (cN).toNat default).bk).N=((((ahv b.Rows v12).bd).getD (cN).toNat default).bk).N))&&((decide (((((ahv a.Rows v12).bd).getD (cN).toNat default).bk).S=((((ahv b.Rows v12).bd).getD (cN).toNat default).bk).S))&&true))))) ( some false) ( eC (ahu (cN+1)))) ( Qk n ao v12 a b)
def F'(n:Nat)(ao:Int→ahw)(v12:Int)(a:ar)(b:ar):Nat→Int→ahw
 | 0=>λ_=>none
 |m+1=>Ql n ao v12 a b (F' n ao v12 a b m)
def Qm(a:ar)(b:ar)(ao:Int→ahw)(v12:Int):ahw:=cond (decide (v12<((a.Rows.length:Nat):Int))) ( av (aV v12 a.Rows.length)<|av (aV v12 b.Rows.length)<|cond (cond (!(decide (((ahv a.Rows v12).Key)=((ahv b.Rows v12).Key)))) true (!decide (((((ahv a.Rows v12).bd).length:Nat):Int)=((((ahv b.Rows v12).bd).length:Nat):Int)))) ( some false) ( F' n ao v12 a b n 0)) ( Qj n)
def F_(n:Nat)(a:ar)(b:ar):Nat→Int→ahw
 | 0=>λ_=>none
 |m+1=>Qm n a b (F_ n a b m)
def Qn(a:ar)(b:ar):ahw:=cond (cond (cond (!decide (a.bo=b.bo)) true (!decide (a.bm=b.bm))) true (!decide (((a.Rows.length:Nat):Int)=((b.Rows.length:Nat):Int)))) ( some false) ( F_ n a b n 0)
def Qo(n:Nat):ahw:=some true
def Qp(a:cd)(b:cd)(ao:Int→ahw)(v5:Int):ahw:=cond (decide (v5<((a.a'.length:Nat):Int))) ( av (aV v5 a.a'.length)<|av (aV v5 b.a'.length)<|cond (!((decide ((ahv a.a' v5).Id=(ahv b.a' v5).Id))&&((decide ((ahv a.a' v5).ez=(ahv b.a' v5).ez))&&((decide ((ahv a.a' v5).Node=(ahv b.a' v5).Node))&&((decide ((ahv a.a' v5).gO=(ahv b.a' v5).gO))&&((decide ((ahv a.a' v5).cY=(ahv b.a' v5).cY))&&true)))))) ( some false) ( ao (ahu (v5+1)))) ( Qo n)
def Ga(n:Nat)(a:cd)(b:cd):Nat→Int→ahw
 | 0=>λ_=>none
 |m+1=>Qp n a b (Ga n a b m)
def Qq(a:cd)(b:cd):ahw:=cond (cond (!decide (a.Version=b.Version)) true (!decide (((a.a'.length:Nat):Int)=((b.a'.length:Nat):Int)))) ( some false) ( Ga n a b n 0)
def Qr(n:Nat):ahw:=some true
def Qs(a:List bf)(b:List bf)(ao:Int→ahw)(v5:Int):ahw:=cond (decide (v5<((a.length:Nat):Int))) ( av (aV v5 a.length)<|av (aV v5 b.length)<|cond (!((decide ((ahv a v5).Key=(ahv b v5).Key))&&((decide ((ahv a v5).Count=(ahv b v5).Count))&&true))) ( some false) ( ao (ahu (v5+1)))) ( Qr n)
def Gb(n:Nat)(a:List bf)(b:List bf):Nat→Int→ahw
 | 0=>λ_=>none
 |m+1=>Qs n a b (Gb n a b m)
def Qt(a:List bf)(b:List bf):ahw:=cond (!decide (((a.length:Nat):Int)=((b.length:Nat):Int))) ( some false) ( Gb n a b n 0)
def Qu(a:fV)(b:fV):ahw:=Option.bind (cond (a.eX == b.eX) (zg n a.Reads b.Reads) (some default)) λaf=>Option.bind (cond (cond (a.eX == b.eX) af false) (zg n a.dB b.dB) (some default)) λaq=>some (cond (cond (a.eX == b.eX) af false) aq false)
def Qv(n:Nat):ahw:=some true
def Qw(a:Request)(b:Request)(ao:Int→ahw)(v6:Int):ahw:=cond (decide (v6<((a.aA.length:Nat):Int))) ( av (aV v6 a.aA.length)<|av (aV v6 b.aA.length)<|cond (!((decide ((ahv a.aA v6).Kind=(ahv b.aA v6).Kind))&&((decide ((ahv a.aA v6).N=(ahv b.aA v6).N))&&((decide ((ahv a.aA v6).S=(ahv b.aA v6).S))&&true)))) ( some false) ( ao (ahu (v6+1)))) ( Qv n)
def Gc(n:Nat)(a:Request)(b:Request):Nat→Int→ahw
 | 0=>λ_=>none
 |m+1=>Qw n a b (Gc n a b m)
def Qx(a:Request)(b:Request):ahw:=Option.bind (cond (!(cond (cond (cond (cond (!decide (a.Client=b.Client)) true (!decide (a.Seq=b.Seq))) true (!(decide (a.bh=b.bh)))) true (!(a.fM == b.fM))) true (!decide (((a.aA.length:Nat):Int)=((b.aA.length:Nat):Int))))) (Qu n a.b9 b.b9) (some default)) λaf=>cond (cond (cond (cond (cond (cond (!decide (a.Client=b.Client)) true (!decide (a.Seq=b.Seq))) true (!(decide (a.bh=b.bh)))) true (!(a.fM == b.fM))) true (!decide (((a.aA.length:Nat):Int)=((b.aA.length:Nat):Int)))) true (!af)) ( some false) ( Gc n a b n 0)
def Qy(n:Nat):ahw:=some true
def Qz(a:Outcome)(b:Outcome)(ao:Int→ahw)(v5:Int):ahw:=cond (decide (v5<((a.Out.length:Nat):Int))) ( av (aV v5 a.Out.length)<|av (aV v5 b.Out.length)<|cond (!((decide ((ahv a.Out v5).Kind=(ahv b.Out v5).Kind))&&((decide ((ahv a.Out v5).N=(ahv b.Out v5).N))&&((decide ((ahv a.Out v5).S=(ahv b.Out v5).S))&&true)))) ( some false) ( ao (ahu (v5+1)))) ( Qy n)
def Gd(n:Nat)(a:Outcome)(b:Outcome):Nat→Int→ahw
 | 0=>λ_=>none
 |m+1=>Qz n a b (Gd n a b m)
def QA(a:Outcome)(b:Outcome):ahw:=cond (cond (cond (!decide (a.Status=b.Status)) true (!decide (a.Code=b.Code))) true (!decide (((a.Out.length:Nat):Int)=((b.Out.length:Nat):Int)))) ( some false) ( Gd n a b n 0)
def QB(a:eV)(b:eV):ahw:=Option.bind (cond (cond (decide (a.Client=b.Client)) (decide (a.Seq=b.Seq)) false) (QA n a.Outcome b.Outcome) (some default)) λaf=>some (cond (cond (decide (a.Client=b.Client)) (decide (a.Seq=b.Seq)) false) af false)
def QC(n:Nat):ahw:=some true
def QD(a:List eV)(b:List eV)(ao:Int→ahw)(v6:Int):ahw:=cond (decide (v6<((a.length:Nat):Int))) ( av (aV v6 a.length)<|av (aV v6 b.length)<|(QB n (ahv a v6) (ahv b v6)).bind λcC=>cond (!cC) ( some false) ( ao (ahu (v6+1)))) ( QC n)
def Ge(n:Nat)(a:List eV)(b:List eV):Nat→Int→ahw
 | 0=>λ_=>none
 |m+1=>QD n a b (Ge n a b m)
def QE(a:List eV)(b:List eV):ahw:=cond (!decide (((a.length:Nat):Int)=((b.length:Nat):Int))) ( some false) ( Ge n a b n 0)
def QF(n:Nat):ahw:=some true
def QG(a:List bO)(b:List bO)(ao:Int→ahw)(v10:Int):ahw:=cond (decide (v10<((a.length:Nat):Int))) ( av (aV v10 a.length)<|av (aV v10 b.length)<|av ((!decide ((ahv a v10).Client=(ahv b v10).Client))||aV v10 a.length)<|av ((!decide ((ahv a v10).Client=(ahv b v10).Client))||aV v10 b.length)<|av ((cond (!decide ((ahv a v10).Client=(ahv b v10).Client)) true (!decide ((ahv a v10).Next=(ahv b v10).Next)))||aV v10 a.length)<|av ((cond (!decide ((ahv a v10).Client=(ahv b v10).Client)) true (!decide ((ahv a v10).Next=(ahv b v10).Next)))||aV v10 b.length)<|Option.bind (cond (!(cond (!decide ((ahv a v10).Client=(ahv b v10).Client)) true (!decide ((ahv a v10).Next=(ahv b v10).Next)))) (QE n ((ahv a v10).dl) ((ahv b v10).dl)) (some default)) λeM=>cond (cond (cond (!decide ((ahv a v10).Client=(ahv b v10).Client)) true (!decide ((ahv a v10).Next=(ahv b v10).Next))) true (!eM)) ( some false) ( ao (ahu (v10+1)))) ( QF n)
def Gf(n:Nat)(a:List bO)(b:List bO):Nat→Int→ahw
 | 0=>λ_=>none
 |m+1=>QG n a b (Gf n a b m)
def QH(a:List bO)(b:List bO):ahw:=cond (!decide (((a.length:Nat):Int)=((b.length:Nat):Int))) ( some false) ( Gf n a b n 0)
def QI(n:Nat):ahw:=some true
def QJ(a:bS)(b:bS)(ao:Int→ahw)(v11:Int):ahw:=cond (decide (v11<((a.Queue.length:Nat):Int))) ( av (aV v11 a.Queue.length)<|av (aV v11 b.Queue.length)<|(Qx n (ahv a.Queue v11) (ahv b.Queue v11)).bind λer=>cond (!er) ( some false) ( ao (ahu (v11+1)))) ( QI n)
def Gg(n:Nat)(a:bS)(b:bS):Nat→Int→ahw
 | 0=>λ_=>none
 |m+1=>QJ n a b (Gg n a b m)
def QK(a:bS)(b:bS):ahw:=Option.bind (cond (!(cond (!decide (a.Pos=b.Pos)) true (!decide (a.cE=b.cE)))) (Qn n a.ar b.ar) (some default)) λaf=>Option.bind (cond (!(cond (cond (!decide (a.Pos=b.Pos)) true (!decide (a.cE=b.cE))) true (!af))) (Qi n a.cj b.cj) (some default)) λaq=>Option.bind (cond (!(cond (cond (cond (!decide (a.Pos=b.Pos)) true (!decide (a.cE=b.cE))) true (!af)) true (!aq))) (QH n a.cB b.cB) (some default)) λaB=>Option.bind (cond (!(cond (cond (cond (cond (!decide (a.Pos=b.Pos)) true (!decide (a.cE=b.cE))) true (!af)) true (!aq)) true (!aB))) (Qq n a.Place b.Place) (some default)) λaD=>Option.bind (cond (!(cond (cond (cond (cond (cond (!decide (a.Pos=b.Pos)) true (!decide (a.cE=b.cE))) true (!af)) true (!aq)) true (!aB)) true (!aD))) (Qt n a.bf b.bf) (some default)) λbE=>cond (cond (cond (cond (cond (cond (cond (cond (!decide (a.Pos=b.Pos)) true (!decide (a.cE=b.cE))) true (!af)) true (!aq)) true (!aB)) true (!aD)) true (!bE)) true (!decide (((a.Queue.length:Nat):Int)=((b.Queue.length:Nat):Int)))) ( some false) ( Gg n a b n 0)
def Gh(n:Nat)(aX:List aJ):Option (List aJ):=some aX
def vK(n:Nat)(ao:(List aJ)→Int→Option (List aJ))(at_:Int)(v9:Int)(s:ar)(bL:List aJ):Option (List aJ):=ao bL (ahu (v9+1))
def Gi(at_:Int)(s:ar)(ao:(List aJ)→Int→Option (List aJ))(bq:List aJ)(v9:Int):Option (List aJ):=cond (decide (v9<((s.Rows.length:Nat):Int))) ( av (aV v9 s.Rows.length)<|(vJ n (ahv s.Rows v9) at_).bind λbT=>cond (!decide (bT.Kind=0)) ( av (aV v9 s.Rows.length)<|av (room (bq.length+([(⟨(ahv s.Rows v9).Key,bT⟩:aJ)]:List aJ).length) 48)<|vK n ao at_ v9 s (bq++([(⟨(ahv s.Rows v9).Key,bT⟩:aJ)]:List aJ))) ( vK n ao at_ v9 s bq)) ( Gh n bq)
def td(n:Nat)(at_:Int)(s:ar):Nat→(List aJ)→Int→Option (List aJ)
 | 0=>λ_ _=>none
 |m+1=>Gi n at_ s (td n at_ s m)
def Gj(s:ar)(at_:Int):Option (List aJ):=td n at_ s n ([]:List aJ) 0
def vL(s:ar)(at_:Int):Option ((List aJ)×Int):=(tb n s).bind λaf=>cond (!af) ( some (([]:List aJ),1)) ( cond (cond (decide (at_<s.bo)) true (decide (s.bm<at_))) ( some (([]:List aJ),15)) ( (Gj n s at_).bind λaD=>some (aD,0)))
def QL(n:Nat):ahw:=some true
def QM(s:ahs)(ao:Int→ahw)(v5:Int):ahw:=cond (decide (v5<((s.length:Nat):Int))) ( av (aV v5 s.length)<|av ((decide ((((s.getD (v5).toNat 0).toNat:Nat):Int)<33))||aV v5 s.length)<|cond (cond (decide ((((s.getD (v5).toNat 0).toNat:Nat):Int)<33)) true (decide (126<(((s.getD (v5).toNat 0).toNat:Nat):Int)))) ( some false) ( ao (ahu (v5+1)))) ( QL n)
def Gk(n:Nat)(s:ahs):Nat→Int→ahw
 | 0=>λ_=>none
 |m+1=>QM n s (Gk n s m)
def Gl(s:ahs):ahw:=cond (decide (24<((s.length:Nat):Int))) ( some false) ( Gk n s n 0)
def QN(x:Part)(next:ahs)(last:Bool):ahw:=cond (decide (x.gO=0)) ( some (decide (x.cY=([]:ahs)))) ( Option.bind (cond (cond (cond (decide (1≤x.gO)) (decide (x.gO≤16)) false) (!decide (x.gO=x.Node)) false) (Gl n x.cY) (some default)) λaq=>some (cond (cond (cond (cond (cond (decide (1≤x.gO)) (decide (x.gO≤16)) false) (!decide (x.gO=x.Node)) false) aq false) (!(Op.bytesLess x.cY x.ez)) false) (cond last true (Op.bytesLess x.cY next)) false))
def QO(n:Nat):ahw:=some true
def QP(n:Nat)(ao:Int→ahw)(p:cd)(bx:Int):ahw:=ao (ahu (bx+1))
def QQ(ao:Int→ahw)(p:cd)(bx:Int)(QR:Int→ahw)(v24:Int):ahw:=cond (decide (v24<bx)) ( av (aV v24 p.a'.length)<|cond (decide ((ahv p.a' v24).Id=(ahv p.a' bx).Id)) ( some false) ( QR (ahu (v24+1)))) ( QP n ao p bx)
def Gm(n:Nat)(ao:Int→ahw)(p:cd)(bx:Int):Nat→Int→ahw
 | 0=>λ_=>none
 |m+1=>QQ n ao p bx (Gm n ao p bx m)
def Gn(ao:Int→ahw)(p:cd)(bx:Int)(cN:ahs):ahw:=(Gl n ((ahv p.a' bx).ez)).bind λeE=>av ((!eE)||(!(decide (0<bx))||aV (ahu (bx-1)) p.a'.length))<|Option.bind (cond (!(cond (cond (cond (cond (cond (!eE) true (cond (decide (0<bx)) ((Op.bytesLess ((ahv p.a' bx).ez) ((ahv p.a' (ahu (bx-1))).ez))||(decide (((ahv p.a' bx).ez)=((ahv p.a' (ahu (bx-1))).ez)))) false)) true (decide ((ahv p.a' bx).Id<1))) true (decide (1099511627776<(ahv p.a' bx).Id))) true (decide ((ahv p.a' bx).Node<1))) true (decide (16<(ahv p.a' bx).Node)))) (QN n (ahv p.a' bx) cN (decide ((ahu (bx+1))=((p.a'.length:Nat):Int)))) (some default)) λeU=>cond (cond (cond (cond (cond (cond (cond (!eE) true (cond (decide (0<bx)) ((Op.bytesLess ((ahv p.a' bx).ez) ((ahv p.a' (ahu (bx-1))).ez))||(decide (((ahv p.a' bx).ez)=((ahv p.a' (ahu (bx-1))).ez)))) false)) true (decide ((ahv p.a' bx).Id<1))) true (decide (1099511627776<(ahv p.a' bx).Id))) true (decide ((ahv p.a' bx).Node<1))) true (decide (16<(ahv p.a' bx).Node))) true (!eU)) ( some false) ( Gm n ao p bx n 0)
def QS(p:cd)(ao:Int→ahw)(bx:Int):ahw:=cond (decide (bx<((p.a'.length:Nat):Int))) ( av (aV bx p.a'.length)<|cond (decide ((ahu (bx+1))<((p.a'.length:Nat):Int))) ( av (aV (ahu (bx+1)) p.a'.length)<|Gn n ao p bx ((ahv p.a' (ahu (bx+1))).ez)) ( Gn n ao p bx ([]:ahs))) ( QO n)
def Gp(n:Nat)(p:cd):Nat→Int→ahw
 | 0=>λ_=>none
 |m+1=>QS n p (Gp n p m)
def QT(p:cd):ahw:=av ((cond (cond (cond (decide (p.Version<0)) true (decide (1099511627776<p.Version))) true (decide (((p.a'.length:Nat):Int)<1))) true (decide (16<((p.a'.length:Nat):Int))))||aV 0 p.a'.length)<|cond (cond (cond (cond (cond (decide (p.Version<0)) true (decide (1099511627776<p.Version))) true (decide (((p.a'.length:Nat):Int)<1))) true (decide (16<((p.a'.length:Nat):Int)))) true (!(decide (((p.a'.getD 0 default).ez)=([]:ahs))))) ( some false) ( Gp n p n 0)
def QU(n:Nat)(l:List bf):ahw:=some (decide (((l.length:Nat):Int)≤32))
def QV(l:List bf)(ao:Int→ahw)(bq:Int):ahw:=cond (decide (bq<((l.length:Nat):Int))) ( av (aV bq l.length)<|(rC n ((ahv l bq).Key)).bind λd_=>av ((!d_)||aV bq l.length)<|av ((cond (!d_) true (decide ((ahv l bq).Count<1)))||aV bq l.length)<|av ((cond (cond (!d_) true (decide ((ahv l bq).Count<1))) true (decide (1099511627776<(ahv l bq).Count)))||(!(decide (0<bq))||aV bq l.length))<|av ((cond (cond (!d_) true (decide ((ahv l bq).Count<1))) true (decide (1099511627776<(ahv l bq).Count)))||(!(decide (0<bq))||aV (ahu (bq-1)) l.length))<|cond (cond (cond (cond (!d_) true (decide ((ahv l bq).Count<1))) true (decide (1099511627776<(ahv l bq).Count))) true (cond (decide (0<bq)) ((Op.bytesLess ((ahv l bq).Key) ((ahv l (ahu (bq-1))).Key))||(decide (((ahv l bq).Key)=((ahv l (ahu (bq-1))).Key)))) false)) ( some false) ( ao (ahu (bq+1)))) ( QU n l)
def Gq(n:Nat)(l:List bf):Nat→Int→ahw
 | 0=>λ_=>none
 |m+1=>QV n l (Gq n l m)
def QW(l:List bf):ahw:=Gq n l n 0
def QX(n:Nat)(l:List bv):ahw:=some (decide (((l.length:Nat):Int)≤16))
def QY(l:List bv)(ao:Int→ahw)(v5:Int):ahw:=cond (decide (v5<((l.length:Nat):Int))) ( av (aV v5 l.length)<|(pT n (ahv l v5)).bind λcG=>av ((!cG)||aV v5 l.length)<|cond (cond (!cG) true (decide ((ahv l v5).Kind=0))) ( some false) ( ao (ahu (v5+1)))) ( QX n l)
def Gr(n:Nat)(l:List bv):Nat→Int→ahw
 | 0=>λ_=>none
 |m+1=>QY n l (Gr n l m)
def QZ(l:List bv):ahw:=Gr n l n 0
def Q0(o:Outcome):ahw:=cond (decide (o.Status=1)) ( Option.bind (cond (decide (o.Code=0)) (QZ n o.Out) (some default)) λaq=>some (cond (decide (o.Code=0)) aq false)) ( some (cond (cond (cond (decide (o.Status=2)) (decide (0≤o.Code)) false) (decide (o.Code≤1009)) false) (decide (((o.Out.length:Nat):Int)=0)) false))
def Q1(n:Nat)(next:Int):ahx:=some (cond (decide ((ahu (next-1))<8)) (ahu (next-1)) 8)
def Q2(n:Nat):ahw:=some true
def Q3(s:bO)(ao:Int→ahw)(v6:Int):ahw:=cond (decide (v6<((s.dl.length:Nat):Int))) ( av (aV v6 s.dl.length)<|Option.bind (cond (!(cond (!decide ((ahv s.dl v6).Client=s.Client)) true (!decide ((ahv s.dl v6).Seq=(ahu (s.Next-(ahu (((s.dl.length:Nat):Int)-v6)))))))) (Q0 n (⟨((ahv s.dl v6).Outcome).Status,((ahv s.dl v6).Outcome).Code,((ahv s.dl v6).Outcome).Out⟩:Outcome)) (some default)) λcq=>cond (cond (cond (!decide ((ahv s.dl v6).Client=s.Client)) true (!decide ((ahv s.dl v6).Seq=(ahu (s.Next-(ahu (((s.dl.length:Nat):Int)-v6))))))) true (!cq)) ( some false) ( ao (ahu (v6+1)))) ( Q2 n)
def Gs(n:Nat)(s:bO):Nat→Int→ahw
 | 0=>λ_=>none
 |m+1=>Q3 n s (Gs n s m)
def Q4(s:bO):ahw:=Option.bind (cond (!(cond (cond (cond (decide (s.Client<1)) true (decide (32<s.Client))) true (decide (s.Next<1))) true (decide (1099511627776<s.Next)))) (Q1 n s.Next) (some default)) λaf=>cond (cond (cond (cond (cond (decide (s.Client<1)) true (decide (32<s.Client))) true (decide (s.Next<1))) true (decide (1099511627776<s.Next))) true (!decide (((s.dl.length:Nat):Int)=af))) ( some false) ( Gs n s n 0)
def Q5(n:Nat):ahw:=some true
def Q6(l:List bO)(ao:Int→ahw)(v6:Int):ahw:=cond (decide (v6<((l.length:Nat):Int))) ( av (aV v6 l.length)<|(Q4 n (ahv l v6)).bind λcq=>av ((!cq)||(!(decide (0<v6))||aV v6 l.length))<|av ((!cq)||(!(decide (0<v6))||aV (ahu (v6-1)) l.length))<|cond (cond (!cq) true (cond (decide (0<v6)) (decide ((ahv l v6).Client≤(ahv l (ahu (v6-1))).Client)) false)) ( some false) ( ao (ahu (v6+1)))) ( Q5 n)
def Gt(n:Nat)(l:List bO):Nat→Int→ahw
 | 0=>λ_=>none
 |m+1=>Q6 n l (Gt n l m)
def Q7(l:List bO):ahw:=Gt n l n 0
def Q8(n:Nat):Option (List ahs):=some ([([112,114,111,99]:ahs),([108,101,116]:ahs),([112,117,116]:ahs),([100,101,108,101,116,101]:ahs),([105,102]:ahs),([101,108,115,101]:ahs),([102,111,114]:ahs),([116,111]:ahs),([109,97,120]:ahs),([101,109,105,116]:ahs),([97,98,111,114,116]:ahs),([110,111,116]:ahs),([97,110,100]:ahs),([111,114]:ahs),([105,110,116]:ahs),([115,116,114]:ahs),([98,111,111,108]:ahs),([116,101,120,116]:ahs),([108,101,110]:ahs),([103,101,116,105,110,116]:ahs),([103,101,116,115,116,114]:ahs),([104,97,115]:ahs),([110,111,119]:ahs),([114,97,110,100,111,109]:ahs),([110,111,100,101]:ahs)]:List ahs)
def Q9(n:Nat):ahw:=some false
def Q'(l:List ahs)(s:ahs)(ao:Int→ahw)(v3:Int):ahw:=cond (decide (v3<((l.length:Nat):Int))) ( av (aV v3 l.length)<|cond (decide ((ahv l v3)=s)) ( some true) ( ao (ahu (v3+1)))) ( Q9 n)
def Gu(n:Nat)(l:List ahs)(s:ahs):Nat→Int→ahw
 | 0=>λ_=>none
 |m+1=>Q' n l s (Gu n l s m)
def Q_(l:List ahs)(s:ahs):ahw:=Gu n l s n 0
def Ra(s:ahs):ahw:=(Q8 n).bind λaf=>(Q_ n af s).bind λaq=>some aq
def Gv(n:Nat)(c:Int):ahw:=some (cond (decide (97≤c)) (decide (c≤122)) false)
def Rb(n:Nat)(c:Int):ahw:=some (cond (decide (48≤c)) (decide (c≤57)) false)
def Rc(c:Int):ahw:=(Gv n c).bind λaf=>Option.bind (cond (!af) (Rb n c) (some default)) λaq=>some (cond (cond af true aq) true (decide (c=95)))
def Rd(n:Nat)(bq:Int):ahx:=some bq
def Re(s:ahs)(ao:Int→ahx)(v4:Int):ahx:=av (!(decide (v4<((s.length:Nat):Int)))||aV v4 s.length)<|Option.bind (cond (decide (v4<((s.length:Nat):Int))) (Rc n (((s.getD (v4).toNat 0).toNat:Nat):Int)) (some default)) λbe=>cond (cond (decide (v4<((s.length:Nat):Int))) be false) ( ao (ahu (v4+1))) ( Rd n v4)
def Gw(n:Nat)(s:ahs):Nat→Int→ahx
 | 0=>λ_=>none
 |m+1=>Re n s (Gw n s m)
def Rf(s:ahs)(at_:Int):ahx:=Gw n s n at_
def te(s:ahs):ahw:=av (!(cond (decide (1≤((s.length:Nat):Int))) (decide (((s.length:Nat):Int)≤16)) false)||aV 0 s.length)<|Option.bind (cond (cond (decide (1≤((s.length:Nat):Int))) (decide (((s.length:Nat):Int)≤16)) false) (Gv n (((s.getD 0 0).toNat:Nat):Int)) (some default)) λaq=>Option.bind (cond (cond (cond (decide (1≤((s.length:Nat):Int))) (decide (((s.length:Nat):Int)≤16)) false) aq false) (Rf n s 0) (some default)) λaB=>Option.bind (cond (cond (cond (cond (decide (1≤((s.length:Nat):Int))) (decide (((s.length:Nat):Int)≤16)) false) aq false) (decide (aB=((s.length:Nat):Int))) false) (Ra n s) (some default)) λaD=>some (cond (cond (cond (cond (decide (1≤((s.length:Nat):Int))) (decide (((s.length:Nat):Int)≤16)) false) aq false) (decide (aB=((s.length:Nat):Int))) false) (!aD) false)
def vM(n:Nat)(e:Expr):ahw:=some (cond (cond (cond (decide (e.Op=0)) (decide (e.N=0)) false) (decide (e.S=([]:ahs))) false) (decide (((e.aA.length:Nat):Int)=0)) false)
def Rg(n:Nat)(k_:(List ck)→Expr→Bool→Option (List ck))(c':List ck):Option (List ck):=some c'
def Rh(k_:(List ck)→Expr→Bool→Option (List ck))(e:Expr)(ao:(List ck)→Int→Option (List ck))(bp:List ck)(bq:Int):Option (List ck):=cond (cond (decide (bq<((e.aA.length:Nat):Int))) (decide (((bp.length:Nat):Int)≤400)) false) ( av (aV bq e.aA.length)<|(k_ bp (ahv e.aA bq) false).bind λd_=>ao d_ (ahu (bq+1))) ( Rg n k_ bp)
def Gx(n:Nat)(k_:(List ck)→Expr→Bool→Option (List ck))(e:Expr):Nat→(List ck)→Int→Option (List ck)
 | 0=>λ_ _=>none
 |m+1=>Rh n k_ e (Gx n k_ e m)
def Ri(k_:(List ck)→Expr→Bool→Option (List ck))(out:List ck)(e:Expr)(root:Bool):Option (List ck):=cond (decide (400<((out.length:Nat):Int))) ( some out) ( av (room (out.length+([(⟨false,⟨0,[],0,⟨0,0,[],[]⟩,⟨0,0,[],[]⟩,[],[]⟩,0,e,root⟩:ck)]:List ck).length) 272)<|Gx n k_ e n (out++([(⟨false,⟨0,[],0,⟨0,0,[],[]⟩,⟨0,0,[],[]⟩,[],[]⟩,0,e,root⟩:ck)]:List ck)) 0)
def zn:Nat→(List ck)→Expr→Bool→Option (List ck)
 | 0=>λ_ _ _=>none
 |m+1=>Ri m (zn m)
def Rj(n:Nat)(gW:(List ck)→(List Stmt)→Int→Option (List ck))(iy:List ck):Option (List ck):=some iy
def Rk(n:Nat)(gW:(List ck)→(List Stmt)→Int→Option (List ck))(ao:(List ck)→Int→Option (List ck))(l:List Stmt)(depth:Int)(v21:Int)(gV:List ck):Option (List ck):=ao gV (ahu (v21+1))
def Gy(gW:(List ck)→(List Stmt)→Int→Option (List ck))(ao:(List ck)→Int→Option (List ck))(l:List Stmt)(depth:Int)(v21:Int)(oS:List ck):Option (List ck):=av (aV v21 l.length)<|(gW oS ((ahv l v21).Body) (ahu (depth+1))).bind λlX=>av (aV v21 l.length)<|(gW lX ((ahv l v21).da) (ahu (depth+1))).bind λrA=>Rk n gW ao l depth v21 rA
def Gz(gW:(List ck)→(List Stmt)→Int→Option (List ck))(ao:(List ck)→Int→Option (List ck))(l:List Stmt)(depth:Int)(v21:Int)(v28:List ck):Option (List ck):=av (aV v21 l.length)<|(vM n ((ahv l v21).B)).bind λhv=>cond (!hv) ( av (aV v21 l.length)<|(zn n v28 ((ahv l v21).B) true).bind λk3=>Gy n gW ao l depth v21 k3) ( Gy n gW ao l depth v21 v28)
def Rl(gW:(List ck)→(List Stmt)→Int→Option (List ck))(l:List Stmt)(depth:Int)(ao:(List ck)→Int→Option (List ck))(v20:List ck)(v21:Int):Option (List ck):=cond (cond (decide (v21<((l.length:Nat):Int))) (decide (((v20.length:Nat):Int)≤400)) false) ( av (aV v21 l.length)<|av (room (v20.length+([(⟨true,⟨(ahv l v21).Op,(ahv l v21).Name,(ahv l v21).Max,⟨((ahv l v21).A).Op,((ahv l v21).A).N,((ahv l v21).A).S,((ahv l v21).A).aA⟩,⟨((ahv l v21).B).Op,((ahv l v21).B).N,((ahv l v21).B).S,((ahv l v21).B).aA⟩,(ahv l v21).Body,(ahv l v21).da⟩,depth,⟨0,0,[],[]⟩,false⟩:ck)]:List ck).length) 272)<|av (aV v21 l.length)<|(vM n ((ahv l v21).A)).bind λe5=>cond (!e5) ( av (aV v21 l.length)<|(zn n (v20++([(⟨true,⟨(ahv l v21).Op,(ahv l v21).Name,(ahv l v21).Max,⟨((ahv l v21).A).Op,((ahv l v21).A).N,((ahv l v21).A).S,((ahv l v21).A).aA⟩,⟨((ahv l v21).B).Op,((ahv l v21).B).N,((ahv l v21).B).S,((ahv l v21).B).aA⟩,(ahv l v21).Body,(ahv l v21).da⟩,depth,⟨0,0,[],[]⟩,false⟩:ck)]:List ck)) ((ahv l v21).A) true).bind λdp=>Gz n gW ao l depth v21 dp) ( Gz n gW ao l depth v21 (v20++([(⟨true,⟨(ahv l v21).Op,(ahv l v21).Name,(ahv l v21).Max,⟨((ahv l v21).A).Op,((ahv l v21).A).N,((ahv l v21).A).S,((ahv l v21).A).aA⟩,⟨((ahv l v21).B).Op,((ahv l v21).B).N,((ahv l v21).B).S,((ahv l v21).B).aA⟩,(ahv l v21).Body,(ahv l v21).da⟩,depth,⟨0,0,[],[]⟩,false⟩:ck)]:List ck)))) ( Rj n gW v20)
def GA(n:Nat)(gW:(List ck)→(List Stmt)→Int→Option (List ck))(l:List Stmt)(depth:Int):Nat→(List ck)→Int→Option (List ck)
 | 0=>λ_ _=>none
 |m+1=>Rl n gW l depth (GA n gW l depth m)
def Rm(gW:(List ck)→(List Stmt)→Int→Option (List ck))(out:List ck)(l:List Stmt)(depth:Int):Option (List ck):=GA n gW l depth n out 0
def GB:Nat→(List ck)→(List Stmt)→Int→Option (List ck)
 | 0=>λ_ _ _=>none
 |m+1=>Rm m (GB m)
def Rn(p:bh):Option (List ck):=(GB n ([]:List ck) p.Body 1).bind λaf=>some af
def Ro(n:Nat):ahx:=some 0
def Rp(n:Nat)(ao:Int→ahx)(l:List Param)(bL:Int):ahx:=ao (ahu (bL+1))
def Rq(ao:Int→ahx)(l:List Param)(bL:Int)(eC:Int→ahx)(v22:Int):ahx:=cond (decide (v22<bL)) ( av (aV v22 l.length)<|av (aV bL l.length)<|cond (decide (((ahv l v22).Name)=((ahv l bL).Name))) ( some 8) ( eC (ahu (v22+1)))) ( Rp n ao l bL)
def GC(n:Nat)(ao:Int→ahx)(l:List Param)(bL:Int):Nat→Int→ahx
 | 0=>λ_=>none
 |m+1=>Rq n ao l bL (GC n ao l bL m)
def Rr(l:List Param)(ao:Int→ahx)(bL:Int):ahx:=cond (decide (bL<((l.length:Nat):Int))) ( av (aV bL l.length)<|(te n ((ahv l bL).Name)).bind λdL=>cond (!dL) ( some 7) ( av (aV bL l.length)<|av ((decide ((ahv l bL).hU<1))||aV bL l.length)<|cond (cond (decide ((ahv l bL).hU<1)) true (decide (3<(ahv l bL).hU))) ( some 10) ( GC n ao l bL n 0))) ( Ro n)
def GD(n:Nat)(l:List Param):Nat→Int→ahx
 | 0=>λ_=>none
 |m+1=>Rr n l (GD n l m)
def Rs(l:List Param):ahx:=cond (decide (6<((l.length:Nat):Int))) ( some 2) ( GD n l n 0)
def Rt(n:Nat)(op:Int):ahx:=cond (cond (decide (4≤op)) (decide (op≤19)) false) ( some 2) ( some (-1))
def pU(op:Int)(v2:Bool):ahx:=cond v2 ( some 1) ( Rt n op)
def rD(op:Int)(v1:Bool):ahx:=cond v1 ( some 0) ( cond (decide (op=9)) ( pU n op (decide (op=9))) ( cond (decide (op=18)) ( pU n op (decide (op=18))) ( cond (decide (op=20)) ( pU n op (decide (op=20))) ( cond (decide (op=21)) ( pU n op (decide (op=21))) ( cond (decide (op=22)) ( pU n op (decide (op=22))) ( cond (decide (op=23)) ( pU n op (decide (op=23))) ( pU n op (decide (op=24)))))))))
def GE(op:Int):ahx:=cond (decide (op=1)) ( rD n op (decide (op=1))) ( cond (decide (op=2)) ( rD n op (decide (op=2))) ( cond (decide (op=3)) ( rD n op (decide (op=3))) ( cond (decide (op=25)) ( rD n op (decide (op=25))) ( cond (decide (op=26)) ( rD n op (decide (op=26))) ( rD n op (decide (op=27)))))))
def Ru(n:Nat):ahw:=some true
def Rv(s:ahs)(ao:Int→ahw)(v5:Int):ahw:=cond (decide (v5<((s.length:Nat):Int))) ( av (aV v5 s.length)<|av ((decide ((((s.getD (v5).toNat 0).toNat:Nat):Int)<32))||aV v5 s.length)<|cond (cond (decide ((((s.getD (v5).toNat 0).toNat:Nat):Int)<32)) true (decide (126<(((s.getD (v5).toNat 0).toNat:Nat):Int)))) ( some false) ( ao (ahu (v5+1)))) ( Ru n)
def GF(n:Nat)(s:ahs):Nat→Int→ahw
 | 0=>λ_=>none
 |m+1=>Rv n s (GF n s m)
def Rw(s:ahs):ahw:=cond (decide (64<((s.length:Nat):Int))) ( some false) ( GF n s n 0)
def Rx(e:Expr)(depth:Int):ahx:=(GE n e.Op).bind λaf=>cond (cond (cond (decide (af<0)) true (cond (!decide (e.Op=1)) (!decide (e.N=0)) false)) true (cond (cond (!decide (e.Op=2)) (!decide (e.Op=3)) false) (!(decide (e.S=([]:ahs)))) false)) ( some 1) ( Option.bind (cond (decide (e.Op=3)) (te n e.S) (some default)) λaB=>cond (cond (decide (e.Op=3)) (!aB) false) ( some 7) ( Option.bind (cond ((!(decide (e.N<0)))&&(decide (e.Op=2))) (Rw n e.S) (some default)) λbE=>Option.bind (cond (!(cond (decide (e.N<0)) true (cond (decide (e.Op=2)) (!bE) false))) (GE n e.Op) (some default)) λbe=>cond (cond (cond (decide (e.N<0)) true (cond (decide (e.Op=2)) (!bE) false)) true (!decide (((e.aA.length:Nat):Int)=be))) ( some 1) ( cond (decide (12<depth)) ( some 2) ( some 0))))
def Ry(n:Nat)(la:Expr→Int→ahx):ahx:=some 0
def Rz(la:Expr→Int→ahx)(depth:Int)(e:Expr)(ao:Int→ahx)(v6:Int):ahx:=cond (decide (v6<((e.aA.length:Nat):Int))) ( av (aV v6 e.aA.length)<|(la (ahv e.aA v6) (ahu (depth+1))).bind λcq=>cond (!decide (cq=0)) ( some cq) ( ao (ahu (v6+1)))) ( Ry n la)
def GG(n:Nat)(la:Expr→Int→ahx)(depth:Int)(e:Expr):Nat→Int→ahx
 | 0=>λ_=>none
 |m+1=>Rz n la depth e (GG n la depth e m)
def RA(la:Expr→Int→ahx)(e:Expr)(depth:Int):ahx:=(Rx n e depth).bind λaf=>cond (!decide (af=0)) ( some af) ( GG n la depth e n 0)
def GH:Nat→Expr→Int→ahx
 | 0=>λ_ _=>none
 |m+1=>RA m (GH m)
def GI(e:Expr):ahx:=(GH n e 1).bind λaf=>some af
def RB(n:Nat):Option (Bool×Bool×Bool×Bool×Bool×Bool):=some (false,true,false,false,false,false)
def GJ(op:Int)(v2:Bool):Option (Bool×Bool×Bool×Bool×Bool×Bool):=cond v2 ( some (false,false,true,false,false,false)) ( cond (decide (op=5)) ( some (false,false,true,false,true,true)) ( cond (decide (op=6)) ( some (true,true,true,true,true,false)) ( RB n)))
def GK(op:Int)(v1:Bool):Option (Bool×Bool×Bool×Bool×Bool×Bool):=cond v1 ( some (true,false,true,false,false,false)) ( cond (decide (op=3)) ( some (false,false,true,true,false,false)) ( cond (decide (op=4)) ( GJ n op (decide (op=4))) ( GJ n op (decide (op=7)))))
def RC(op:Int):Option (Bool×Bool×Bool×Bool×Bool×Bool):=cond (decide (op=1)) ( GK n op (decide (op=1))) ( GK n op (decide (op=2)))
def GL(n:Nat)(depth:Int):ahx:=cond (decide (12<depth)) ( some 2) ( some 0)
def GM(depth:Int)(af:Bool×Bool×Bool×Bool×Bool×Bool)(s:Stmt):ahx:=cond af.2.2.2.1 ( (GI n (⟨s.B.Op,s.B.N,s.B.S,s.B.aA⟩:Expr)).bind λcC=>cond (!decide (cC=0)) ( some cC) ( GL n depth)) ( GL n depth)
def RD(s:Stmt)(depth:Int):ahx:=(RC n s.Op).bind λaf=>Option.bind (cond ((!(cond (cond (cond (decide (s.Op<1)) true (decide (8<s.Op))) true (cond (!af.1) (!(decide (s.Name=([]:ahs)))) false)) true (cond (!af.2.1) (!decide (s.Max=0)) false)))&&(!af.2.2.1)) (vM n (⟨s.A.Op,s.A.N,s.A.S,s.A.aA⟩:Expr)) (some default)) λaq=>Option.bind (cond ((!(cond (cond (cond (cond (decide (s.Op<1)) true (decide (8<s.Op))) true (cond (!af.1) (!(decide (s.Name=([]:ahs)))) false)) true (cond (!af.2.1) (!decide (s.Max=0)) false)) true (cond (!af.2.2.1) (!aq) false)))&&(!af.2.2.2.1)) (vM n (⟨s.B.Op,s.B.N,s.B.S,s.B.aA⟩:Expr)) (some default)) λaB=>cond (cond (cond (cond (cond (cond (cond (cond (decide (s.Op<1)) true (decide (8<s.Op))) true (cond (!af.1) (!(decide (s.Name=([]:ahs)))) false)) true (cond (!af.2.1) (!decide (s.Max=0)) false)) true (cond (!af.2.2.1) (!aq) false)) true (cond (!af.2.2.2.1) (!aB) false)) true (cond (!af.2.2.2.2.1) (decide (0<((s.Body.length:Nat):Int))) false)) true (cond (!af.2.2.2.2.2) (decide (0<((s.da.length:Nat):Int))) false)) ( some 1) ( cond (cond (cond (decide (s.Op=6)) (cond (decide (s.Max<1)) true (decide (16<s.Max))) false) true (cond (decide (s.Op=8)) (cond (decide (s.Max<0)) true (decide (999<s.Max))) false)) ( some 1) ( Option.bind (cond af.1 (te n s.Name) (some default)) λbe=>cond (cond af.1 (!be) false) ( some 7) ( cond af.2.2.1 ( (GI n (⟨s.A.Op,s.A.N,s.A.S,s.A.aA⟩:Expr)).bind λcq=>cond (!decide (cq=0)) ( some cq) ( GM n depth af s)) ( GM n depth af s))))
def RE(n:Nat)(bE:(List ck)):ahx:=cond (decide (400<((bE.length:Nat):Int))) ( some 2) ( some 0)
def GN(n:Nat)(ao:Int→ahx)(bE:(List ck))(v11:Int):ahx:=ao (ahu (v11+1))
def RF(bE:(List ck))(ao:Int→ahx)(v11:Int):ahx:=cond (decide (v11<((bE.length:Nat):Int))) ( av (aV v11 bE.length)<|cond ((ahv bE v11).LI) ( av (aV v11 bE.length)<|av (aV v11 bE.length)<|(RD n ((ahv bE v11).Stmt) ((ahv bE v11).LJ)).bind λdv=>cond (!decide (dv=0)) ( some dv) ( GN n ao bE v11)) ( GN n ao bE v11)) ( RE n bE)
def GO(n:Nat)(bE:(List ck)):Nat→Int→ahx
 | 0=>λ_=>none
 |m+1=>RF n bE (GO n bE m)
def RG(p:bh):ahx:=(te n p.Name).bind λaf=>cond (!af) ( some 7) ( (Rs n p.Params).bind λaB=>cond (!decide (aB=0)) ( some aB) ( (Rn n p).bind λbE=>GO n bE n 0))
def RH(n:Nat)(a:Int):ahx:=cond (decide (a<0)) ( some (IntKind.u64.wrap (0-(IntKind.u64.wrap a)))) ( some (IntKind.u64.wrap a))
def RI(n:Nat)(ep:Int)(v12:ahs):Option ahs:=cond (decide (ep<0)) ( av (bW (([45]:ahs).length+v12.length))<|some (([45]:ahs)++v12)) ( some v12)
def RJ(ep:Int)(ao:Int→ahs→Option ahs)(v6:Int)(bp:ahs):Option ahs:=cond (cond (decide (0<v6)) true (decide (bp=([]:ahs)))) ( av (oK ([(IntKind.u8.wrap (IntKind.u64.wrap (48+(Int.tmod v6 10))))]:List Int))<|av (bW ((jS ([(IntKind.u8.wrap (IntKind.u64.wrap (48+(Int.tmod v6 10))))]:List Int)).length+bp.length))<|ao (IntKind.u64.wrap (Int.tdiv v6 10)) ((jS ([(IntKind.u8.wrap (IntKind.u64.wrap (48+(Int.tmod v6 10))))]:List Int))++bp)) ( RI n ep bp)
def GP(n:Nat)(ep:Int):Nat→Int→ahs→Option ahs
 | 0=>λ_ _=>none
 |m+1=>RJ n ep (GP n ep m)
def zo(ep:Int):Option ahs:=(RH n ep).bind λaf=>GP n ep n af ([]:ahs)
def RK(n:Nat)(v9:ahs):Option ahs:=some v9
def RL(depth:Int)(ao:ahs→Int→Option ahs)(v4:ahs)(v5:Int):Option ahs:=cond (decide (v5<depth)) ( av (bW (v4.length+([32,32,32,32]:ahs).length))<|ao (v4++([32,32,32,32]:ahs)) (ahu (v5+1))) ( RK n v4)
def GQ(n:Nat)(depth:Int):Nat→ahs→Int→Option ahs
 | 0=>λ_ _=>none
 |m+1=>RL n depth (GQ n depth m)
def RM(depth:Int):Option ahs:=GQ n depth n ([]:ahs) 0
def GR(n:Nat):ahw:=some true
def GS(s:ahs)(ao:Int→ahw)(v4:Int):ahw:=cond (decide (v4<((s.length:Nat):Int))) ( av (aV v4 s.length)<|av ((decide ((((s.getD (v4).toNat 0).toNat:Nat):Int)<32))||aV v4 s.length)<|cond (cond (decide ((((s.getD (v4).toNat 0).toNat:Nat):Int)<32)) true (decide (126<(((s.getD (v4).toNat 0).toNat:Nat):Int)))) ( some false) ( ao (ahu (v4+1)))) ( GR n)
def tf(n:Nat)(s:ahs):Nat→Int→ahw
 | 0=>λ_=>none
 |m+1=>GS n s (tf n s m)
def GT(s:ahs):ahw:=tf n s n 0
def RN(n:Nat)(v24:ahs):Option (ahs×Int):=av (bW (v24.length+([34]:ahs).length))<|some ((v24++([34]:ahs)),0)
def RO(n:Nat)(ao:ahs→Int→Option (ahs×Int))(s:ahs)(bL:Int)(v21:ahs):Option (ahs×Int):=ao v21 (ahu (bL+1))
def GU(ao:ahs→Int→Option (ahs×Int))(s:ahs)(bL:Int)(cN:ahs):Option (ahs×Int):=av (nw bL (ahu (bL+1)) s.length)<|av (bW (cN.length+((s.take ((ahu (bL+1))).toNat).drop (bL).toNat).length))<|RO n ao s bL (cN++((s.take ((ahu (bL+1))).toNat).drop (bL).toNat))
def RP(s:ahs)(ao:ahs→Int→Option (ahs×Int))(c':ahs)(bL:Int):Option (ahs×Int):=cond (decide (bL<((s.length:Nat):Int))) ( av (aV bL s.length)<|av ((decide ((((s.getD (bL).toNat 0).toNat:Nat):Int)=34))||aV bL s.length)<|cond (cond (decide ((((s.getD (bL).toNat 0).toNat:Nat):Int)=34)) true (decide ((((s.getD (bL).toNat 0).toNat:Nat):Int)=92))) ( av (bW (c'.length+([92]:ahs).length))<|GU n ao s bL (c'++([92]:ahs))) ( GU n ao s bL c')) ( RN n c')
def GV(n:Nat)(s:ahs):Nat→ahs→Int→Option (ahs×Int)
 | 0=>λ_ _=>none
 |m+1=>RP n s (GV n s m)
def RQ(s:ahs):Option (ahs×Int):=cond (decide (64<((s.length:Nat):Int))) ( some (([]:ahs),2)) ( (GT n s).bind λaq=>cond (!aq) ( some (([]:ahs),1)) ( GV n s n ([34]:ahs) 0))
def RR(n:Nat):ahx:=some 9
def zp(op:Int)(v3:Bool):ahx:=cond v3 ( some 7) ( cond (decide (op=9)) ( some 8) ( RR n))
def GW(op:Int)(v2:Bool):ahx:=cond v2 ( some 6) ( cond (decide (op=6)) ( zp n op (decide (op=6))) ( cond (decide (op=7)) ( zp n op (decide (op=7))) ( zp n op (decide (op=8)))))
def rE(op:Int)(v1:Bool):ahx:=cond v1 ( some 4) ( cond (decide (op=19)) ( some 5) ( cond (decide (op=4)) ( GW n op (decide (op=4))) ( GW n op (decide (op=5)))))
def GX(op:Int):ahx:=cond (decide (op=17)) ( some 1) ( cond (decide (op=16)) ( some 2) ( cond (decide (op=18)) ( some 3) ( cond (decide (op=10)) ( rE n op (decide (op=10))) ( cond (decide (op=11)) ( rE n op (decide (op=11))) ( cond (decide (op=12)) ( rE n op (decide (op=12))) ( cond (decide (op=13)) ( rE n op (decide (op=13))) ( cond (decide (op=14)) ( rE n op (decide (op=14))) ( rE n op (decide (op=15))))))))))
def GY(n:Nat)(op:Int):Option ahs:=cond (decide (op=17)) ( some ([111,114]:ahs)) ( cond (decide (op=16)) ( some ([97,110,100]:ahs)) ( cond (decide (op=10)) ( some ([61,61]:ahs)) ( cond (decide (op=11)) ( some ([33,61]:ahs)) ( cond (decide (op=12)) ( some ([60]:ahs)) ( cond (decide (op=13)) ( some ([60,61]:ahs)) ( cond (decide (op=14)) ( some ([62]:ahs)) ( cond (decide (op=15)) ( some ([62,61]:ahs)) ( cond (decide (op=19)) ( some ([43,43]:ahs)) ( cond (decide (op=4)) ( some ([43]:ahs)) ( cond (decide (op=5)) ( some ([45]:ahs)) ( cond (decide (op=6)) ( some ([42]:ahs)) ( cond (decide (op=7)) ( some ([47]:ahs)) ( some ([37]:ahs))))))))))))))
def GZ(n:Nat)(op:Int):Option ahs:=cond (decide (op=20)) ( some ([116,101,120,116]:ahs)) ( cond (decide (op=21)) ( some ([108,101,110]:ahs)) ( cond (decide (op=22)) ( some ([103,101,116,105,110,116]:ahs)) ( cond (decide (op=23)) ( some ([103,101,116,115,116,114]:ahs)) ( cond (decide (op=24)) ( some ([104,97,115]:ahs)) ( cond (decide (op=25)) ( some ([110,111,119]:ahs)) ( cond (decide (op=26)) ( some ([114,97,110,100,111,109]:ahs)) ( some ([110,111,100,101]:ahs))))))))
def RS(n6:Expr→Option ahs)(lY:Expr→Int→Option ahs)(e:Expr):Option ahs:=(GX n e.Op).bind λaf=>cond (decide (e.Op=1)) ( (zo n e.N).bind λaB=>some aB) ( cond (decide (e.Op=2)) ( (RQ n e.S).bind λbE=>some bE.1) ( cond (decide (e.Op=3)) ( some e.S) ( cond (decide (e.Op=18)) ( av (aV 0 e.aA.length)<|(lY (e.aA.getD 0 default) af).bind λcC=>av (bW (([110,111,116,32]:ahs).length+cC.length))<|some (([110,111,116,32]:ahs)++cC)) ( cond (decide (e.Op=9)) ( av (aV 0 e.aA.length)<|(lY (e.aA.getD 0 default) af).bind λdu=>av (bW (([45]:ahs).length+du.length))<|some (([45]:ahs)++du)) ( cond (cond (decide (af=9)) (decide (((e.aA.length:Nat):Int)=0)) false) ( (GZ n e.Op).bind λdL=>av (bW (dL.length+([40,41]:ahs).length))<|some (dL++([40,41]:ahs))) ( cond (decide (af=9)) ( (GZ n e.Op).bind λeE=>av (bW (eE.length+([40]:ahs).length))<|av (aV 0 e.aA.length)<|(n6 (e.aA.getD 0 default)).bind λea=>av (bW ((eE++([40]:ahs)).length+ea.length))<|av (bW (((eE++([40]:ahs))++ea).length+([41]:ahs).length))<|some (((eE++([40]:ahs))++ea)++([41]:ahs))) ( cond (decide (af=4)) ( av (aV 0 e.aA.length)<|(lY (e.aA.getD 0 default) 5).bind λdp=>av (bW (dp.length+([32]:ahs).length))<|(GY n e.Op).bind λe8=>av (bW ((dp++([32]:ahs)).length+e8.length))<|av (bW (((dp++([32]:ahs))++e8).length+([32]:ahs).length))<|av (aV 1 e.aA.length)<|(lY (e.aA.getD 1 default) 5).bind λmE=>av (bW ((((dp++([32]:ahs))++e8)++([32]:ahs)).length+mE.length))<|some ((((dp++([32]:ahs))++e8)++([32]:ahs))++mE)) ( av (aV 0 e.aA.length)<|(lY (e.aA.getD 0 default) af).bind λlT=>av (bW (lT.length+([32]:ahs).length))<|(GY n e.Op).bind λng=>av (bW ((lT++([32]:ahs)).length+ng.length))<|av (bW (((lT++([32]:ahs))++ng).length+([32]:ahs).length))<|av (aV 1 e.aA.length)<|(lY (e.aA.getD 1 default) (ahu (af+1))).bind λgi=>av (bW ((((lT++([32]:ahs))++ng)++([32]:ahs)).length+gi.length))<|some ((((lT++([32]:ahs))++ng)++([32]:ahs))++gi)))))))))
def RT(n6:Expr→Option ahs)(lY:Expr→Int→Option ahs)(e:Expr)(least:Int):Option ahs:=(GX n e.Op).bind λaf=>cond (decide (af<least)) ( (n6 e).bind λaB=>av (bW (([40]:ahs).length+aB.length))<|av (bW ((([40]:ahs)++aB).length+([41]:ahs).length))<|some ((([40]:ahs)++aB)++([41]:ahs))) ( (n6 e).bind λbe=>some be)
def tg:Nat→(Expr→Option ahs)×(Expr→Int→Option ahs)
 | 0=>(λ_=>none,λ_ _=>none)
 |m+1=>(RS m ((tg m).1) ((tg m).2),RT m ((tg m).1) ((tg m).2))
def nk:Expr→Option ahs:=(tg n).1
def ZH:Expr→Int→Option ahs:=(tg n).2
def RU(n:Nat)(hO:(List Stmt)→Int→Option ahs)(ie:Stmt→Int→Option ahs)(c':ahs):Option ahs:=some c'
def RV(hO:(List Stmt)→Int→Option ahs)(ie:Stmt→Int→Option ahs)(l:List Stmt)(depth:Int)(ao:ahs→Int→Option ahs)(v6:ahs)(bp:Int):Option ahs:=cond (decide (bp<((l.length:Nat):Int))) ( av (aV bp l.length)<|(ie (ahv l bp) depth).bind λcC=>av (bW (v6.length+cC.length))<|ao (v6++cC) (ahu (bp+1))) ( RU n hO ie v6)
def G0(n:Nat)(hO:(List Stmt)→Int→Option ahs)(ie:Stmt→Int→Option ahs)(l:List Stmt)(depth:Int):Nat→ahs→Int→Option ahs
 | 0=>λ_ _=>none
 |m+1=>RV n hO ie l depth (G0 n hO ie l depth m)
def RW(hO:(List Stmt)→Int→Option ahs)(ie:Stmt→Int→Option ahs)(l:List Stmt)(depth:Int):Option ahs:=G0 n hO ie l depth n ([]:ahs) 0
def G1(n:Nat)(hO:(List Stmt)→Int→Option ahs)(ie:Stmt→Int→Option ahs)(n7:ahs):Option ahs:=av (bW (n7.length+([10]:ahs).length))<|some (n7++([10]:ahs))
def RX(hO:(List Stmt)→Int→Option ahs)(ie:Stmt→Int→Option ahs)(x:Stmt)(depth:Int):Option ahs:=(RM n depth).bind λaf=>cond (decide (x.Op=1)) ( av (bW (af.length+([108,101,116,32]:ahs).length))<|av (bW ((af++([108,101,116,32]:ahs)).length+x.Name.length))<|av (bW (((af++([108,101,116,32]:ahs))++x.Name).length+([32,61,32]:ahs).length))<|(nk n (⟨x.A.Op,x.A.N,x.A.S,x.A.aA⟩:Expr)).bind λbe=>av (bW ((((af++([108,101,116,32]:ahs))++x.Name)++([32,61,32]:ahs)).length+be.length))<|av (bW (((((af++([108,101,116,32]:ahs))++x.Name)++([32,61,32]:ahs))++be).length+([59,10]:ahs).length))<|some (((((af++([108,101,116,32]:ahs))++x.Name)++([32,61,32]:ahs))++be)++([59,10]:ahs))) ( cond (decide (x.Op=2)) ( av (bW (af.length+x.Name.length))<|av (bW ((af++x.Name).length+([32,61,32]:ahs).length))<|(nk n (⟨x.A.Op,x.A.N,x.A.S,x.A.aA⟩:Expr)).bind λeW=>av (bW (((af++x.Name)++([32,61,32]:ahs)).length+eW.length))<|av (bW ((((af++x.Name)++([32,61,32]:ahs))++eW).length+([59,10]:ahs).length))<|some ((((af++x.Name)++([32,61,32]:ahs))++eW)++([59,10]:ahs))) ( cond (decide (x.Op=3)) ( av (bW (af.length+([112,117,116,32]:ahs).length))<|(nk n (⟨x.A.Op,x.A.N,x.A.S,x.A.aA⟩:Expr)).bind λeM=>av (bW ((af++([112,117,116,32]:ahs)).length+eM.length))<|av (bW (((af++([112,117,116,32]:ahs))++eM).length+([32,61,32]:ahs).length))<|(nk n (⟨x.B.Op,x.B.N,x.B.S,x.B.aA⟩:Expr)).bind λes=>av (bW ((((af++([112,117,116,32]:ahs))++eM)++([32,61,32]:ahs)).length+es.length))<|av (bW (((((af++([112,117,116,32]:ahs))++eM)++([32,61,32]:ahs))++es).length+([59,10]:ahs).length))<|some (((((af++([112,117,116,32]:ahs))++eM)++([32,61,32]:ahs))++es)++([59,10]:ahs))) ( cond (decide (x.Op=4)) ( av (bW (af.length+([100,101,108,101,116,101,32]:ahs).length))<|(nk n (⟨x.A.Op,x.A.N,x.A.S,x.A.aA⟩:Expr)).bind λe5=>av (bW ((af++([100,101,108,101,116,101,32]:ahs)).length+e5.length))<|av (bW (((af++([100,101,108,101,116,101,32]:ahs))++e5).length+([59,10]:ahs).length))<|some (((af++([100,101,108,101,116,101,32]:ahs))++e5)++([59,10]:ahs))) ( cond (decide (x.Op=7)) ( av (bW (af.length+([101,109,105,116,32]:ahs).length))<|(nk n (⟨x.A.Op,x.A.N,x.A.S,x.A.aA⟩:Expr)).bind λhv=>av (bW ((af++([101,109,105,116,32]:ahs)).length+hv.length))<|av (bW (((af++([101,109,105,116,32]:ahs))++hv).length+([59,10]:ahs).length))<|some (((af++([101,109,105,116,32]:ahs))++hv)++([59,10]:ahs))) ( cond (decide (x.Op=8)) ( av (bW (af.length+([97,98,111,114,116,32]:ahs).length))<|(zo n x.Max).bind λlX=>av (bW ((af++([97,98,111,114,116,32]:ahs)).length+lX.length))<|av (bW (((af++([97,98,111,114,116,32]:ahs))++lX).length+([59,10]:ahs).length))<|some (((af++([97,98,111,114,116,32]:ahs))++lX)++([59,10]:ahs))) ( cond (decide (x.Op=6)) ( av (bW (af.length+([102,111,114,32]:ahs).length))<|av (bW ((af++([102,111,114,32]:ahs)).length+x.Name.length))<|av (bW (((af++([102,111,114,32]:ahs))++x.Name).length+([32,61,32]:ahs).length))<|(nk n (⟨x.A.Op,x.A.N,x.A.S,x.A.aA⟩:Expr)).bind λgi=>av (bW ((((af++([102,111,114,32]:ahs))++x.Name)++([32,61,32]:ahs)).length+gi.length))<|av (bW (((((af++([102,111,114,32]:ahs))++x.Name)++([32,61,32]:ahs))++gi).length+([32,116,111,32]:ahs).length))<|(nk n (⟨x.B.Op,x.B.N,x.B.S,x.B.aA⟩:Expr)).bind λhN=>av (bW ((((((af++([102,111,114,32]:ahs))++x.Name)++([32,61,32]:ahs))++gi)++([32,116,111,32]:ahs)).length+hN.length))<|av (bW (((((((af++([102,111,114,32]:ahs))++x.Name)++([32,61,32]:ahs))++gi)++([32,116,111,32]:ahs))++hN).length+([32,109,97,120,32]:ahs).length))<|(zo n x.Max).bind λn4=>av (bW ((((((((af++([102,111,114,32]:ahs))++x.Name)++([32,61,32]:ahs))++gi)++([32,116,111,32]:ahs))++hN)++([32,109,97,120,32]:ahs)).length+n4.length))<|av (bW (((((((((af++([102,111,114,32]:ahs))++x.Name)++([32,61,32]:ahs))++gi)++([32,116,111,32]:ahs))++hN)++([32,109,97,120,32]:ahs))++n4).length+([32,123,10]:ahs).length))<|(hO x.Body (ahu (depth+1))).bind λnj=>av (bW ((((((((((af++([102,111,114,32]:ahs))++x.Name)++([32,61,32]:ahs))++gi)++([32,116,111,32]:ahs))++hN)++([32,109,97,120,32]:ahs))++n4)++([32,123,10]:ahs)).length+nj.length))<|av (bW (((((((((((af++([102,111,114,32]:ahs))++x.Name)++([32,61,32]:ahs))++gi)++([32,116,111,32]:ahs))++hN)++([32,109,97,120,32]:ahs))++n4)++([32,123,10]:ahs))++nj).length+af.length))<|av (bW ((((((((((((af++([102,111,114,32]:ahs))++x.Name)++([32,61,32]:ahs))++gi)++([32,116,111,32]:ahs))++hN)++([32,109,97,120,32]:ahs))++n4)++([32,123,10]:ahs))++nj)++af).length+([125,10]:ahs).length))<|some ((((((((((((af++([102,111,114,32]:ahs))++x.Name)++([32,61,32]:ahs))++gi)++([32,116,111,32]:ahs))++hN)++([32,109,97,120,32]:ahs))++n4)++([32,123,10]:ahs))++nj)++af)++([125,10]:ahs))) ( av (bW (af.length+([105,102,32]:ahs).length))<|(nk n (⟨x.A.Op,x.A.N,x.A.S,x.A.aA⟩:Expr)).bind λeN=>av (bW ((af++([105,102,32]:ahs)).length+eN.length))<|av (bW (((af++([105,102,32]:ahs))++eN).length+([32,123,10]:ahs).length))<|(hO x.Body (ahu (depth+1))).bind λmH=>av (bW ((((af++([105,102,32]:ahs))++eN)++([32,123,10]:ahs)).length+mH.length))<|av (bW (((((af++([105,102,32]:ahs))++eN)++([32,123,10]:ahs))++mH).length+af.length))<|av (bW ((((((af++([105,102,32]:ahs))++eN)++([32,123,10]:ahs))++mH)++af).length+([125]:ahs).length))<|cond (decide (0<((x.da.length:Nat):Int))) ( av (bW (((((((af++([105,102,32]:ahs))++eN)++([32,123,10]:ahs))++mH)++af)++([125]:ahs)).length+([32,101,108,115,101,32,123,10]:ahs).length))<|(hO x.da (ahu (depth+1))).bind λfc=>av (bW ((((((((af++([105,102,32]:ahs))++eN)++([32,123,10]:ahs))++mH)++af)++([125]:ahs))++([32,101,108,115,101,32,123,10]:ahs)).length+fc.length))<|av (bW (((((((((af++([105,102,32]:ahs))++eN)++([32,123,10]:ahs))++mH)++af)++([125]:ahs))++([32,101,108,115,101,32,123,10]:ahs))++fc).length+af.length))<|av (bW ((((((((((af++([105,102,32]:ahs))++eN)++([32,123,10]:ahs))++mH)++af)++([125]:ahs))++([32,101,108,115,101,32,123,10]:ahs))++fc)++af).length+([125]:ahs).length))<|G1 n hO ie ((((((((((af++([105,102,32]:ahs))++eN)++([32,123,10]:ahs))++mH)++af)++([125]:ahs))++([32,101,108,115,101,32,123,10]:ahs))++fc)++af)++([125]:ahs))) ( G1 n hO ie ((((((af++([105,102,32]:ahs))++eN)++([32,123,10]:ahs))++mH)++af)++([125]:ahs))))))))))
def th:Nat→((List Stmt)→Int→Option ahs)×(Stmt→Int→Option ahs)
 | 0=>(λ_ _=>none,λ_ _=>none)
 |m+1=>(RW m ((th m).1) ((th m).2),RX m ((th m).1) ((th m).2))
def G2:(List Stmt)→Int→Option ahs:=(th n).1
def ZI:Stmt→Int→Option ahs:=(th n).2
def RY(n:Nat)(ty:Int):Option ahs:=cond (decide (ty=1)) ( some ([105,110,116]:ahs)) ( cond (decide (ty=2)) ( some ([115,116,114]:ahs)) ( some ([98,111,111,108]:ahs)))
def RZ(p:bh)(gh:ahs):Option ahs:=av (bW (gh.length+([41,32,123,10]:ahs).length))<|(G2 n p.Body 1).bind λfH=>av (bW ((gh++([41,32,123,10]:ahs)).length+fH.length))<|av (bW (((gh++([41,32,123,10]:ahs))++fH).length+([125,10]:ahs).length))<|some (((gh++([41,32,123,10]:ahs))++fH)++([125,10]:ahs))
def R0(n:Nat)(ao:ahs→Int→Option ahs)(aX:Int)(p:bh)(v26:ahs):Option ahs:=ao v26 (ahu (aX+1))
def G3(ao:ahs→Int→Option ahs)(aX:Int)(p:bh)(cM:ahs):Option ahs:=av (aV aX p.Params.length)<|av (bW (cM.length+((ahv p.Params aX).Name).length))<|av (bW ((cM++((ahv p.Params aX).Name)).length+([58,32]:ahs).length))<|av (aV aX p.Params.length)<|(RY n ((ahv p.Params aX).hU)).bind λfD=>av (bW (((cM++((ahv p.Params aX).Name))++([58,32]:ahs)).length+fD.length))<|R0 n ao aX p (((cM++((ahv p.Params aX).Name))++([58,32]:ahs))++fD)
def R1(p:bh)(ao:ahs→Int→Option ahs)(c6:ahs)(aX:Int):Option ahs:=cond (decide (aX<((p.Params.length:Nat):Int))) ( cond (decide (0<aX)) ( av (bW (c6.length+([44,32]:ahs).length))<|G3 n ao aX p (c6++([44,32]:ahs))) ( G3 n ao aX p c6)) ( RZ n p c6)
def G4(n:Nat)(p:bh):Nat→ahs→Int→Option ahs
 | 0=>λ_ _=>none
 |m+1=>R1 n p (G4 n p m)
def R2(p:bh):Option ahs:=(RG n p).bind λaf=>cond (!decide (af=0)) ( some ([]:ahs)) ( av (bW (([112,114,111,99,32]:ahs).length+p.Name.length))<|av (bW ((([112,114,111,99,32]:ahs)++p.Name).length+([40]:ahs).length))<|G4 n p n ((([112,114,111,99,32]:ahs)++p.Name)++([40]:ahs)) 0)
def R3(n:Nat)(l:List bh):ahw:=some (decide (((l.length:Nat):Int)≤16))
def R4(l:List bh)(ao:Int→ahw)(v6:Int):ahw:=cond (decide (v6<((l.length:Nat):Int))) ( av (aV v6 l.length)<|(R2 n (ahv l v6)).bind λcq=>av ((cond (decide (cq=([]:ahs))) true (decide (16384<((cq.length:Nat):Int))))||(!(decide (0<v6))||aV (ahu (v6-1)) l.length))<|av ((cond (decide (cq=([]:ahs))) true (decide (16384<((cq.length:Nat):Int))))||(!(decide (0<v6))||aV v6 l.length))<|cond (cond (cond (decide (cq=([]:ahs))) true (decide (16384<((cq.length:Nat):Int)))) true (cond (decide (0<v6)) (!(Op.bytesLess ((ahv l (ahu (v6-1))).Name) ((ahv l v6).Name))) false)) ( some false) ( ao (ahu (v6+1)))) ( R3 n l)
def G5(n:Nat)(l:List bh):Nat→Int→ahw
 | 0=>λ_=>none
 |m+1=>R4 n l (G5 n l m)
def R5(l:List bh):ahw:=G5 n l n 0
def R6(n:Nat):ahw:=some true
def R7(l:List ahs)(ao:Int→ahw)(v6:Int):ahw:=cond (decide (v6<((l.length:Nat):Int))) ( av (aV v6 l.length)<|(rC n (ahv l v6)).bind λcq=>av ((!cq)||(!(decide (0<v6))||aV (ahu (v6-1)) l.length))<|av ((!cq)||(!(decide (0<v6))||aV v6 l.length))<|cond (cond (!cq) true (cond (decide (0<v6)) (!(Op.bytesLess (ahv l (ahu (v6-1))) (ahv l v6))) false)) ( some false) ( ao (ahu (v6+1)))) ( R6 n)
def G6(n:Nat)(l:List ahs):Nat→Int→ahw
 | 0=>λ_=>none
 |m+1=>R7 n l (G6 n l m)
def G7(l:List ahs):ahw:=G6 n l n 0
def R8(f:fV):ahw:=cond f.eX ( some (cond (decide (((f.Reads.length:Nat):Int)=0)) (decide (((f.dB.length:Nat):Int)=0)) false)) ( Option.bind (cond (cond (decide (((f.Reads.length:Nat):Int)≤64)) (decide (((f.dB.length:Nat):Int)≤64)) false) (G7 n f.Reads) (some default)) λaq=>Option.bind (cond (cond (cond (decide (((f.Reads.length:Nat):Int)≤64)) (decide (((f.dB.length:Nat):Int)≤64)) false) aq false) (G7 n f.dB) (some default)) λaB=>some (cond (cond (cond (decide (((f.Reads.length:Nat):Int)≤64)) (decide (((f.dB.length:Nat):Int)≤64)) false) aq false) aB false))
def R9(ai:Request):ahx:=(R8 n ai.b9).bind λer=>cond (cond (cond (!er) true ai.b9.eX) true (cond (!ai.fM) (decide (0<(ahu (((ai.b9.Reads.length:Nat):Int)+((ai.b9.dB.length:Nat):Int))))) false)) ( some 1) ( some 0)
def R'(ai:Request)(ao:Int→ahx)(v9:Int):ahx:=cond (decide (v9<((ai.aA.length:Nat):Int))) ( av (aV v9 ai.aA.length)<|(pT n (ahv ai.aA v9)).bind λbT=>av ((!bT)||aV v9 ai.aA.length)<|cond (cond (!bT) true (decide ((ahv ai.aA v9).Kind=0))) ( some 1) ( ao (ahu (v9+1)))) ( R9 n ai)
def G8(n:Nat)(ai:Request):Nat→Int→ahx
 | 0=>λ_=>none
 |m+1=>R' n ai (G8 n ai m)
def R_(ai:Request):ahx:=cond (cond (cond (cond (decide (ai.Client<1)) true (decide (32<ai.Client))) true (decide (ai.Seq<1))) true (decide (1099511627776<ai.Seq))) ( some 1) ( (te n ai.bh).bind λaq=>cond (!aq) ( some 7) ( cond (decide (6<((ai.aA.length:Nat):Int))) ( some 2) ( G8 n ai n 0)))
def Sa(n:Nat)(l:List Request):ahw:=some (decide (((l.length:Nat):Int)≤64))
def Sb(l:List Request)(ao:Int→ahw)(v4:Int):ahw:=cond (decide (v4<((l.length:Nat):Int))) ( av (aV v4 l.length)<|(R_ n (ahv l v4)).bind λbe=>cond (!decide (be=0)) ( some false) ( ao (ahu (v4+1)))) ( Sa n l)
def G9(n:Nat)(l:List Request):Nat→Int→ahw
 | 0=>λ_=>none
 |m+1=>Sb n l (G9 n l m)
def Sc(l:List Request):ahw:=G9 n l n 0
def Sd(ai:bS):ahw:=Option.bind (cond (cond (decide (0≤ai.Pos)) (decide (ai.Pos≤1099511627776)) false) (tb n ai.ar) (some default)) λaf=>Option.bind (cond (cond (cond (cond (decide (0≤ai.Pos)) (decide (ai.Pos≤1099511627776)) false) af false) (decide (ai.ar.bm=ai.Pos)) false) (R5 n ai.cj) (some default)) λaq=>Option.bind (cond (cond (cond (cond (cond (decide (0≤ai.Pos)) (decide (ai.Pos≤1099511627776)) false) af false) (decide (ai.ar.bm=ai.Pos)) false) aq false) (Q7 n ai.cB) (some default)) λaB=>Option.bind (cond (cond (cond (cond (cond (cond (decide (0≤ai.Pos)) (decide (ai.Pos≤1099511627776)) false) af false) (decide (ai.ar.bm=ai.Pos)) false) aq false) aB false) (QT n ai.Place) (some default)) λaD=>Option.bind (cond (cond (cond (cond (cond (cond (cond (decide (0≤ai.Pos)) (decide (ai.Pos≤1099511627776)) false) af false) (decide (ai.ar.bm=ai.Pos)) false) aq false) aB false) aD false) (QW n ai.bf) (some default)) λbE=>Option.bind (cond (cond (cond (cond (cond (cond (cond (cond (decide (0≤ai.Pos)) (decide (ai.Pos≤1099511627776)) false) af false) (decide (ai.ar.bm=ai.Pos)) false) aq false) aB false) aD false) bE false) (Sc n ai.Queue) (some default)) λbe=>some (cond (cond (cond (cond (cond (cond (cond (cond (decide (0≤ai.Pos)) (decide (ai.Pos≤1099511627776)) false) af false) (decide (ai.ar.bm=ai.Pos)) false) aq false) aB false) aD false) bE false) be false)
def G'(ai:bS):Option (bS×Int):=(Sd n ai).bind λaf=>cond (!af) ( some ((⟨0,⟨0,0,[]⟩,[],[],⟨0,[]⟩,[],[],0⟩:bS),1)) ( (vL n ai.ar ai.Pos).bind λaB=>(FQ n aB.1 ai.Pos).bind λaD=>some ((⟨ai.Pos,aD.1,ai.cj,ai.cB,ai.Place,ai.bf,ai.Queue,ai.cE⟩:bS),0))
def Se(a:bS)(b:bS):ahw:=(G' n a).bind λaf=>(G' n b).bind λaq=>Option.bind (cond (cond (decide (af.2=0)) (decide (aq.2=0)) false) (QK n af.1 aq.1) (some default)) λaB=>some (cond (cond (decide (af.2=0)) (decide (aq.2=0)) false) aB false)
def rF:ahw:=(PP n).bind λaf=>(Pv n af).bind λaq=>(pS n aq.1 af.ar 2).bind λaB=>(P8 n af.ar 6 ([(⟨[99],⟨0,0,[]⟩⟩:aJ)]:List aJ)).bind λaD=>(Pz n aB.1 ([120]:ahs)).bind λbE=>(pS n bE aD.1 2).bind λbe=>(FA n be.1).bind λcG=>(PD n cG.1).bind λcq=>(FA n aB.1).bind λcC=>cond (cond (cond (cond (cond (cond (!decide (aq.2=0)) true (!decide (aB.2=0))) true (!decide (be.2=0))) true (!decide (cG.2.2=0))) true (!decide (cq.2.2=0))) true (!decide (cC.2.2=16))) ( some false) ( Option.bind (cond (cond (cond (cond (cond (cond (cond (cond (decide (aq.1.b4=5)) (decide (((aB.1.dO.length:Nat):Int)=2)) false) (decide (aB.1.Next=([99]:ahs))) false) (!aB.1.cY) false) (decide (((be.1.dO.length:Nat):Int)=3)) false) (decide (be.1.Next=([]:ahs))) false) be.1.cY false) (decide (cG.2.1=6)) false) (Se n cq.1 af) (some default)) λbT=>Option.bind (cond (cond (cond (cond (cond (cond (cond (cond (cond (decide (aq.1.b4=5)) (decide (((aB.1.dO.length:Nat):Int)=2)) false) (decide (aB.1.Next=([99]:ahs))) false) (!aB.1.cY) false) (decide (((be.1.dO.length:Nat):Int)=3)) false) (decide (be.1.Next=([]:ahs))) false) be.1.cY false) (decide (cG.2.1=6)) false) bT false) (zg n cq.2.1 ([([120]:ahs)]:List ahs)) (some default)) λeW=>some (cond (cond (cond (cond (cond (cond (cond (cond (cond (decide (aq.1.b4=5)) (decide (((aB.1.dO.length:Nat):Int)=2)) false) (decide (aB.1.Next=([99]:ahs))) false) (!aB.1.cY) false) (decide (((be.1.dO.length:Nat):Int)=3)) false) (decide (be.1.Next=([]:ahs))) false) be.1.cY false) (decide (cG.2.1=6)) false) bT false) eW false))
def G_(n:Nat):ahw:=some true
def zq(a:List aJ)(b:List aJ)(ao:Int→ahw)(v5:Int):ahw:=cond (decide (v5<((a.length:Nat):Int))) ( av (aV v5 a.length)<|av (aV v5 b.length)<|cond (!((decide ((ahv a v5).Key=(ahv b v5).Key))&&((decide (((ahv a v5).bk).Kind=((ahv b v5).bk).Kind))&&((decide (((ahv a v5).bk).N=((ahv b v5).bk).N))&&((decide (((ahv a v5).bk).S=((ahv b v5).bk).S))&&true))))) ( some false) ( ao (ahu (v5+1)))) ( G_ n)
def ti(n:Nat)(a:List aJ)(b:List aJ):Nat→Int→ahw
 | 0=>λ_=>none
 |m+1=>zq n a b (ti n a b m)
def rG(a:List aJ)(b:List aJ):ahw:=cond (!decide (((a.length:Nat):Int)=((b.length:Nat):Int))) ( some false) ( ti n a b n 0)
def Ha(bE:(List aJ)×Int)(aD:dA×Int)(Hb:Int)(Hc:Int)(Hd:List Request)(He:Int)(lU:ahs)(kA:Bool)(zr:List aJ)(v105:List ahs)(Hf:Int)(v107:Int)(Hg:List Row)(v109:List bh)(Hh:List bO)(Hi:Int)(pM:List Part)(Hj:List bf):ahw:=Option.bind (cond (cond (cond aD.1.cY kA false) (decide (lU=([]:ahs))) false) (rG n aD.1.dO bE.1) (some default)) λzt=>Option.bind (cond (cond (cond (cond aD.1.cY kA false) (decide (lU=([]:ahs))) false) zt false) (rG n zr bE.1) (some default)) λHk=>Option.bind (cond (cond (cond (cond (cond aD.1.cY kA false) (decide (lU=([]:ahs))) false) zt false) Hk false) (rF n) (some default)) λve=>some (cond (cond (cond (cond (cond aD.1.cY kA false) (decide (lU=([]:ahs))) false) zt false) Hk false) ve false)
def zu(n:Nat)(ao:Int→Int→(List Request)→Int→ahs→Bool→(List aJ)→(List ahs)→Int→Int→(List Row)→(List bh)→(List bO)→Int→(List Part)→(List bf)→Int→ahw)(dx:List Int)(bE:(List aJ)×Int)(jz:Int)(s:ar)(aD:dA×Int)(zv:Int)(k8:Int)(fe:List Request)(n7:Int)(zw:ahs)(v70:Bool)(zx:List aJ)(v72:List ahs)(oV:Int)(zy:Int)(v75:List Row)(v76:List bh)(zz:List bO)(oU:Int)(zA:List Part)(v80:List bf):ahw:=ao zv k8 fe n7 zw v70 zx v72 oV zy v75 v76 zz oU zA v80 (ahu (jz+1))
def vN(ao:Int→Int→(List Request)→Int→ahs→Bool→(List aJ)→(List ahs)→Int→Int→(List Row)→(List bh)→(List bO)→Int→(List Part)→(List bf)→Int→ahw)(dx:List Int)(bE:(List aJ)×Int)(jz:Int)(s:ar)(kB:Int)(v46:Int)(v53:Int)(fu:Int)(n8:List Row)(n9:List bh)(n_:List bO)(oa:Int)(v59:List Part)(dP:List bf)(ob:List Request)(oc:Int)(v49:ahs)(kf:Bool)(v51:List aJ)(kC:List ahs)(aD:dA×Int)(vO:Int):ahw:=(pS n (⟨kB,⟨v46,⟨v53,fu,n8⟩,n9,n_,⟨oa,v59⟩,dP,ob,oc⟩,v49,kf,v51,kC⟩:dA) s vO).bind λfc=>cond (cond (cond (!decide (fc.2=0)) true (decide (((bE.1.length:Nat):Int)<((fc.1.dO.length:Nat):Int)))) true (cond (cond (!kf) (!fc.1.cY) false) (!decide (((fc.1.dO.length:Nat):Int)=(ahu (((v51.length:Nat):Int)+vO)))) false)) ( some false) ( zu n ao dx bE jz s aD fc.1.b4 fc.1.Rest.Pos fc.1.Rest.Queue fc.1.Rest.cE fc.1.Next fc.1.cY fc.1.dO fc.1.eD fc.1.Rest.ar.bo fc.1.Rest.ar.bm fc.1.Rest.ar.Rows fc.1.Rest.cj fc.1.Rest.cB fc.1.Rest.Place.Version fc.1.Rest.Place.a' fc.1.Rest.bf)
def zB(dx:List Int)(bE:(List aJ)×Int)(s:ar)(aD:dA×Int)(ao:Int→Int→(List Request)→Int→ahs→Bool→(List aJ)→(List ahs)→Int→Int→(List Row)→(List bh)→(List bO)→Int→(List Part)→(List bf)→Int→ahw)(kB:Int)(v46:Int)(ob:List Request)(oc:Int)(v49:ahs)(kf:Bool)(v51:List aJ)(kC:List ahs)(v53:Int)(fu:Int)(n8:List Row)(n9:List bh)(n_:List bO)(oa:Int)(v59:List Part)(dP:List bf)(jz:Int):ahw:=cond (decide (jz≤((dx.length:Nat):Int))) ( cond (decide (jz<((dx.length:Nat):Int))) ( av (aV jz dx.length)<|vN n ao dx bE jz s kB v46 v53 fu n8 n9 n_ oa v59 dP ob oc v49 kf v51 kC aD (cond (decide ((ahv dx jz)<1)) 1 (ahv dx jz))) ( vN n ao dx bE jz s kB v46 v53 fu n8 n9 n_ oa v59 dP ob oc v49 kf v51 kC aD 100)) ( Ha n bE aD kB v46 ob oc v49 kf v51 kC v53 fu n8 n9 n_ oa v59 dP)
def tj(n:Nat)(dx:List Int)(bE:(List aJ)×Int)(s:ar)(aD:dA×Int):Nat→Int→Int→(List Request)→Int→ahs→Bool→(List aJ)→(List ahs)→Int→Int→(List Row)→(List bh)→(List bO)→Int→(List Part)→(List bf)→Int→ahw
 | 0=>λ_ _ _ _ _ _ _ _ _ _ _ _ _ _ _ _ _=>none
 |m+1=>zB n dx bE s aD (tj n dx bE s aD m)
def Hl(s:ar)(at_:Int)(dx:List Int):ahw:=(vC n s).bind λaf=>cond (cond (!af) true (decide (20<((dx.length:Nat):Int)))) ( (rF n).bind λaB=>some aB) ( (pS n (⟨at_,⟨0,⟨0,0,[]⟩,[],[],⟨0,[]⟩,[],[],0⟩,[],false,[],[]⟩:dA) s 100).bind λaD=>(vL n s at_).bind λbE=>cond (!decide (aD.2=bE.2)) ( some false) ( cond (!decide (aD.2=0)) ( (rF n).bind λcq=>some cq) ( tj n dx bE s aD n at_ 0 ([]:List Request) 0 ([]:ahs) false ([]:List aJ) ([]:List ahs) 0 0 ([]:List Row) ([]:List bh) ([]:List bO) 0 ([]:List Part) ([]:List bf) 0)))
end Go.Ab.Y

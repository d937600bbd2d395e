/- What each function computes, over plain data, with fuel. Printed by a program. -/
import Derived.Test.YtndmefekdnfmaaaGreatDoorHand
set_option linter.all false
namespace Go.Ab.Y
open Go Go.Ab Go.Proofs Tryz
variable (n:Nat)
def opsA(n:Nat)(c:Int):UM:=some (cond (cond (cond (cond (cond (cond (decide<|97<=c) (decide<|c<=122) false) true<|cond (decide<|48<=c) (decide<|c<=57) false) true<|decide<|c=47) true<|decide<|c=46) true<|decide<|c=95) true<|decide<|c=45)
def aEa(n:Nat):UM:=some true
def MG(s:UB)(ak:Int->UM)(v5:Int):UM:=cond (decide<|v5<(s.length:Int)) (ao (aP v5 s.length)<|(opsA n (((s.getD (v5).toNat 0).toNat:Nat):Int)).bind λa=>cond (!a) (some false)<|ak<|YV<|v5+1) (aEa n)
def Cr(n:Nat)(s:UB):Nat->Int->UM
 | 0=>λ_=>none
 |m+1=>MG n s (Cr n s m)
def MH(s:UB):UM:=cond (decide<|24<(s.length:Int)) (some false) (Cr n s n 0)
def w7(k:UB):UM:=(cond (!(decide<|k=[])) (MH n k)<|some default).bind λa=>some (cond (!(decide<|k=[])) a false)
def aD_(n:Nat)(l:List UB):UM:=some (decide<|(l.length:Int)<=64)
def MI(l:List UB)(ak:Int->UM)(v5:Int):UM:=cond (decide<|v5<(l.length:Int)) (ao (aP v5 l.length)<|(w7 n<|yP l v5).bind λa=>ao ((!a)||(!(decide<|0<v5)||aP (YV<|v5-1) l.length))<|cond (cond (!a) true<|cond (decide<|0<v5) ((Op.bytesLess (yP l v5)<|yP l<|YV<|v5-1)||(decide<|(yP l v5)=(yP l<|YV<|v5-1))) false) (some false)<|ak<|YV<|v5+1) (aD_ n l)
def Cs(n:Nat)(l:List UB):Nat->Int->UM
 | 0=>λ_=>none
 |m+1=>MI n l (Cs n l m)
def GV(l:List UB):UM:=Cs n l n 0
def GW(f:hQ):UM:=cond f.fl (some<|cond (decide<|(f.Reads.length:Int)=0) (decide<|(f.cp.length:Int)=0) false) ((GV n f.Reads).bind λa=>(cond a (GV n f.cp)<|some default).bind λb=>some<|cond a b false)
def aEs(n:Nat):UM:=some false
def jx(a:Bool):UM:=cond a (some true) (aEs n)
def GX(s:UB):UM:=cond (decide<|s=[112,114,111,99]) (jx n<|decide<|s=[112,114,111,99]) (cond (decide<|s=[108,101,116]) (jx n<|decide<|s=[108,101,116])<|cond (decide<|s=[112,117,116]) (jx n<|decide<|s=[112,117,116])<|cond (decide<|s=[100,101,108,101,116,101]) (jx n<|decide<|s=[100,101,108,101,116,101])<|cond (decide<|s=[105,102]) (jx n<|decide<|s=[105,102])<|cond (decide<|s=[101,108,115,101]) (jx n<|decide<|s=[101,108,115,101])<|cond (decide<|s=[102,111,114]) (jx n<|decide<|s=[102,111,114])<|cond (decide<|s=[116,111]) (jx n<|decide<|s=[116,111])<|cond (decide<|s=[109,97,120]) (jx n<|decide<|s=[109,97,120])<|cond (decide<|s=[101,109,105,116]) (jx n<|decide<|s=[101,109,105,116])<|cond (decide<|s=[97,98,111,114,116]) (jx n<|decide<|s=[97,98,111,114,116])<|cond (decide<|s=[110,111,116]) (jx n<|decide<|s=[110,111,116])<|cond (decide<|s=[97,110,100]) (jx n<|decide<|s=[97,110,100])<|cond (decide<|s=[111,114]) (jx n<|decide<|s=[111,114])<|cond (decide<|s=[105,110,116]) (jx n<|decide<|s=[105,110,116])<|cond (decide<|s=[115,116,114]) (jx n<|decide<|s=[115,116,114])<|cond (decide<|s=[98,111,111,108]) (jx n<|decide<|s=[98,111,111,108])<|cond (decide<|s=[116,101,120,116]) (jx n<|decide<|s=[116,101,120,116])<|cond (decide<|s=[108,101,110]) (jx n<|decide<|s=[108,101,110])<|cond (decide<|s=[103,101,116,105,110,116]) (jx n<|decide<|s=[103,101,116,105,110,116])<|cond (decide<|s=[103,101,116,115,116,114]) (jx n<|decide<|s=[103,101,116,115,116,114])<|cond (decide<|s=[104,97,115]) (jx n<|decide<|s=[104,97,115])<|cond (decide<|s=[110,111,119]) (jx n<|decide<|s=[110,111,119])<|cond (decide<|s=[114,97,110,100,111,109]) (jx n<|decide<|s=[114,97,110,100,111,109])<|jx n<|decide<|s=[110,111,100,101])
def GY(n:Nat)(c:Int):UM:=some (cond (decide<|97<=c) (decide<|c<=122) false)
def vq(s:UB):UM:=ao (!(cond (!(decide<|s=[])) (decide<|(s.length:Int)<=16) false)||aP 0 s.length)<|(cond (cond (!(decide<|s=[])) (decide<|(s.length:Int)<=16) false) (GY n<|IntKind.i32.wrap (((s.getD 0 0).toNat:Nat):Int))<|some default).bind λa=>(cond (cond (cond (!(decide<|s=[])) (decide<|(s.length:Int)<=16) false) a false) (Co n s)<|some default).bind λr3=>(cond (cond (cond (cond (!(decide<|s=[])) (decide<|(s.length:Int)<=16) false) a false) (decide<|r3=(s.length:Int)) false) (GX n s)<|some default).bind λb=>some (cond (cond (cond (cond (!(decide<|s=[])) (decide<|(s.length:Int)<=16) false) a false) (decide<|r3=(s.length:Int)) false) (!b) false)
def afy(n:Nat)(s:UB):UM:=some (decide<|(s.length:Int)<=64)
def aD'(s:UB)(ak:Int->UM)(v4:Int):UM:=cond (decide<|v4<(s.length:Int)) (ao (aP v4 s.length)<|ao ((decide<|(((s.getD (v4).toNat 0).toNat:Nat):Int)<32)||aP v4 s.length)<|cond (cond (decide<|(((s.getD (v4).toNat 0).toNat:Nat):Int)<32) true<|decide<|126<(((s.getD (v4).toNat 0).toNat:Nat):Int)) (some false)<|ak<|YV<|v4+1) (afy n s)
def GZ(n:Nat)(s:UB):Nat->Int->UM
 | 0=>λ_=>none
 |m+1=>aD' n s (GZ n s m)
def G0(s:UB):UM:=GZ n s n 0
def sh(v:bJ):UM:=cond (decide<|v.Cc=0) (some<|(decide<|v.Cc=0)&&((decide<|v.N=0)&&((decide<|v.S=[])&&true))) (cond (decide<|v.Cc=1) (some<|decide<|v.S=[])<|cond (decide<|v.Cc=2) ((cond (decide<|v.N=0) (G0 n v.S)<|some default).bind λa=>some<|cond (decide<|v.N=0) a false)<|some false)
def aEh(v:bJ):UM:=(cond (!(decide<|v.Cc=0)) (sh n v)<|some default).bind λa=>some (cond (decide<|v.Cc=0) true<|!a)
def aEg(n:Nat):YX:=some (-1)
def MJ(s:List bJ)(ak:Int->YX)(v4:Int):YX:=cond (decide<|v4<(s.length:Int)) (ao (aP v4 s.length)<|(aEh n<|yP s v4).bind λa=>cond a (some v4)<|ak<|YV<|v4+1) (aEg n)
def Ct(n:Nat)(s:List bJ):Nat->Int->YX
 | 0=>λ_=>none
 |m+1=>MJ n s (Ct n s m)
def aEu(s:List bJ):YX:=Ct n s n 0
def aEb(s:List bJ):UM:=(aEu n s).bind λa=>some (decide<|0<=a)
def p5(ae:BE):YX:=cond (cond (cond (cond (decide<|ae.Et<1) true<|decide<|32<ae.Et) true<|decide<|ae.Seq<1) true<|decide<|1099511627776<ae.Seq) (some 1) ((vq n ae.bk).bind λa=>cond (!a) (some 7)<|cond (decide<|6<(ae.ax.length:Int)) (some 2)<|(aEb n ae.ax).bind λb=>cond b (some 1)<|(GW n ae.bM).bind λc=>cond (cond (cond (!c) true ae.bM.fl) true<|cond (!ae.eV) (decide<|0<(YV<|(ae.bM.Reads.length:Int)+(ae.bM.cp.length:Int))) false) (some 1)<|some 0)
def MK(n:Nat)(b:List Int)(c:Int):Option (List Int):=ao (room (b.length+([c]:List Int).length) 1)<|some (b++[c])
def aEf(c:Int)(a:List Int):Option UB:=(MK n a<|IntKind.u8.wrap c).bind λb=>ao (n0 b)<|some (jh b)
def aEd(d:Int->(List Int)->Option UB)(a:Int)(b:List Int):Option UB:=cond (decide<|128<=a) ((MK n b<|s9 .u8 (IntKind.u8.wrap a) 128).bind λc=>d (mq .u64 a 7) c) (aEf n a b)
def G1(n:Nat):Nat->Int->(List Int)->Option UB
 | 0=>λ_ _=>none
 |m+1=>aEd n (G1 n m)
def iL(u:Int):Option UB:=G1 n n u []
def p6(s:UB):Option UB:=(iL n<|IntKind.u64.wrap (s.length:Int)).bind λr1=>ao (bF<|r1.length+s.length)<|some (r1++s)
def aEe(n:Nat)(a:UB):Option UB:=some a
def ML(l:List UB)(ak:Int->UB->Option UB)(bH:Int)(bI:UB):Option UB:=cond (decide<|bH<(l.length:Int)) (ao (aP bH l.length)<|(p6 n<|yP l bH).bind λa=>ao (bF<|bI.length+a.length)<|ak (YV<|bH+1)<|bI++a) (aEe n bI)
def Cu(n:Nat)(l:List UB):Nat->Int->UB->Option UB
 | 0=>λ_ _=>none
 |m+1=>ML n l (Cu n l m)
def G2(l:List UB):Option UB:=(iL n<|IntKind.u64.wrap (l.length:Int)).bind λa=>Cu n l n 0 a
def tG(a:Int):Option UB:=(iL n<|oy .u64 (qA .u64 (IntKind.u64.wrap a) 1)<|IntKind.u64.wrap<|mq .i64 a 63).bind λb=>some b
def zm(v:bJ):Option UB:=cond (decide<|v.Cc=1) ((iL n 1).bind λr2=>(tG n v.N).bind λa=>ao (bF<|r2.length+a.length)<|some<|r2++a) (cond (decide<|v.Cc=2) ((iL n 2).bind λbq=>(p6 n v.S).bind λb=>ao (bF<|bq.length+b.length)<|some<|bq++b)<|(iL n 0).bind λc=>some c)
def UV(n:Nat)(b:Bool):Option UB:=cond b (some [1]) (some [0])
def G3(n:Nat)(a:UB):Option UB:=some a
def G4(c:BE)(v22:UB):Option UB:=(UV n c.eV).bind λb=>ao (bF<|v22.length+b.length)<|cond c.eV ((G2 n c.bM.Reads).bind λfv=>(G2 n c.bM.cp).bind λa=>ao (bF<|fv.length+a.length)<|ao (bF<|(v22++b).length+(fv++a).length)<|G3 n<|(v22++b)++(fv++a)) (G3 n<|v22++b)
def MM(a:BE)(ff:UB->Int->Option UB)(bE:UB)(di:Int):Option UB:=cond (decide<|di<(a.ax.length:Int)) (ao (aP di a.ax.length)<|(zm n<|yP a.ax di).bind λb=>ao (bF<|bE.length+b.length)<|ff (bE++b)<|YV<|di+1) (G4 n a bE)
def Cv(n:Nat)(a:BE):Nat->UB->Int->Option UB
 | 0=>λ_ _=>none
 |m+1=>MM n a (Cv n a m)
def MN(a:BE):Option UB:=(p5 n a).bind λe=>cond (!decide (e=0)) (some []) ((iL n<|IntKind.u64.wrap a.Et).bind λr3=>(iL n<|IntKind.u64.wrap a.Seq).bind λb=>ao (bF<|r3.length+b.length)<|(p6 n a.bk).bind λc=>ao (bF<|(r3++b).length+c.length)<|(iL n<|IntKind.u64.wrap (a.ax.length:Int)).bind λd=>ao (bF<|((r3++b)++c).length+d.length)<|Cv n a n (((r3++b)++c)++d) 0)
def aEv(n:Nat)(a:UB):Option UB:=some a
def MO(l:List BE)(ak:Int->UB->Option UB)(v9:Int)(v10:UB):Option UB:=cond (decide<|v9<(l.length:Int)) (ao (aP v9 l.length)<|(p5 n<|yP l v9).bind λb=>cond (!decide (b=0)) (some []) ((MN n<|yP l v9).bind λa=>ao (bF<|v10.length+a.length)<|ak (YV<|v9+1)<|v10++a)) (aEv n v10)
def Cw(n:Nat)(l:List BE):Nat->Int->UB->Option UB
 | 0=>λ_ _=>none
 |m+1=>MO n l (Cw n l m)
def Cx(l:List BE):Option UB:=cond (decide<|64<(l.length:Int)) (some []) ((iL n<|IntKind.u64.wrap (l.length:Int)).bind λa=>Cw n l n 0 a)
def aEw(n:Nat):UM:=some true
def MP(b last:Int)(a:Row)(ak:Int->UM)(bI:Int):UM:=cond (decide<|bI<(a.aR.length:Int)) (ao (aP bI a.aR.length)<|(cond (!(cond (decide<|(yP a.aR bI).br<b) true<|decide<|last<(yP a.aR bI).br)) (sh n<|(yP a.aR bI).aY)<|some default).bind λc=>cond (cond (cond (decide<|(yP a.aR bI).br<b) true<|decide<|last<(yP a.aR bI).br) true<|!c) (some false) (ao (!(decide<|0<bI)||aP (YV<|bI-1) a.aR.length)<|ao (!(decide<|0<bI)||((decide<|(yP a.aR bI).br<=(yP a.aR<|YV<|bI-1).br)||aP (YV<|bI-1) a.aR.length))<|cond (cond (decide<|0<bI) (cond (decide<|(yP a.aR bI).br<=(yP a.aR<|YV<|bI-1).br) true<|(decide<|((yP a.aR bI).aY).Cc=((yP a.aR<|YV<|bI-1).aY).Cc)&&((decide<|((yP a.aR bI).aY).N=((yP a.aR<|YV<|bI-1).aY).N)&&((decide<|((yP a.aR bI).aY).S=((yP a.aR<|YV<|bI-1).aY).S)&&true))) false) (some false)<|ak<|YV<|bI+1)) (aEw n)
def Cy(n:Nat)(a b:Int)(c:Row):Nat->Int->UM
 | 0=>λ_=>none
 |m+1=>MP n a b c (Cy n a b c m)
def MQ(c:Row)(a b:Int):UM:=ao ((decide<|(c.aR.length:Int)=0)||aP 0 c.aR.length)<|cond (cond (decide<|(c.aR.length:Int)=0) true<|decide<|((c.aR.getD 0 default).aY).Cc=0) (some false) (Cy n a b c n 0)
def aEn(n:Nat):UM:=some true
def MR(s:aq)(ak:Int->UM)(bH:Int):UM:=cond (decide<|bH<(s.Rows.length:Int)) (ao (aP bH s.Rows.length)<|(w7 n<|(yP s.Rows bH).Key).bind λa=>ao ((!a)||(!(decide<|0<bH)||aP (YV<|bH-1) s.Rows.length))<|(cond (!(cond (!a) true<|cond (decide<|0<bH) ((Op.bytesLess ((yP s.Rows bH).Key)<|(yP s.Rows<|YV<|bH-1).Key)||(decide<|((yP s.Rows bH).Key)=((yP s.Rows<|YV<|bH-1).Key))) false)) (MQ n (yP s.Rows bH) s.bu s.bi)<|some default).bind λb=>cond (cond (cond (!a) true<|cond (decide<|0<bH) ((Op.bytesLess ((yP s.Rows bH).Key)<|(yP s.Rows<|YV<|bH-1).Key)||(decide<|((yP s.Rows bH).Key)=((yP s.Rows<|YV<|bH-1).Key))) false) true<|!b) (some false)<|ak<|YV<|bH+1) (aEn n)
def Cz(n:Nat)(s:aq):Nat->Int->UM
 | 0=>λ_=>none
 |m+1=>MR n s (Cz n s m)
def vr(s:aq):UM:=cond (cond (cond (decide<|s.bu<0) true<|decide<|s.bi<s.bu) true<|decide<|1099511627776<s.bi) (some false) (Cz n s n 0)
def zn(n:Nat)(s:aq)(at_:Int):YX:=cond (cond (decide<|at_<s.bu) true<|decide<|s.bi<at_) (some 15) (some 0)
def G5(n:Nat)(a:Int):YX:=some a
def G6(b:Int)(a:Row)(c:Int->YX)(v3:Int):YX:=ao (!(decide<|v3<(a.aR.length:Int))||aP v3 a.aR.length)<|cond (cond (decide<|v3<(a.aR.length:Int)) (decide<|(yP a.aR v3).br<=b) false) (c<|YV<|v3+1) (G5 n v3)
def vt(n:Nat)(a:Int)(b:Row):Nat->Int->YX
 | 0=>λ_=>none
 |m+1=>G6 n a b (vt n a b m)
def CA(b:Row)(a:Int):YX:=vt n a b n 0
def p7(a:Row)(b:Int):Option bJ:=(CA n a b).bind λr1=>cond (decide<|r1=0) (some ⟨0,0,[]⟩) (ao (aP (YV<|r1-1) a.aR.length)<|some ⟨((yP a.aR<|YV<|r1-1).aY).Cc,((yP a.aR<|YV<|r1-1).aY).N,((yP a.aR<|YV<|r1-1).aY).S⟩)
def G7(n:Nat)(a:List aQ):Option ((List aQ)×Int):=some (a,0)
def w8(n:Nat)(c:Int->(List aQ)->Option ((List aQ)×Int))(b:Int)(s:aq)(v11:Int)(a:List aQ):Option ((List aQ)×Int):=c (YV<|v11+1) a
def G8(a:Int)(s:aq)(c:Int->(List aQ)->Option ((List aQ)×Int))(v11:Int)(v12:List aQ):Option ((List aQ)×Int):=cond (decide<|v11<(s.Rows.length:Int)) (ao (aP v11 s.Rows.length)<|(p7 n (yP s.Rows v11) a).bind λb=>cond (!decide (b.Cc=0)) (ao (room (v12.length+([⟨(yP s.Rows v11).Key,b⟩]:List aQ).length) 48)<|w8 n c a s v11<|v12++[⟨(yP s.Rows v11).Key,b⟩])<|w8 n c a s v11 v12) (G7 n v12)
def vu(n:Nat)(a:Int)(s:aq):Nat->Int->(List aQ)->Option ((List aQ)×Int)
 | 0=>λ_ _=>none
 |m+1=>G8 n a s (vu n a s m)
def tH(s:aq)(a:Int):Option ((List aQ)×Int):=(vr n s).bind λc=>cond (!c) (some ([],1)) ((zn n s a).bind λb=>cond (!decide (b=0)) (some ([],b))<|vu n a s n 0 [])
def aEk(n:Nat)(a:UB):Option UB:=some a
def MS(p:dv)(ak:Int->UB->Option UB)(bL:Int)(cB:UB):Option UB:=cond (decide<|bL<(p.aI.length:Int)) (ao (aP bL p.aI.length)<|(tG n<|(yP p.aI bL).Id).bind λeg=>(p6 n<|(yP p.aI bL).ee).bind λb=>ao (bF<|eg.length+b.length)<|(tG n<|(yP p.aI bL).Node).bind λc=>ao (bF<|(eg++b).length+c.length)<|(tG n<|(yP p.aI bL).f0).bind λd=>ao (bF<|((eg++b)++c).length+d.length)<|(p6 n<|(yP p.aI bL).dO).bind λa=>ao (bF<|(((eg++b)++c)++d).length+a.length)<|ao (bF<|cB.length+((((eg++b)++c)++d)++a).length)<|ak (YV<|bL+1)<|cB++((((eg++b)++c)++d)++a)) (aEk n cB)
def CB(n:Nat)(p:dv):Nat->Int->UB->Option UB
 | 0=>λ_ _=>none
 |m+1=>MS n p (CB n p m)
def G9(p:dv):Option UB:=(tG n p.Br).bind λr1=>(iL n<|IntKind.u64.wrap (p.aI.length:Int)).bind λa=>ao (bF<|r1.length+a.length)<|CB n p n 0 (r1++a)
def cs'(n:Nat)(y a:BM):UM:=some (decide<|y.BY=a.BY)
def aEi(n:Nat)(a:BM):YX:=some (-1)
def chk(s:List BM)(a:BM)(ak:Int->YX)(v4:Int):YX:=cond (decide<|v4<(s.length:Int)) (ao (aP v4 s.length)<|(cs' n (yP s v4) a).bind λb=>cond b (some v4)<|ak<|YV<|v4+1) (aEi n a)
def CC(n:Nat)(s:List BM)(a:BM):Nat->Int->YX
 | 0=>λ_=>none
 |m+1=>chk n s a (CC n s a m)
def aEm(s:List BM)(a:BM):YX:=CC n s a n 0
def MT(s:List BM)(b:BM):UM:=(aEm n s b).bind λa=>some (decide<|0<=a)
def aEl(n:Nat):YX:=some 0
def zqs(l:List BM)(ak:Int->YX)(bH:Int):YX:=cond (decide<|bH<(l.length:Int)) (ao (aP bH l.length)<|(vq n<|(yP l bH).BY).bind λa=>cond (!a) (some 7)<|cond (cond (decide<|(yP l bH).fT<1) true<|decide<|3<(yP l bH).fT) (some 10) (ao (hB bH l.length)<|(MT n (l.take (bH).toNat)<|yP l bH).bind λb=>cond b (some 8)<|ak<|YV<|bH+1)) (aEl n)
def CD(n:Nat)(l:List BM):Nat->Int->YX
 | 0=>λ_=>none
 |m+1=>zqs n l (CD n l m)
def MU(l:List BM):YX:=cond (decide<|6<(l.length:Int)) (some 2) (CD n l n 0)
def MV(n:Nat)(op:Int):YX:=cond (cond (decide<|op<1) true<|decide<|27<op) (some<|-1) (cond (cond (decide<|op<=3) true<|decide<|25<=op) (some 0)<|cond (cond (cond (decide<|op=9) true<|decide<|op=18) true<|decide<|20<=op) (some 1)<|some 2)
def apZ(n:Nat)(s:UB):UM:=some (decide<|(s.length:Int)<=64)
def aCN(s:UB)(ak:Int->UM)(v4:Int):UM:=cond (decide<|v4<(s.length:Int)) (ao (aP v4 s.length)<|ao ((decide<|(((s.getD (v4).toNat 0).toNat:Nat):Int)<32)||aP v4 s.length)<|cond (cond (decide<|(((s.getD (v4).toNat 0).toNat:Nat):Int)<32) true<|decide<|126<(((s.getD (v4).toNat 0).toNat:Nat):Int)) (some false)<|ak<|YV<|v4+1) (apZ n s)
def CE(n:Nat)(s:UB):Nat->Int->UM
 | 0=>λ_=>none
 |m+1=>aCN n s (CE n s m)
def vals(s:UB):UM:=CE n s n 0
def MW(e:Bi)(a:Int):YX:=(MV n e.Op).bind λr1=>cond (cond (cond (decide<|r1<0) true<|cond (!decide (e.Op=1)) (!decide (e.N=0)) false) true<|cond (cond (!decide (e.Op=2)) (!decide (e.Op=3)) false) (!(decide<|e.S=[])) false) (some 1) ((cond (decide<|e.Op=3) (vq n e.S)<|some default).bind λb=>cond (cond (decide<|e.Op=3) (!b) false) (some 7)<|(cond ((!(cond (decide<|e.Op=1) (decide<|e.N<0) false))&&(decide<|e.Op=2)) (vals n e.S)<|some default).bind λc=>cond (cond (cond (cond (decide<|e.Op=1) (decide<|e.N<0) false) true<|cond (decide<|e.Op=2) (!c) false) true<|!decide ((e.ax.length:Int)=r1)) (some 1)<|cond (decide<|12<a) (some 2)<|some 0)
def at'(n:Nat)(a:Bi->Int->YX):YX:=some 0
def U'(a:Bi->Int->YX)(depth:Int)(e:Bi)(ak:Int->YX)(v6:Int):YX:=cond (decide<|v6<(e.ax.length:Int)) (ao (aP v6 e.ax.length)<|(a (yP e.ax v6)<|YV<|depth+1).bind λb=>cond (!decide (b=0)) (some b)<|ak<|YV<|v6+1) (at' n a)
def G'(n:Nat)(b:Bi->Int->YX)(a:Int)(e:Bi):Nat->Int->YX
 | 0=>λ_=>none
 |m+1=>U' n b a e (G' n b a e m)
def ap0(c:Bi->Int->YX)(e:Bi)(a:Int):YX:=(MW n e a).bind λb=>cond (!decide (b=0)) (some b) (G' n c a e n 0)
def CF:Nat->Bi->Int->YX
 | 0=>λ_ _=>none
 |m+1=>ap0 m (CF m)
def G_(e:Bi):YX:=(CF n e 1).bind λa=>some a
def CG(n:Nat)(e:Bi):UM:=some (cond (cond (cond (decide<|e.Op=0) (decide<|e.N=0) false) (decide<|e.S=[]) false) (decide<|(e.ax.length:Int)=0) false)
def MX(s:Bj)(u:mz):UM:=(cond ((!(cond (!u.name) (!(decide<|s.BY=[])) false))&&(!u.a)) (CG n s.A)<|some default).bind λc=>(cond ((!(cond (cond (!u.name) (!(decide<|s.BY=[])) false) true<|cond (!u.a) (!c) false))&&(!u.b)) (CG n s.B)<|some default).bind λd=>cond (cond (cond (cond (cond (cond (cond (!u.name) (!(decide<|s.BY=[])) false) true<|cond (!u.a) (!c) false) true<|cond (!u.b) (!d) false) true<|cond (!u.max) (!decide (s.Max=0)) false) true<|cond (!u.body) (decide<|0<(s.BZ.length:Int)) false) true<|cond (!u.other) (decide<|0<(s.b0.length:Int)) false) (some false) (cond (decide<|s.Op=6) (some<|cond (decide<|1<=s.Max) (decide<|s.Max<=16) false)<|cond (decide<|s.Op=8) (some<|cond (decide<|0<=s.Max) (decide<|s.Max<=999) false)<|some true)
def Va(n:Nat):Option (mz×Bool):=some (⟨false,false,false,false,false,false⟩,false)
def MY(op:Int)(a:Bool):Option (mz×Bool):=cond a (some (⟨false,true,false,false,false,false⟩,true)) (cond (decide<|op=5) (some (⟨false,true,false,false,true,true⟩,true))<|cond (decide<|op=6) (some (⟨true,true,true,true,true,false⟩,true))<|cond (decide<|op=8) (some (⟨false,false,false,true,false,false⟩,true))<|Va n)
def MZ(op:Int)(a:Bool):Option (mz×Bool):=cond a (some (⟨true,true,false,false,false,false⟩,true)) (cond (decide<|op=3) (some (⟨false,true,true,false,false,false⟩,true))<|cond (decide<|op=4) (MY n op<|decide<|op=4)<|MY n op<|decide<|op=7)
def M0(op:Int):Option (mz×Bool):=cond (decide<|op=1) (MZ n op<|decide<|op=1) (MZ n op<|decide<|op=2)
def M1(n:Nat)(a:Int):YX:=cond (decide<|12<a) (some 2) (some 0)
def M3(a:Int)(s:Bj)(r1:mz×Bool):YX:=cond r1.1.b ((G_ n s.B).bind λc=>cond (!decide (c=0)) (some c)<|M1 n a) (M1 n a)
def M4(s:Bj)(b:Int):YX:=(M0 n s.Op).bind λc=>(cond (!(!c.2)) (MX n s c.1)<|some default).bind λe=>cond (cond (!c.2) true<|!e) (some 1) ((cond c.1.name (vq n s.BY)<|some default).bind λf=>cond (cond c.1.name (!f) false) (some 7)<|cond c.1.a ((G_ n s.A).bind λd=>cond (!decide (d=0)) (some d)<|M3 n b s c)<|M3 n b s c)
def M5(s:Bj)(a ag:Int):YX:=cond (decide<|ag=0) ((M4 n s a).bind λb=>some b) (some ag)
def Vb(n:Nat)(a0:Bi):Option Unit:=some ()
def Vc(n:Nat)(b:Bi->Int->Int->YX)(e:Bi)(c:Int)(d:Int->Int->YX)(a bH:Int):YX:=cond (decide<|bH<(e.ax.length:Int)) (ao (aP bH e.ax.length)<|(b (yP e.ax bH) a c).bind λf=>d f<|YV<|bH+1) (some a)
def Ha(n:Nat)(a:Bi->Int->Int->YX)(e:Bi)(b:Int):Nat->Int->Int->YX
 | 0=>λ_ _=>none
 |m+1=>Vc n a e b (Ha n a e b m)
def Vd(a:Bi->Int->Int->YX)(e:Bi)(kJ b:Int):YX:=cond (decide<|kJ=0) (some kJ) (Ha n a e b n (YV<|kJ-1) 0)
def CH:Nat->Bi->Int->Int->YX
 | 0=>λ_ _ _=>none
 |m+1=>Vd m (CH m)
def Hb(e:Bi)(kJ b:Int):YX:=(cond (!(decide<|kJ=0)) (CG n e)<|some default).bind λa=>cond (cond (decide<|kJ=0) true a) (some kJ) ((Vb n e).bind λd=>(CH n e kJ b).bind λc=>some c)
def Ve(c:(List Bj)->Int->Int->Int->Option (Int×Int))(depth:Int)(l:List Bj)(h:Int->Int->Int->Option (Int×Int))(v10 a v12:Int):Option (Int×Int):=cond (decide<|v12<(l.length:Int)) (ao (aP v12 l.length)<|cond (decide<|v10=0) (some (v10,a))<|(M5 n (yP l v12) depth a).bind λb=>(Hb n ((yP l v12).A) (YV<|v10-1) b).bind λf=>(Hb n ((yP l v12).B) f b).bind λg=>(c ((yP l v12).BZ) (YV<|depth+1) g b).bind λe=>(c ((yP l v12).b0) (YV<|depth+1) e.1 e.2).bind λd=>h d.1 d.2<|YV<|v12+1) (some (v10,a))
def Hc(n:Nat)(b:(List Bj)->Int->Int->Int->Option (Int×Int))(a:Int)(l:List Bj):Nat->Int->Int->Int->Option (Int×Int)
 | 0=>λ_ _ _=>none
 |m+1=>Ve n b a l (Hc n b a l m)
def Vf(b:(List Bj)->Int->Int->Int->Option (Int×Int))(l:List Bj)(a c d:Int):Option (Int×Int):=Hc n b a l n c d 0
def zo:Nat->(List Bj)->Int->Int->Int->Option (Int×Int)
 | 0=>λ_ _ _ _=>none
 |m+1=>Vf m (zo m)
def Vg(p:bk)(b:Int):Option (Int×Int):=(zo n p.BZ 1 401 b).bind λa=>some ((YV<|401-a.1),a.2)
def Hd(p:bk):YX:=(vq n p.BY).bind λb=>cond (!b) (some 7) ((MU n p.Cq).bind λa=>cond (!decide (a=0)) (some a)<|(Vg n p a).bind λcv=>cond (cond (decide<|cv.2=0) (decide<|400<cv.1) false) (some 2)<|some cv.2)
def M6(n:Nat)(ty:Int):Option UB:=cond (decide<|ty=1) (some [105,110,116]) (cond (decide<|ty=2) (some [115,116,114])<|some [98,111,111,108])
def tI(n:Nat)(op:Int):Option (Unit ⊕ Unit ⊕ Unit ⊕ Unit ⊕ Unit ⊕ Unit ⊕ Unit ⊕ Unit):=cond (decide<|op=1) (some<|.inl ()) (cond (decide<|op=2) (some<|.inr<|.inl ())<|cond (decide<|op=3) (some<|.inr<|.inr<|.inl ())<|cond (decide<|op=4) (some<|.inr<|.inr<|.inr<|.inl ())<|cond (decide<|op=5) (some<|.inr<|.inr<|.inr<|.inr<|.inl ())<|cond (decide<|op=6) (some<|.inr<|.inr<|.inr<|.inr<|.inr<|.inl ())<|cond (decide<|op=7) (some<|.inr<|.inr<|.inr<|.inr<|.inr<|.inr<|.inl ())<|some<|.inr<|.inr<|.inr<|.inr<|.inr<|.inr<|.inr ())
def zp(b:Int):Option UB:=(MD n b 10).bind λa=>some a
def CI(n:Nat)(a:List Int)(b:Int):Option Unit:=some ()
def M7(c:Int)(a:List Int)(b:Int):Option (List Int):=(CI n a b).bind λd=>ao (room (a.length+([c]:List Int).length) 1)<|some (a++[c])
def He(s:UB)(a:List Int)(c:Int):Option (Int×(List Int)):=(CI n a c).bind λd=>ao (room (a.length+s.length) 1)<|some ((s.length:Int),(a++s.map λb=>(b.toNat:Int)))
def Vh(c:Int)(a:List Int):Option (List Int):=(M7 n 10 a c).bind λb=>some b
def Vi(parts:List UB)(a:Int)(d:(List Int)->Int->Option (List Int))(b:List Int)(bE:Int):Option (List Int):=cond (decide<|bE<(parts.length:Int)) (ao (aP bE parts.length)<|(He n (yP parts bE) b a).bind λc=>d c.2<|YV<|bE+1) (Vh n a b)
def Hf(n:Nat)(parts:List UB)(a:Int):Nat->(List Int)->Int->Option (List Int)
 | 0=>λ_ _=>none
 |m+1=>Vi n parts a (Hf n parts a m)
def Vj(parts:List UB)(b:Int)(a:List Int):Option (List Int):=Hf n parts b n a 0
def Vk(parts:List UB)(a:Int)(c:(List Int)->Int->Option (List Int))(b:List Int)(v5:Int):Option (List Int):=cond (decide<|v5<a) ((He n [32,32,32,32] b a).bind λd=>c d.2<|YV<|v5+1) (Vj n parts a b)
def Hg(n:Nat)(parts:List UB)(a:Int):Nat->(List Int)->Int->Option (List Int)
 | 0=>λ_ _=>none
 |m+1=>Vk n parts a (Hg n parts a m)
def n2(parts:List UB)(a:List Int)(b:Int):Option (List Int):=Hg n parts b n a 0
def Vl(s:Bj)(c:List Int)(d:Int):Option (List Int):=(zp n s.Max).bind λb=>(n2 n [[97,98,111,114,116,32],b,[59]] c d).bind λa=>some a
def Vm(n:Nat):UM:=some true
def Vn(s:UB)(ak:Int->UM)(v4:Int):UM:=cond (decide<|v4<(s.length:Int)) (ao (aP v4 s.length)<|ao ((decide<|(((s.getD (v4).toNat 0).toNat:Nat):Int)<32)||aP v4 s.length)<|cond (cond (decide<|(((s.getD (v4).toNat 0).toNat:Nat):Int)<32) true<|decide<|126<(((s.getD (v4).toNat 0).toNat:Nat):Int)) (some false)<|ak<|YV<|v4+1) (Vm n)
def Hh(n:Nat)(s:UB):Nat->Int->UM
 | 0=>λ_=>none
 |m+1=>Vn n s (Hh n s m)
def Vo(s:UB):UM:=Hh n s n 0
def tJ(n:Nat)(a:List Int):Option (UB×(List Int)):=ao (n0 a&&decide (a.length<=9223372036854775807))<|some (jh a,a)
def CJ(n:Nat)(a:List Int):Option Unit:=some ()
def tK(c:Int)(a:List Int):Option (List Int):=(CJ n a).bind λb=>ao (room (a.length+([c]:List Int).length) 1)<|some (a++[c])
def Vp(v25:List Int):Option (UB×Int):=(tK n 34 v25).bind λb=>(tJ n b).bind λa=>some (a.1,0)
def Vq(n:Nat)(b:(List Int)->Int->Option (UB×Int))(s:UB)(bE:Int)(a:List Int):Option (UB×Int):=b a (YV<|bE+1)
def M8(d:(List Int)->Int->Option (UB×Int))(s:UB)(a:Int)(c:List Int):Option (UB×Int):=ao (aP a s.length)<|(tK n (((s.getD (a).toNat 0).toNat:Nat):Int) c).bind λb=>Vq n d s a b
def Vr(s:UB)(b:(List Int)->Int->Option (UB×Int))(a:List Int)(bE:Int):Option (UB×Int):=cond (decide<|bE<(s.length:Int)) (ao (aP bE s.length)<|ao ((decide<|(((s.getD (bE).toNat 0).toNat:Nat):Int)=34)||aP bE s.length)<|cond (cond (decide<|(((s.getD (bE).toNat 0).toNat:Nat):Int)=34) true<|decide<|(((s.getD (bE).toNat 0).toNat:Nat):Int)=92) ((tK n 92 a).bind λc=>M8 n b s bE c)<|M8 n b s bE a) (Vp n a)
def Hi(n:Nat)(s:UB):Nat->(List Int)->Int->Option (UB×Int)
 | 0=>λ_ _=>none
 |m+1=>Vr n s (Hi n s m)
def M9(s:UB):Option (UB×Int):=cond (decide<|64<(s.length:Int)) (some ([],2)) ((Vo n s).bind λa=>cond (!a) (some ([],1))<|(tK n 34 []).bind λb=>Hi n s n b 0)
def Vs(n:Nat):YX:=some 9
def Hj(op:Int)(a:Bool):YX:=cond a (some 7) (cond (decide<|op=9) (some 8)<|Vs n)
def M_(op:Int)(a:Bool):YX:=cond a (some 6) (cond (decide<|op=6) (Hj n op<|decide<|op=6)<|cond (decide<|op=7) (Hj n op<|decide<|op=7)<|Hj n op<|decide<|op=8)
def w9(op:Int)(a:Bool):YX:=cond a (some 4) (cond (decide<|op=19) (some 5)<|cond (decide<|op=4) (M_ n op<|decide<|op=4)<|M_ n op<|decide<|op=5)
def Hk(op:Int):YX:=cond (decide<|op=17) (some 1) (cond (decide<|op=16) (some 2)<|cond (decide<|op=18) (some 3)<|cond (decide<|op=10) (w9 n op<|decide<|op=10)<|cond (decide<|op=11) (w9 n op<|decide<|op=11)<|cond (decide<|op=12) (w9 n op<|decide<|op=12)<|cond (decide<|op=13) (w9 n op<|decide<|op=13)<|cond (decide<|op=14) (w9 n op<|decide<|op=14)<|w9 n op<|decide<|op=15)
def Na(n:Nat)(op:Int):Option UB:=cond (decide<|op=17) (some [111,114]) (cond (decide<|op=16) (some [97,110,100])<|cond (decide<|op=10) (some [61,61])<|cond (decide<|op=11) (some [33,61])<|cond (decide<|op=12) (some [60])<|cond (decide<|op=13) (some [60,61])<|cond (decide<|op=14) (some [62])<|cond (decide<|op=15) (some [62,61])<|cond (decide<|op=19) (some [43,43])<|cond (decide<|op=4) (some [43])<|cond (decide<|op=5) (some [45])<|cond (decide<|op=6) (some [42])<|cond (decide<|op=7) (some [47])<|some [37])
def Nb(n:Nat)(op:Int):Option UB:=cond (decide<|op=20) (some [116,101,120,116]) (cond (decide<|op=21) (some [108,101,110])<|cond (decide<|op=22) (some [103,101,116,105,110,116])<|cond (decide<|op=23) (some [103,101,116,115,116,114])<|cond (decide<|op=24) (some [104,97,115])<|cond (decide<|op=25) (some [110,111,119])<|cond (decide<|op=26) (some [114,97,110,100,111,109])<|cond (decide<|op=27) (some [110,111,100,101])<|some [])
def Nc(j:Bi->Option UB)(a:Bi->Int->Option UB)(e:Bi):Option UB:=(Hk n e.Op).bind λr1=>cond (decide<|e.Op=1) ((zp n e.N).bind λk=>some k) (cond (decide<|e.Op=2) ((M9 n e.S).bind λl=>some l.1)<|cond (decide<|e.Op=3) (some e.S)<|cond (decide<|e.Op=18) (ao (aP 0 e.ax.length)<|(a (e.ax.getD 0 default) r1).bind λi=>ao (bF<|([110,111,116,32]:UB).length+i.length)<|some<|[110,111,116,32]++i)<|cond (decide<|e.Op=9) (ao (aP 0 e.ax.length)<|(a (e.ax.getD 0 default) r1).bind λh=>ao (bF<|([45]:UB).length+h.length)<|some<|[45]++h)<|cond (cond (decide<|r1=9) (decide<|(e.ax.length:Int)=0) false) ((Nb n e.Op).bind λeG=>ao (bF<|eG.length+([40,41]:UB).length)<|some<|eG++[40,41])<|cond (decide<|r1=9) ((Nb n e.Op).bind λfo=>ao (bF<|fo.length+([40]:UB).length)<|ao (aP 0 e.ax.length)<|(j<|e.ax.getD 0 default).bind λd=>ao (bF<|(fo++[40]).length+d.length)<|ao (bF<|((fo++[40])++d).length+([41]:UB).length)<|some<|((fo++[40])++d)++[41])<|cond (decide<|r1=4) (ao (aP 0 e.ax.length)<|(a (e.ax.getD 0 default) 5).bind λr27=>ao (bF<|r27.length+([32]:UB).length)<|(Na n e.Op).bind λc=>ao (bF<|(r27++[32]).length+c.length)<|ao (bF<|((r27++[32])++c).length+([32]:UB).length)<|ao (aP 1 e.ax.length)<|(a (e.ax.getD 1 default) 5).bind λf=>ao (bF<|(((r27++[32])++c)++[32]).length+f.length)<|some<|(((r27++[32])++c)++[32])++f) (ao (aP 0 e.ax.length)<|(a (e.ax.getD 0 default) r1).bind λp9=>ao (bF<|p9.length+([32]:UB).length)<|(Na n e.Op).bind λb=>ao (bF<|(p9++[32]).length+b.length)<|ao (bF<|((p9++[32])++b).length+([32]:UB).length)<|ao (aP 1 e.ax.length)<|(a (e.ax.getD 1 default)<|YV<|r1+1).bind λg=>ao (bF<|(((p9++[32])++b)++[32]).length+g.length)<|some<|(((p9++[32])++b)++[32])++g))
def Nd(b:Bi->Option UB)(d:Bi->Int->Option UB)(e:Bi)(least:Int):Option UB:=(Hk n e.Op).bind λr1=>cond (decide<|r1<least) ((b e).bind λa=>ao (bF<|([40]:UB).length+a.length)<|ao (bF<|([40]++a).length+([41]:UB).length)<|some<|([40]++a)++[41]) ((b e).bind λc=>some c)
def CK:Nat->(Bi->Option UB)×(Bi->Int->Option UB)
 | 0=>(λ_=>none,λ_ _=>none)
 |m+1=>(Nc m ((CK m).1)<|(CK m).2,Nd m ((CK m).1)<|(CK m).2)
def nz:Bi->Option UB:=(CK n).1
def zq:Bi->Int->Option UB:=(CK n).2
def Vt(s:Bj)(c:List Int)(d:Int):Option (List Int):=(nz n s.A).bind λb=>(n2 n [s.BY,[32,61,32],b,[59]] c d).bind λa=>some a
def Vu(s:Bj)(c:List Int)(d:Int):Option (List Int):=(nz n s.A).bind λb=>(n2 n [[108,101,116,32],s.BY,[32,61,32],b,[59]] c d).bind λa=>some a
def Vv(s:Bj)(c:List Int)(d:Int):Option (List Int):=(nz n s.A).bind λb=>(n2 n [[101,109,105,116,32],b,[59]] c d).bind λa=>some a
def Vw(s:Bj)(d:List Int)(e:Int):Option (List Int):=(nz n s.A).bind λc=>(nz n s.B).bind λb=>(n2 n [[112,117,116,32],c,[32,61,32],b,[59]] d e).bind λa=>some a
def Vx(s:Bj)(c:List Int)(d:Int):Option (List Int):=(nz n s.A).bind λb=>(n2 n [[100,101,108,101,116,101,32],b,[59]] c d).bind λa=>some a
def Vy(n:Nat)(b:(List Bj)->(List Int)->Int->Option ((List Int)×Int))(d:Bj->(List Int)->Int->Option ((List Int)×Int))(c:Bj->(List Int)->Int->Option ((List Int)×Int))(a:List Int)(m7:Int):Option ((List Int)×Int):=some (a,(YV<|m7-1))
def Vz(s:(List Bj)->(List Int)->Int->Option ((List Int)×Int))(p:Bj->(List Int)->Int->Option ((List Int)×Int))(o:Bj->(List Int)->Int->Option ((List Int)×Int))(l:List Bj)(c:(List Int)->Int->Int->Option ((List Int)×Int))(b:List Int)(a bL:Int):Option ((List Int)×Int):=cond (decide<|bL<(l.length:Int)) (ao (aP bL l.length)<|(tI n<|(yP l bL).Op).bind λt=>jt.on t (λI=>(Vu n (yP l bL) b a).bind λu=>c u a<|YV<|bL+1)<|λg=>jt.on g (λH=>(Vt n (yP l bL) b a).bind λx=>c x a<|YV<|bL+1)<|λm=>jt.on m (λF=>(Vw n (yP l bL) b a).bind λw=>c w a<|YV<|bL+1)<|λk=>jt.on k (λE=>(Vx n (yP l bL) b a).bind λf=>c f a<|YV<|bL+1)<|λj=>jt.on j (λB=>(p (yP l bL) b a).bind λq=>c q.1 q.2<|YV<|bL+1)<|λi=>jt.on i (λA=>(o (yP l bL) b a).bind λd=>c d.1 d.2<|YV<|bL+1)<|λh=>jt.on h (λz=>(Vv n (yP l bL) b a).bind λe=>c e a<|YV<|bL+1)<|λy=>(Vl n (yP l bL) b a).bind λr=>c r a<|YV<|bL+1) (Vy n s p o b a)
def Hl(n:Nat)(a:(List Bj)->(List Int)->Int->Option ((List Int)×Int))(c:Bj->(List Int)->Int->Option ((List Int)×Int))(b:Bj->(List Int)->Int->Option ((List Int)×Int))(l:List Bj):Nat->(List Int)->Int->Int->Option ((List Int)×Int)
 | 0=>λ_ _ _=>none
 |m+1=>Vz n a c b l (Hl n a c b l m)
def Nf(a:(List Bj)->(List Int)->Int->Option ((List Int)×Int))(c:Bj->(List Int)->Int->Option ((List Int)×Int))(b:Bj->(List Int)->Int->Option ((List Int)×Int))(l:List Bj)(d:List Int)(cC:Int):Option ((List Int)×Int):=Hl n a c b l n d (YV<|cC+1) 0
def Ng(d:(List Bj)->(List Int)->Int->Option ((List Int)×Int))(f:Bj->(List Int)->Int->Option ((List Int)×Int))(e:Bj->(List Int)->Int->Option ((List Int)×Int))(b:List Int)(a:Int):Option ((List Int)×Int):=(n2 n [[125]] b a).bind λc=>some (c,a)
def Nh(b:(List Bj)->(List Int)->Int->Option ((List Int)×Int))(d:Bj->(List Int)->Int->Option ((List Int)×Int))(c:Bj->(List Int)->Int->Option ((List Int)×Int))(s:Bj)(i:List Int)(f:Int):Option ((List Int)×Int):=(nz n s.A).bind λh=>(n2 n [[105,102,32],h,[32,123]] i f).bind λg=>(b s.BZ g f).bind λa=>cond (decide<|0<(s.b0.length:Int)) ((n2 n [[125,32,101,108,115,101,32,123]] a.1 a.2).bind λj=>(b s.b0 j a.2).bind λe=>Ng n b d c e.1 e.2) (Ng n b d c a.1 a.2)
def Ni(f:(List Bj)->(List Int)->Int->Option ((List Int)×Int))(k:Bj->(List Int)->Int->Option ((List Int)×Int))(j:Bj->(List Int)->Int->Option ((List Int)×Int))(s:Bj)(g:List Int)(b:Int):Option ((List Int)×Int):=(nz n s.A).bind λe=>(nz n s.B).bind λd=>(zp n s.Max).bind λc=>(n2 n [[102,111,114,32],s.BY,[32,61,32],e,[32,116,111,32],d,[32,109,97,120,32],c,[32,123]] g b).bind λi=>(f s.BZ i b).bind λa=>(n2 n [[125]] a.1 a.2).bind λh=>some (h,a.2)
def q6:Nat->((List Bj)->(List Int)->Int->Option ((List Int)×Int))×(Bj->(List Int)->Int->Option ((List Int)×Int))×(Bj->(List Int)->Int->Option ((List Int)×Int))
 | 0=>(λ_ _ _=>none,λ_ _ _=>none,λ_ _ _=>none)
 |m+1=>(Nf m ((q6 m).1) ((q6 m).2.1)<|(q6 m).2.2,Nh m ((q6 m).1) ((q6 m).2.1)<|(q6 m).2.2,Ni m ((q6 m).1) ((q6 m).2.1)<|(q6 m).2.2)
def tM:(List Bj)->(List Int)->Int->Option ((List Int)×Int):=(q6 n).1
def zr:Bj->(List Int)->Int->Option ((List Int)×Int):=(q6 n).2.1
def zt:Bj->(List Int)->Int->Option ((List Int)×Int):=(q6 n).2.2
def Nj(n:Nat)(a:List Int)(b:Int):Option (UB×(List Int)):=ao (n0 a&&decide (a.length<=9223372036854775807))<|some (jh a,a)
def VA(p:bk)(f:List UB):Option UB:=(ME n f [44,32]).bind λd=>(n2 n [[112,114,111,99,32],p.BY,[40],d,[41,32,123]] [] 0).bind λc=>(tM n p.BZ c 0).bind λb=>(n2 n [[125]] b.1 b.2).bind λe=>(Nj n e b.2).bind λa=>some a.1
def VB(p:bk)(ak:Int->(List UB)->Option UB)(v10:Int)(v11:List UB):Option UB:=cond (decide<|v10<(p.Cq.length:Int)) (ao (aP v10 p.Cq.length)<|ao (bF<|((yP p.Cq v10).BY).length+([58,32]:UB).length)<|(M6 n<|(yP p.Cq v10).fT).bind λa=>ao (bF<|(((yP p.Cq v10).BY)++[58,32]).length+a.length)<|ao (room (v11.length+([((((yP p.Cq v10).BY)++[58,32])++a)]:List UB).length) 16)<|ak (YV<|v10+1)<|v11++[((((yP p.Cq v10).BY)++[58,32])++a)]) (VA n p v11)
def Hm(n:Nat)(p:bk):Nat->Int->(List UB)->Option UB
 | 0=>λ_ _=>none
 |m+1=>VB n p (Hm n p m)
def w_(p:bk):Option UB:=(Hd n p).bind λa=>cond (!decide (a=0)) (some []) (Hm n p n 0 [])
def Hn(n:Nat)(next:Int):YX:=some (cond (decide<|(YV<|next-1)<8) (YV<|next-1) 8)
def VC(n:Nat):UM:=some false
def VD(n:Nat):UM:=some true
def Nk(o:Bt)(ff:Int->UM)(v4:Int):UM:=cond (decide<|v4<(o.Out.length:Int)) (ao (aP v4 o.Out.length)<|(sh n<|yP o.Out v4).bind λa=>cond (cond (!a) true<|decide<|(yP o.Out v4).Cc=0) (some false)<|ff<|YV<|v4+1) (VD n)
def zu(n:Nat)(o:Bt):Nat->Int->UM
 | 0=>λ_=>none
 |m+1=>Nk n o (zu n o m)
def Ho(o:Bt):UM:=cond (decide<|o.Status=1) (cond (cond (!decide (o.Code=0)) true<|decide<|16<(o.Out.length:Int)) (some false)<|zu n o n 0) (cond (decide<|o.Status=2) (some<|cond (cond (decide<|0<=o.Code) (decide<|o.Code<=1009) false) (decide<|(o.Out.length:Int)=0) false)<|VC n)
def VE(n:Nat):UM:=some true
def Nl(s:b3)(ak:Int->UM)(v6:Int):UM:=cond (decide<|v6<(s.ce.length:Int)) (ao (aP v6 s.ce.length)<|(cond (!(!((decide<|(yP s.ce v6).Et=s.Et)&&((decide<|(yP s.ce v6).Seq=(YV<|(YV<|s.Next-(s.ce.length:Int))+v6))&&true)))) (Ho n<|(yP s.ce v6).Bt)<|some default).bind λa=>cond (cond (!((decide<|(yP s.ce v6).Et=s.Et)&&((decide<|(yP s.ce v6).Seq=(YV<|(YV<|s.Next-(s.ce.length:Int))+v6))&&true))) true<|!a) (some false)<|ak<|YV<|v6+1) (VE n)
def CL(n:Nat)(s:b3):Nat->Int->UM
 | 0=>λ_=>none
 |m+1=>Nl n s (CL n s m)
def Nn(s:b3):UM:=(cond (!(cond (cond (cond (decide<|s.Et<1) true<|decide<|32<s.Et) true<|decide<|s.Next<1) true<|decide<|1099511627776<s.Next)) (Hn n s.Next)<|some default).bind λa=>cond (cond (cond (cond (cond (decide<|s.Et<1) true<|decide<|32<s.Et) true<|decide<|s.Next<1) true<|decide<|1099511627776<s.Next) true<|!decide ((s.ce.length:Int)=a)) (some false) (CL n s n 0)
def VF(n:Nat):UM:=some true
def No(l:List b3)(ak:Int->UM)(v5:Int):UM:=cond (decide<|v5<(l.length:Int)) (ao (aP v5 l.length)<|(Nn n<|yP l v5).bind λa=>ao ((!a)||(!(decide<|0<v5)||aP (YV<|v5-1) l.length))<|cond (cond (!a) true<|cond (decide<|0<v5) (decide<|(yP l v5).Et<=(yP l<|YV<|v5-1).Et) false) (some false)<|ak<|YV<|v5+1) (VF n)
def CM(n:Nat)(l:List b3):Nat->Int->UM
 | 0=>λ_=>none
 |m+1=>No n l (CM n l m)
def vv(l:List b3):UM:=CM n l n 0
def kK(s:UB)(a:List Int):Option (Int×(List Int)):=(CJ n a).bind λc=>ao (room (a.length+s.length) 1)<|some ((s.length:Int),(a++s.map λb=>(b.toNat:Int)))
def VG(b:List Int):Option UB:=(tJ n b).bind λa=>some a.1
def VH(n:Nat)(a:(List Int)->Int->Option UB)(l:List b3)(eM:Int)(b:List Int):Option UB:=a b (YV<|eM+1)
def VI(n:Nat)(a:(List Int)->Int->Option UB)(c:(List Int)->Int->Option UB)(l:List b3)(b jG:Int)(v109:List Int):Option UB:=a v109 (YV<|jG+1)
def Nr(g:(List Int)->Int->Option UB)(h:(List Int)->Int->Option UB)(l:List b3)(b a:Int)(f:(List Int)->Int->Option UB)(d:List Int)(zv:Int):Option UB:=cond (decide<|zv<(((((((yP l b).ce).getD (a).toNat default).Bt).Out).length:Nat):Int)) (ao (aP zv (((((yP l b).ce).getD (a).toNat default).Bt).Out).length)<|(zm n<|(((((yP l b).ce).getD (a).toNat default).Bt).Out).getD (zv).toNat default).bind λe=>(kK n e d).bind λc=>f c.2<|YV<|zv+1) (VI n g h l b a d)
def zw(n:Nat)(c:(List Int)->Int->Option UB)(d:(List Int)->Int->Option UB)(l:List b3)(b a:Int):Nat->(List Int)->Int->Option UB
 | 0=>λ_ _=>none
 |m+1=>Nr n c d l b a (zw n c d l b a m)
def Ns(c:(List Int)->Int->Option UB)(l:List b3)(a:Int)(f:(List Int)->Int->Option UB)(e:List Int)(jG:Int):Option UB:=cond (decide<|jG<((((yP l a).ce).length:Nat):Int)) (ao (aP jG ((yP l a).ce).length)<|(iL n<|IntKind.u64.wrap<|((((yP l a).ce).getD (jG).toNat default).Bt).Status).bind λCN=>(iL n<|IntKind.u64.wrap<|((((yP l a).ce).getD (jG).toNat default).Bt).Code).bind λb=>ao (bF<|CN.length+b.length)<|(iL n<|IntKind.u64.wrap (((((((yP l a).ce).getD (jG).toNat default).Bt).Out).length:Nat):Int)).bind λd=>ao (bF<|(CN++b).length+d.length)<|(kK n ((CN++b)++d) e).bind λg=>zw n f c l a jG n g.2 0) (VH n c l a e)
def zy(n:Nat)(b:(List Int)->Int->Option UB)(l:List b3)(a:Int):Nat->(List Int)->Int->Option UB
 | 0=>λ_ _=>none
 |m+1=>Ns n b l a (zy n b l a m)
def Nu(l:List b3)(d:(List Int)->Int->Option UB)(a:List Int)(eM:Int):Option UB:=cond (decide<|eM<(l.length:Int)) (ao (aP eM l.length)<|(iL n<|IntKind.u64.wrap<|(yP l eM).Et).bind λVK=>(iL n<|IntKind.u64.wrap<|(yP l eM).Next).bind λb=>ao (bF<|VK.length+b.length)<|(kK n (VK++b) a).bind λc=>zy n d l eM n c.2 0) (VG n a)
def CO(n:Nat)(l:List b3):Nat->(List Int)->Int->Option UB
 | 0=>λ_ _=>none
 |m+1=>Nu n l (CO n l m)
def Hs(l:List b3):Option UB:=(vv n l).bind λb=>cond (!b) (some []) ((iL n<|IntKind.u64.wrap (l.length:Int)).bind λa=>(kK n a []).bind λc=>CO n l n c.2 0)
def VL(b:List Int):Option UB:=(tJ n b).bind λa=>some a.1
def Nv(l:List aQ)(f:(List Int)->Int->Option UB)(a:List Int)(v11:Int):Option UB:=cond (decide<|v11<(l.length:Int)) (ao (aP v11 l.length)<|(p6 n<|(yP l v11).Key).bind λe=>(kK n e a).bind λd=>(zm n<|(yP l v11).aY).bind λb=>(kK n b d.2).bind λc=>f c.2<|YV<|v11+1) (VL n a)
def CP(n:Nat)(l:List aQ):Nat->(List Int)->Int->Option UB
 | 0=>λ_ _=>none
 |m+1=>Nv n l (CP n l m)
def Nw(l:List aQ):Option UB:=(iL n<|IntKind.u64.wrap (l.length:Int)).bind λb=>(kK n b []).bind λa=>CP n l n a.2 0
def Ht(a:bK)(d:List Int):Option UB:=(Cx n a.EK).bind λg=>(kK n g d).bind λe=>(iL n a.cN).bind λb=>(kK n b e.2).bind λc=>(tJ n c.2).bind λf=>some f.1
def Nx(a:bK)(g:(List Int)->Int->Option UB)(b:List Int)(v37:Int):Option UB:=cond (decide<|v37<(a.be.length:Int)) (ao (aP v37 a.be.length)<|(p6 n<|(yP a.be v37).Key).bind λd=>(kK n d b).bind λc=>(tG n<|(yP a.be v37).Count).bind λe=>(kK n e c.2).bind λf=>g f.2<|YV<|v37+1) (Ht n a b)
def CQ(n:Nat)(a:bK):Nat->(List Int)->Int->Option UB
 | 0=>λ_ _=>none
 |m+1=>Nx n a (CQ n a m)
def CR(a:bK)(b:List Int):Option UB:=(Hs n a.b7).bind λh=>(kK n h b).bind λe=>(G9 n a.EG).bind λg=>(kK n g e.2).bind λd=>(iL n<|IntKind.u64.wrap (a.be.length:Int)).bind λc=>(kK n c d.2).bind λf=>CQ n a n f.2 0
def Ny(a:bK)(f:(List Int)->Int->Option UB)(b:List Int)(bE:Int):Option UB:=cond (decide<|bE<(a.bY.length:Int)) (ao (aP bE a.bY.length)<|(w_ n<|yP a.bY bE).bind λd=>(p6 n d).bind λc=>(kK n c b).bind λe=>f e.2<|YV<|bE+1) (CR n a b)
def CS(n:Nat)(a:bK):Nat->(List Int)->Int->Option UB
 | 0=>λ_ _=>none
 |m+1=>Ny n a (CS n a m)
def vw(a:bK):Option UB:=(tH n a.aq a.Pos).bind λd=>(tG n a.Pos).bind λc=>(kK n c []).bind λb=>(Nw n d.1).bind λh=>(kK n h b.2).bind λe=>(iL n<|IntKind.u64.wrap (a.bY.length:Int)).bind λg=>(kK n g e.2).bind λf=>CS n a n f.2 0
def CT(n:Nat)(most:Int):YX:=some most
def VM(n:Nat)(p:aQ):UM:=some (decide<|p.aY.Cc=0)
def VN(n:Nat):YX:=some (-1)
def Nz(s:List aQ)(ak:Int->YX)(v4:Int):YX:=cond (decide<|v4<(s.length:Int)) (ao (aP v4 s.length)<|(VM n<|yP s v4).bind λa=>cond a (some v4)<|ak<|YV<|v4+1) (VN n)
def CU(n:Nat)(s:List aQ):Nat->Int->YX
 | 0=>λ_=>none
 |m+1=>Nz n s (CU n s m)
def VO(s:List aQ):YX:=CU n s n 0
def VP(s:List aQ):UM:=(VO n s).bind λa=>some (decide<|0<=a)
def VQ(n:Nat):UM:=some true
def NA(l:List aQ)(ak:Int->UM)(v6:Int):UM:=cond (decide<|v6<(l.length:Int)) (ao (aP v6 l.length)<|(w7 n<|(yP l v6).Key).bind λa=>(cond (!(!a)) (sh n<|(yP l v6).aY)<|some default).bind λb=>ao ((cond (!a) true<|!b)||(!(decide<|0<v6)||aP (YV<|v6-1) l.length))<|cond (cond (cond (!a) true<|!b) true<|cond (decide<|0<v6) (!(Op.bytesLess ((yP l<|YV<|v6-1).Key)<|(yP l v6).Key)) false) (some false)<|ak<|YV<|v6+1) (VQ n)
def CV(n:Nat)(l:List aQ):Nat->Int->UM
 | 0=>λ_=>none
 |m+1=>NA n l (CV n l m)
def NB(l:List aQ):UM:=CV n l n 0
def Hw(l:List aQ):UM:=(NB n l).bind λa=>(cond a (VP n l)<|some default).bind λb=>some (cond a (!b) false)
def VR(n:Nat)(a:Int):Option bJ:=some ⟨1,a,[]⟩
def Hy(n:Nat)(s:UB)(at_:Int):UM:=some (cond (decide<|at_<0) true<|decide<|(s.length:Int)<at_)
def afH(n:Nat):Option (Int×Int×Int):=some (0,0,5)
def VS(s:UB)(at_:Int)(ak:Int->Int->Option (Int×Int×Int))(bH a:Int):Option (Int×Int×Int):=cond (decide<|bH<10) (cond (decide<|(s.length:Int)<=(YV<|at_+bH)) (some (0,0,6)) (ao (aP (YV<|at_+bH) s.length)<|cond (cond (cond (decide<|bH=9) (decide<|1<(((s.getD ((YV<|at_+bH)).toNat 0).toNat:Nat):Int)) false) true<|cond (decide<|(((s.getD ((YV<|at_+bH)).toNat 0).toNat:Nat):Int)=0) (decide<|0<bH) false) (some (0,0,5)) (ao (o0<|YV<|7*bH)<|cond (decide<|(((s.getD ((YV<|at_+bH)).toNat 0).toNat:Nat):Int)<128) (some ((s9 .u64 a<|qA .u64 (IntKind.u64.wrap<|rJ .u8 (((s.getD ((YV<|at_+bH)).toNat 0).toNat:Nat):Int) 127)<|YV<|7*bH),(YV<|(YV<|at_+bH)+1),0))<|ak (YV<|bH+1)<|s9 .u64 a<|qA .u64 (IntKind.u64.wrap<|rJ .u8 (((s.getD ((YV<|at_+bH)).toNat 0).toNat:Nat):Int) 127)<|YV<|7*bH))) (afH n)
def Hz(n:Nat)(s:UB)(a:Int):Nat->Int->Int->Option (Int×Int×Int)
 | 0=>λ_ _=>none
 |m+1=>VS n s a (Hz n s a m)
def vx(s:UB)(a:Int):Option (Int×Int×Int):=(Hy n s a).bind λb=>cond b (some (0,0,1)) (Hz n s a n 0 0)
def CW(s:UB)(b:Int):Option (Int×Int×Int):=(vx n s b).bind λa=>cond (!decide (a.2.2=0)) (some (0,0,a.2.2)) (some ((oy .i64 (YV<|mq .u64 a.1 1)<|YV<|0-(YV<|rJ .u64 a.1 1)),a.2.1,0))
def p'(s:UB)(b most:Int):Option (Int×Int×Int):=(vx n s b).bind λa=>cond (!decide (a.2.2=0)) (some (0,0,a.2.2)) (cond (cond (decide<|most<0) true<|decide<|(IntKind.u64.wrap most)<a.1) (some (0,0,2))<|cond (decide<|(IntKind.u64.wrap<|YV<|(s.length:Int)-a.2.1)<a.1) (some (0,0,6))<|some ((YV a.1),a.2.1,0))
def vy(s:UB)(a most:Int):Option (UB×Int×Int):=(p' n s a most).bind λr1=>cond (!decide (r1.2.2=0)) (some ([],0,r1.2.2)) (ao (oY r1.2.1 (YV<|r1.2.1+r1.1) s.length)<|some (((s.take ((YV<|r1.2.1+r1.1)).toNat).drop (r1.2.1).toNat),(YV<|r1.2.1+r1.1),0))
def HA(n:Nat)(b:UB×Int×Int)(a:Int):Option (bJ×Int×Int):=cond (!decide (a=0)) (some (⟨0,0,[]⟩,0,a)) (some (⟨2,0,b.1⟩,b.2.1,0))
def CX(s:UB)(b:Int):Option (bJ×Int×Int):=(vx n s b).bind λr1=>cond (!decide (r1.2.2=0)) (some (⟨0,0,[]⟩,0,r1.2.2)) (cond (decide<|r1.1=0) (some (⟨0,0,[]⟩,r1.2.1,0))<|cond (decide<|r1.1=1) ((CW n s r1.2.1).bind λa=>cond (!decide (a.2.2=0)) (some (⟨0,0,[]⟩,0,a.2.2))<|(VR n a.1).bind λd=>some (d,a.2.1,0))<|cond (decide<|r1.1=2) ((vy n s r1.2.1 64).bind λcW=>(cond (decide<|cW.2.2=0) (G0 n cW.1)<|some default).bind λc=>cond (cond (decide<|cW.2.2=0) (!c) false) (HA n cW 5)<|HA n cW cW.2.2)<|some (⟨0,0,[]⟩,0,5))
def NC(c:Int)(a:List aQ):Option ((List aQ)×Int×Int):=(Hw n a).bind λb=>cond (!b) (some ([],0,5)) (some (a,c,0))
def ND(s:UB)(r1:Int×Int×Int)(ak:Int->Int->(List aQ)->Option ((List aQ)×Int×Int))(c v10:Int)(v11:List aQ):Option ((List aQ)×Int×Int):=cond (decide<|v10<r1.1) ((vy n s c 24).bind λa=>cond (!decide (a.2.2=0)) (some ([],0,a.2.2))<|(CX n s a.2.1).bind λb=>cond (!decide (b.2.2=0)) (some ([],0,b.2.2)) (ao (room (v11.length+([⟨a.1,b.1⟩]:List aQ).length) 48)<|ak b.2.1 (YV<|v10+1)<|v11++[⟨a.1,b.1⟩])) (NC n c v11)
def zz(n:Nat)(s:UB)(r1:Int×Int×Int):Nat->Int->Int->(List aQ)->Option ((List aQ)×Int×Int)
 | 0=>λ_ _ _=>none
 |m+1=>ND n s r1 (zz n s r1 m)
def NE(s:UB)(b:Int):Option ((List aQ)×Int×Int):=(p' n s b 2147483647).bind λa=>cond (!decide (a.2.2=0)) (some ([],0,a.2.2)) (zz n s a n a.2.1 0 [])
def CY(a:fQ):Option ((List aQ)×Int×Int):=cond (!decide (a.e=0)) (some ([],a.at_,a.e)) ((NE n a.s a.at_).bind λb=>cond (!decide (b.2.2=0)) (some ([],a.at_,b.2.2))<|some (b.1,b.2.1,b.2.2))
def VT(n:Nat)(s:UB):UM:=some (decide<|(s.length:Int)<=24)
def NF(s:UB)(ak:Int->UM)(v4:Int):UM:=cond (decide<|v4<(s.length:Int)) (ao (aP v4 s.length)<|ao ((decide<|(((s.getD (v4).toNat 0).toNat:Nat):Int)<33)||aP v4 s.length)<|cond (cond (decide<|(((s.getD (v4).toNat 0).toNat:Nat):Int)<33) true<|decide<|126<(((s.getD (v4).toNat 0).toNat:Nat):Int)) (some false)<|ak<|YV<|v4+1) (VT n s)
def CZ(n:Nat)(s:UB):Nat->Int->UM
 | 0=>λ_=>none
 |m+1=>NF n s (CZ n s m)
def HB(s:UB):UM:=CZ n s n 0
def VU(n:Nat)(x:BX)(a:Int):UM:=some (decide<|x.Id=a)
def VV(n:Nat)(a:Int):YX:=some (-1)
def NG(s:List BX)(a:Int)(ak:Int->YX)(v4:Int):YX:=cond (decide<|v4<(s.length:Int)) (ao (aP v4 s.length)<|(VU n (yP s v4) a).bind λb=>cond b (some v4)<|ak<|YV<|v4+1) (VV n a)
def C0(n:Nat)(s:List BX)(a:Int):Nat->Int->YX
 | 0=>λ_=>none
 |m+1=>NG n s a (C0 n s a m)
def VW(s:List BX)(a:Int):YX:=C0 n s a n 0
def VX(l:List BX)(id:Int):YX:=(VW n l id).bind λa=>some a
def HC(n:Nat)(ev:Int):UM:=some (cond (decide<|1<=ev) (decide<|ev<=16) false)
def VY(n:Nat)(ev:Int):UM:=some (cond (decide<|1<=ev) (decide<|ev<=1099511627776) false)
def NH(l:List BX)(i:Int):UM:=ao (aP i l.length)<|cond (decide<|(yP l i).f0=0) (some<|decide<|((yP l i).dO)=[]) ((HC n<|(yP l i).f0).bind λa=>(cond (cond a (!decide ((yP l i).f0=(yP l i).Node)) false) (HB n<|(yP l i).dO)<|some default).bind λb=>ao (!(cond (cond (cond a (!decide ((yP l i).f0=(yP l i).Node)) false) b false) (!(Op.bytesLess ((yP l i).dO)<|(yP l i).ee)) false)||((decide<|(YV<|i+1)=(l.length:Int))||aP (YV<|i+1) l.length))<|some<|cond (cond (cond (cond a (!decide ((yP l i).f0=(yP l i).Node)) false) b false) (!(Op.bytesLess ((yP l i).dO)<|(yP l i).ee)) false) (cond (decide<|(YV<|i+1)=(l.length:Int)) true<|Op.bytesLess ((yP l i).dO)<|(yP l<|YV<|i+1).ee) false)
def VZ(n:Nat):UM:=some true
def NI(p:dv)(ak:Int->UM)(v12:Int):UM:=cond (decide<|v12<(p.aI.length:Int)) (ao (aP v12 p.aI.length)<|(cond (decide<|0<v12) (HB n<|(yP p.aI v12).ee)<|some default).bind λd=>ao (!(decide<|0<v12)||((!d)||aP (YV<|v12-1) p.aI.length))<|cond (cond (decide<|0<v12) (cond (!d) true ((Op.bytesLess ((yP p.aI v12).ee)<|(yP p.aI<|YV<|v12-1).ee)||(decide<|((yP p.aI v12).ee)=((yP p.aI<|YV<|v12-1).ee)))) false) (some false) ((VY n<|(yP p.aI v12).Id).bind λa=>(cond (!(!a)) (HC n<|(yP p.aI v12).Node)<|some default).bind λb=>(cond (!(cond (!a) true<|!b)) (NH n p.aI v12)<|some default).bind λc=>ao ((cond (cond (!a) true<|!b) true<|!c)||hB v12 p.aI.length)<|(cond (!(cond (cond (!a) true<|!b) true<|!c)) (VX n (p.aI.take (v12).toNat)<|(yP p.aI v12).Id)<|some default).bind λe=>cond (cond (cond (cond (!a) true<|!b) true<|!c) true<|decide<|0<=e) (some false)<|ak<|YV<|v12+1)) (VZ n)
def zA(n:Nat)(p:dv):Nat->Int->UM
 | 0=>λ_=>none
 |m+1=>NI n p (zA n p m)
def HD(p:dv):UM:=ao ((cond (cond (cond (decide<|p.Br<0) true<|decide<|1099511627776<p.Br) true<|decide<|(p.aI.length:Int)<1) true<|decide<|16<(p.aI.length:Int))||aP 0 p.aI.length)<|cond (cond (cond (cond (cond (decide<|p.Br<0) true<|decide<|1099511627776<p.Br) true<|decide<|(p.aI.length:Int)<1) true<|decide<|16<(p.aI.length:Int)) true<|!(decide<|((p.aI.getD 0 default).ee)=[])) (some false) (zA n p n 0)
def vz(a:q1):Option (Int×Int×Int):=cond (!decide (a.e=0)) (some (0,a.at_,a.e)) ((CW n a.s a.at_).bind λb=>some (b.1,b.2.1,b.2.2))
def zB(a:q1):Option (UB×Int×Int):=cond (!decide (a.e=0)) (some ([],a.at_,a.e)) ((vy n a.s a.at_ 24).bind λb=>some (b.1,b.2.1,b.2.2))
def NJ(n:Nat)(s:UB)(b:Int)(r1:Int×Int×Int)(a:List BX)(c:Int):Option (dv×Int×Int):=cond (!decide (c=0)) (some (⟨0,[]⟩,0,c)) (some (⟨r1.1,a⟩,b,0))
def HE(s:UB)(r1:Int×Int×Int)(b gg:Int)(a:List BX):Option (dv×Int×Int):=(cond (decide<|gg=0) (HD n ⟨r1.1,a⟩)<|some default).bind λc=>cond (cond (decide<|gg=0) (!c) false) (NJ n s b r1 a 5) (NJ n s b r1 a gg)
def C1(r3:Int×Int×Int)(s:UB)(r1:Int×Int×Int)(ff:Int->Int->(List BX)->Int->Option (dv×Int×Int))(g h:Int)(f:List BX)(bL:Int):Option (dv×Int×Int):=cond (decide<|bL<r3.1) ((vz n ⟨s,g,h⟩).bind λa=>(zB n ⟨s,a.2.1,a.2.2⟩).bind λb=>(vz n ⟨s,b.2.1,b.2.2⟩).bind λd=>(vz n ⟨s,d.2.1,d.2.2⟩).bind λc=>(zB n ⟨s,c.2.1,c.2.2⟩).bind λe=>ao (room (f.length+([⟨a.1,b.1,d.1,c.1,e.1⟩]:List BX).length) 56)<|ff e.2.1 e.2.2 (f++[⟨a.1,b.1,d.1,c.1,e.1⟩])<|YV<|bL+1) (HE n s r1 g h f)
def vA(n:Nat)(r3:Int×Int×Int)(s:UB)(r1:Int×Int×Int):Nat->Int->Int->(List BX)->Int->Option (dv×Int×Int)
 | 0=>λ_ _ _ _=>none
 |m+1=>C1 n r3 s r1 (vA n r3 s r1 m)
def NK(s:UB)(c:Int):Option (dv×Int×Int):=(vz n ⟨s,c,0⟩).bind λa=>cond (!decide (a.2.2=0)) (some (⟨0,[]⟩,0,a.2.2)) ((p' n s a.2.1 16).bind λb=>vA n b s a n b.2.1 b.2.2 [] 0)
def C2(a:fQ):Option (dv×Int×Int):=cond (!decide (a.e=0)) (some (⟨0,[]⟩,a.at_,a.e)) ((NK n a.s a.at_).bind λb=>cond (!decide (b.2.2=0)) (some (⟨0,[]⟩,a.at_,b.2.2))<|some (b.1,b.2.1,b.2.2))
def sk(n:Nat)(next e:Int)(a:iY):Option (Int×Int):=some (next,e)
def zC(most:Int)(a:iY):Option (Int×Int×Int):=cond (!decide (a.e=0)) (some (0,a.at_,a.e)) ((p' n a.s a.at_ most).bind λb=>(sk n b.2.1 b.2.2 a).bind λc=>some (b.1,c.1,c.2))
def NL(s:UB)(at_:Int):Option (Bool×Int×Int):=(Hy n s at_).bind λa=>cond a (some (false,0,1)) (cond (decide<|at_=(s.length:Int)) (some (false,0,6)) (ao (aP at_ s.length)<|cond (decide<|1<(((s.getD (at_).toNat 0).toNat:Nat):Int)) (some (false,0,5)) (ao (aP at_ s.length)<|some ((decide<|(((s.getD (at_).toNat 0).toNat:Nat):Int)=1),(YV<|at_+1),0))))
def C3(a:iY):Option (Bool×Int×Int):=cond (!decide (a.e=0)) (some (false,a.at_,a.e)) ((NL n a.s a.at_).bind λb=>(sk n b.2.1 b.2.2 a).bind λc=>some (b.1,c.1,c.2))
def zD(most:Int)(a:iY):Option (UB×Int×Int):=cond (!decide (a.e=0)) (some ([],a.at_,a.e)) ((vy n a.s a.at_ most).bind λb=>(sk n b.2.1 b.2.2 a).bind λc=>some (b.1,c.1,c.2))
def NM(n:Nat)(d:iY)(c b:Int)(a:List UB):Option ((List UB)×Int×Int):=some (a,c,b)
def C4(r1:Int×Int×Int)(e:iY)(ak:Int->Int->(List UB)->Int->Option ((List UB)×Int×Int))(d c:Int)(a:List UB)(v11:Int):Option ((List UB)×Int×Int):=cond (decide<|v11<r1.1) ((zD n 24 ⟨e.s,d,c⟩).bind λb=>ao (room (a.length+([b.1]:List UB).length) 16)<|ak b.2.1 b.2.2 (a++[b.1])<|YV<|v11+1) (NM n e d c a)
def vB(n:Nat)(r1:Int×Int×Int)(a:iY):Nat->Int->Int->(List UB)->Int->Option ((List UB)×Int×Int)
 | 0=>λ_ _ _ _=>none
 |m+1=>C4 n r1 a (vB n r1 a m)
def xc(b:iY):Option ((List UB)×Int×Int):=(zC n 64 b).bind λa=>vB n a b n a.2.1 a.2.2 [] 0
def zE(a:iY):Option (Int×Int×Int):=cond (!decide (a.e=0)) (some (0,a.at_,a.e)) ((vx n a.s a.at_).bind λb=>(sk n b.2.1 b.2.2 a).bind λc=>some (b.1,c.1,c.2))
def C5(a:iY):Option (bJ×Int×Int):=cond (!decide (a.e=0)) (some (⟨0,0,[]⟩,a.at_,a.e)) ((CX n a.s a.at_).bind λb=>(sk n b.2.1 b.2.2 a).bind λc=>some (b.1,c.1,c.2))
def vC(r1 r2:Int×Int×Int)(s:UB)(r3:UB×Int×Int)(c:List bJ)(r24:Bool×Int×Int)(f b:Int)(d a:List UB):Option (BE×Int×Int):=cond (!decide (b=0)) (some (⟨0,0,[],[],false,⟨false,[],[]⟩⟩,0,b)) (cond (cond (decide<|32<r1.1) true<|decide<|1099511627776<r2.1) (some (⟨0,0,[],[],false,⟨false,[],[]⟩⟩,0,5))<|(p5 n ⟨(YV r1.1),(YV r2.1),r3.1,c,r24.1,⟨false,d,a⟩⟩).bind λe=>cond (!decide (e=0)) (some (⟨0,0,[],[],false,⟨false,[],[]⟩⟩,0,5))<|some (⟨(YV r1.1),(YV r2.1),r3.1,c,r24.1,⟨false,d,a⟩⟩,f,0))
def C6(r1 r2:Int×Int×Int)(s:UB)(r3:UB×Int×Int)(e d:Int)(c:List bJ):Option (BE×Int×Int):=(C3 n ⟨s,e,d⟩).bind λa=>cond a.1 ((xc n ⟨s,a.2.1,a.2.2⟩).bind λf=>(xc n ⟨s,f.2.1,f.2.2⟩).bind λb=>vC n r1 r2 s r3 c a b.2.1 b.2.2 f.1 b.1) (vC n r1 r2 s r3 c a a.2.1 a.2.2 [] [])
def C7(r1 r2 e:Int×Int×Int)(s:UB)(r3:UB×Int×Int)(ff:Int->Int->(List bJ)->Int->Option (BE×Int×Int))(b a:Int)(d:List bJ)(bZ:Int):Option (BE×Int×Int):=cond (decide<|bZ<e.1) ((C5 n ⟨s,b,a⟩).bind λc=>ao (room (d.length+([c.1]:List bJ).length) 32)<|ff c.2.1 c.2.2 (d++[c.1])<|YV<|bZ+1) (C6 n r1 r2 s r3 b a d)
def vD(n:Nat)(r1 r2 a:Int×Int×Int)(s:UB)(r3:UB×Int×Int):Nat->Int->Int->(List bJ)->Int->Option (BE×Int×Int)
 | 0=>λ_ _ _ _=>none
 |m+1=>C7 n r1 r2 a s r3 (vD n r1 r2 a s r3 m)
def NN(s:UB)(e:Int):Option (BE×Int×Int):=(zE n ⟨s,e,0⟩).bind λc=>(zE n ⟨s,c.2.1,c.2.2⟩).bind λb=>(zD n 16 ⟨s,b.2.1,b.2.2⟩).bind λa=>(zC n 6 ⟨s,a.2.1,a.2.2⟩).bind λd=>vD n c b d s a n d.2.1 d.2.2 [] 0
def V0(n:Nat)(a:List BE)(b:Int):Option ((List BE)×Int×Int):=some (a,b,0)
def NO(s:UB)(r1:Int×Int×Int)(ak:(List BE)->Int->Int->Option ((List BE)×Int×Int))(c:List BE)(v9 a:Int):Option ((List BE)×Int×Int):=cond (decide<|v9<r1.1) ((NN n s a).bind λb=>cond (!decide (b.2.2=0)) (some ([],0,b.2.2)) (ao (room (c.length+([b.1]:List BE).length) 120)<|ak (c++[b.1]) (YV<|v9+1) b.2.1)) (V0 n c a)
def zF(n:Nat)(s:UB)(r1:Int×Int×Int):Nat->(List BE)->Int->Int->Option ((List BE)×Int×Int)
 | 0=>λ_ _ _=>none
 |m+1=>NO n s r1 (zF n s r1 m)
def NP(s:UB)(b:Int):Option ((List BE)×Int×Int):=(p' n s b 64).bind λa=>cond (!decide (a.2.2=0)) (some ([],0,a.2.2)) (zF n s a n [] 0 a.2.1)
def C8(a:fQ):Option ((List BE)×Int×Int):=cond (!decide (a.e=0)) (some ([],a.at_,a.e)) ((NP n a.s a.at_).bind λb=>cond (!decide (b.2.2=0)) (some ([],a.at_,b.2.2))<|some (b.1,b.2.1,b.2.2))
def C9(n:Nat)(r2:Int×Int×Int)(b:mA)(a:Int):Option (Int×Int×Int):=cond (!decide (a=0)) (some (0,b.at_,a)) (some ((YV r2.1),r2.2.1,a))
def vE(least most:Int)(a:mA):Option (Int×Int×Int):=cond (!decide (a.e=0)) (some (0,a.at_,a.e)) ((vx n a.s a.at_).bind λr2=>cond (cond (decide<|r2.2.2=0) (cond (decide<|r2.1<least) true<|decide<|most<r2.1) false) (C9 n r2 a 5)<|C9 n r2 a r2.2.2)
def HF(n:Nat)(d:mA)(r1 r2:Int×Int×Int)(c b:Int)(a:List bJ):Option (Bt×Int×Int):=some (⟨r1.1,r2.1,a⟩,c,b)
def C'(e:Int×Int×Int)(d:mA)(r1 r2:Int×Int×Int)(ak:Int->Int->(List bJ)->Int->Option (Bt×Int×Int))(a v12:Int)(c:List bJ)(bZ:Int):Option (Bt×Int×Int):=cond (cond (decide<|bZ<e.1) (decide<|v12=0) false) ((CX n d.s a).bind λb=>ao (room (c.length+([b.1]:List bJ).length) 32)<|ak b.2.1 b.2.2 (c++[b.1])<|YV<|bZ+1) (HF n d r1 r2 a v12 c)
def xd(n:Nat)(a:Int×Int×Int)(b:mA)(r1 r2:Int×Int×Int):Nat->Int->Int->(List bJ)->Int->Option (Bt×Int×Int)
 | 0=>λ_ _ _ _=>none
 |m+1=>C' n a b r1 r2 (xd n a b r1 r2 m)
def HG(c:mA):Option (Bt×Int×Int):=(vE n 0 9999 c).bind λb=>(vE n 0 9999 ⟨c.s,b.2.1,b.2.2⟩).bind λa=>cond (!decide (a.2.2=0)) (some (⟨b.1,a.1,[]⟩,a.2.1,a.2.2)) ((p' n c.s a.2.1 16).bind λd=>xd n d c b a n d.2.1 d.2.2 [] 0)
def NQ(n:Nat)(d:mA)(r1 r2:Int×Int×Int)(c b:Int)(a:List fk):Option (b3×Int×Int):=some (⟨r1.1,r2.1,a⟩,c,b)
def HH(bd:Int)(d:mA)(r1 r2:Int×Int×Int)(ak:Int->Int->(List fk)->Int->Option (b3×Int×Int))(a v12:Int)(c:List fk)(bZ:Int):Option (b3×Int×Int):=cond (cond (decide<|bZ<bd) (decide<|v12=0) false) ((HG n ⟨d.s,a,v12⟩).bind λb=>ao (room (c.length+([⟨r1.1,(YV<|r2.1-(YV<|bd-bZ)),b.1⟩]:List fk).length) 56)<|ak b.2.1 b.2.2 (c++[⟨r1.1,(YV<|r2.1-(YV<|bd-bZ)),b.1⟩])<|YV<|bZ+1) (NQ n d r1 r2 a v12 c)
def zG(n:Nat)(a:Int)(b:mA)(r1 r2:Int×Int×Int):Nat->Int->Int->(List fk)->Int->Option (b3×Int×Int)
 | 0=>λ_ _ _ _=>none
 |m+1=>HH n a b r1 r2 (zG n a b r1 r2 m)
def HI(c:mA):Option (b3×Int×Int):=(vE n 1 32 c).bind λb=>(vE n 1 1099511627776 ⟨c.s,b.2.1,b.2.2⟩).bind λa=>cond (!decide (a.2.2=0)) (some (⟨b.1,a.1,[]⟩,a.2.1,a.2.2)) ((Hn n a.1).bind λd=>zG n d c b a n a.2.1 a.2.2 [] 0)
def HJ(s:UB)(d b:Int)(a:List b3):Option ((List b3)×Int×Int):=cond (!decide (b=0)) (some ([],0,b)) ((vv n a).bind λc=>cond (!c) (some ([],0,5))<|some (a,d,0))
def HK(r1:Int×Int×Int)(s:UB)(ak:Int->Int->(List b3)->Int->Option ((List b3)×Int×Int))(c v10:Int)(a:List b3)(v12:Int):Option ((List b3)×Int×Int):=cond (cond (decide<|v12<r1.1) (decide<|v10=0) false) ((HI n ⟨s,c,v10⟩).bind λb=>ao (room (a.length+([b.1]:List b3).length) 40)<|ak b.2.1 b.2.2 (a++[b.1])<|YV<|v12+1) (HJ n s c v10 a)
def zH(n:Nat)(r1:Int×Int×Int)(s:UB):Nat->Int->Int->(List b3)->Int->Option ((List b3)×Int×Int)
 | 0=>λ_ _ _ _=>none
 |m+1=>HK n r1 s (zH n r1 s m)
def NR(s:UB)(b:Int):Option ((List b3)×Int×Int):=(p' n s b 32).bind λa=>cond (!decide (a.2.2=0)) (some ([],0,a.2.2)) (zH n a s n a.2.1 0 [] 0)
def C_(a:fQ):Option ((List b3)×Int×Int):=cond (!decide (a.e=0)) (some ([],a.at_,a.e)) ((NR n a.s a.at_).bind λb=>cond (!decide (b.2.2=0)) (some ([],a.at_,b.2.2))<|some (b.1,b.2.1,b.2.2))
def V1(s:UB)(b c:Int):Option (Int×Int×Int):=(p' n s b c).bind λa=>some (a.1,a.2.1,a.2.2)
def zI(p:Int)(a:fQ):Option (Int×Int×Int):=cond (!decide (a.e=0)) (some (0,a.at_,a.e)) ((V1 n a.s a.at_ p).bind λb=>cond (!decide (b.2.2=0)) (some (0,a.at_,b.2.2))<|some (b.1,b.2.1,b.2.2))
def zJ(a:fQ):Option (Int×Int×Int):=cond (!decide (a.e=0)) (some (0,a.at_,a.e)) ((CW n a.s a.at_).bind λb=>cond (!decide (b.2.2=0)) (some (0,a.at_,b.2.2))<|some (b.1,b.2.1,b.2.2))
def V2(s:UB)(b c:Int):Option (UB×Int×Int):=(vy n s b c).bind λa=>some (a.1,a.2.1,a.2.2)
def HL(p:Int)(a:fQ):Option (UB×Int×Int):=cond (!decide (a.e=0)) (some ([],a.at_,a.e)) ((V2 n a.s a.at_ p).bind λb=>cond (!decide (b.2.2=0)) (some ([],a.at_,b.2.2))<|some (b.1,b.2.1,b.2.2))
def Da(a:fQ):Option (Int×Int×Int):=cond (!decide (a.e=0)) (some (0,a.at_,a.e)) ((vx n a.s a.at_).bind λb=>cond (!decide (b.2.2=0)) (some (0,a.at_,b.2.2))<|some (b.1,b.2.1,b.2.2))
def HM(n:Nat)(most:Int):YX:=some most
def xe(d:fQ)(r1:Int×Int×Int)(r26:(List b3)×Int×Int)(r27:dv×Int×Int)(r2:(List aQ)×Int×Int)(v25:List UB)(f b:Int)(e:List be):Option (q0×Int×Int):=(C8 n ⟨d.s,f,b⟩).bind λc=>(Da n ⟨d.s,c.2.1,c.2.2⟩).bind λa=>some (⟨⟨r1.1,⟨0,0,[]⟩,[],r26.1,r27.1,e,c.1,a.1⟩,r2.1,v25⟩,a.2.1,a.2.2)
def HN(d:fQ)(r1:Int×Int×Int)(r26:(List b3)×Int×Int)(r27:dv×Int×Int)(r2:(List aQ)×Int×Int)(v25:List UB)(ff:Int->Int->(List be)->Int->Option (q0×Int×Int))(e nA:Int)(a:List be)(lB:Int):Option (q0×Int×Int):=cond (cond (decide<|0<lB) (decide<|nA=0) false) ((HM n 24).bind λf=>(HL n f ⟨d.s,e,nA⟩).bind λb=>(zJ n ⟨d.s,b.2.1,b.2.2⟩).bind λc=>ao (room (a.length+([⟨b.1,c.1⟩]:List be).length) 24)<|ff c.2.1 c.2.2 (a++[⟨b.1,c.1⟩])<|YV<|lB-1) (xe n d r1 r26 r27 r2 v25 e nA a)
def tQ(n:Nat)(a:fQ)(r1:Int×Int×Int)(r26:(List b3)×Int×Int)(r27:dv×Int×Int)(r2:(List aQ)×Int×Int)(v25:List UB):Nat->Int->Int->(List be)->Int->Option (q0×Int×Int)
 | 0=>λ_ _ _ _=>none
 |m+1=>HN n a r1 r26 r27 r2 v25 (tQ n a r1 r26 r27 r2 v25 m)
def xf(c:fQ)(r1:Int×Int×Int)(r2:(List aQ)×Int×Int)(e d:Int)(v25:List UB):Option (q0×Int×Int):=(C_ n ⟨c.s,e,d⟩).bind λb=>(C2 n ⟨c.s,b.2.1,b.2.2⟩).bind λa=>(CT n 32).bind λg=>(zI n g ⟨c.s,a.2.1,a.2.2⟩).bind λf=>tQ n c r1 b a r2 v25 n f.2.1 f.2.2 [] f.1
def HO(d:fQ)(r1:Int×Int×Int)(r2:(List aQ)×Int×Int)(dL:Int->Int->(List UB)->Int->Option (q0×Int×Int))(a cx:Int)(c:List UB)(bE:Int):Option (q0×Int×Int):=cond (cond (decide<|0<bE) (decide<|cx=0) false) ((HM n 16384).bind λe=>(HL n e ⟨d.s,a,cx⟩).bind λb=>ao (room (c.length+([b.1]:List UB).length) 16)<|dL b.2.1 b.2.2 (c++[b.1])<|YV<|bE-1) (xf n d r1 r2 a cx c)
def xg(n:Nat)(a:fQ)(r1:Int×Int×Int)(r2:(List aQ)×Int×Int):Nat->Int->Int->(List UB)->Int->Option (q0×Int×Int)
 | 0=>λ_ _ _ _=>none
 |m+1=>HO n a r1 r2 (xg n a r1 r2 m)
def HP(a:fQ):Option (q0×Int×Int):=(zJ n a).bind λc=>(CY n ⟨a.s,c.2.1,c.2.2⟩).bind λb=>(CT n 16).bind λe=>(zI n e ⟨a.s,b.2.1,b.2.2⟩).bind λd=>xg n a c b n d.2.1 d.2.2 [] d.1
def NS(n:Nat):Option (UB×Int×Int):=some ([],0,6)
def V3(n:Nat)(b:(List Int)->Int->Option (UB×Int×Int))(s:UB)(a:List Int)(v20:Int):Option (UB×Int×Int):=b a (YV<|v20+1)
def NT(c:(List Int)->Int->Option (UB×Int×Int))(s:UB)(a:List Int)(b bL:Int):Option (UB×Int×Int):=cond (cond (decide<|bL<32) true<|decide<|126<bL) (some ([],0,5)) (cond (decide<|(a.length:Int)=64) (some ([],0,2)) (ao (room (a.length+([bL]:List Int).length) 1)<|V3 n c s (a++[bL]) b))
def V4(s:UB)(b:(List Int)->Int->Option (UB×Int×Int))(a:List Int)(v12:Int):Option (UB×Int×Int):=cond (decide<|v12<(s.length:Int)) (ao (aP v12 s.length)<|cond (decide<|(((s.getD (v12).toNat 0).toNat:Nat):Int)=34) (ao (n0 a)<|some ((jh a),(YV<|v12+1),0))<|cond (decide<|(((s.getD (v12).toNat 0).toNat:Nat):Int)=92) (cond (decide<|(YV<|v12+1)=(s.length:Int)) (NS n) (ao (aP (YV<|v12+1) s.length)<|cond (cond (!decide ((((s.getD ((YV<|v12+1)).toNat 0).toNat:Nat):Int)=34)) (!decide ((((s.getD ((YV<|v12+1)).toNat 0).toNat:Nat):Int)=92)) false) (some ([],0,5))<|NT n b s a (YV<|v12+1) (((s.getD ((YV<|v12+1)).toNat 0).toNat:Nat):Int)))<|NT n b s a v12 (((s.getD (v12).toNat 0).toNat:Nat):Int)) (NS n)
def Dc(n:Nat)(s:UB):Nat->(List Int)->Int->Option (UB×Int×Int)
 | 0=>λ_ _=>none
 |m+1=>V4 n s (Dc n s m)
def V5(s:UB):Option (UB×Int×Int):=Dc n s n [] 1
def V6(s:UB)(c:Int):YX:=(MB n s c).bind λa=>some a
def HQ(s:UB):Option UB:=ao (!(!(decide<|s=[]))||aP 0 s.length)<|(cond (!(decide<|s=[])) (V6 n [40,41,123,125,44,59,58,61,60,62,43,45,42,47,37] (((s.getD 0 0).toNat:Nat):Int))<|some default).bind λa=>cond (cond (!(decide<|s=[])) (decide<|0<=a) false) (ao (hB 1 s.length)<|some<|s.take 1) (some [])
def zL(s:UB)(a:Bool):Option UB:=cond a (ao (hB 2 s.length)<|some<|s.take 2) (HQ n s)
def NU(s:UB):Option UB:=cond (decide<|2<=(s.length:Int)) (ao (hB 2 s.length)<|cond (decide<|(s.take 2)=[61,61]) (zL n s<|decide<|(s.take 2)=[61,61])<|cond (decide<|(s.take 2)=[33,61]) (zL n s<|decide<|(s.take 2)=[33,61])<|cond (decide<|(s.take 2)=[60,61]) (zL n s<|decide<|(s.take 2)=[60,61])<|cond (decide<|(s.take 2)=[62,61]) (zL n s<|decide<|(s.take 2)=[62,61])<|zL n s<|decide<|(s.take 2)=[43,43]) (HQ n s)
def HR(s a:UB)(d:Bool)(v10:Int):Option (Int×Int):=ao ((cond (decide<|v10=0) true<|decide<|v10<(a.length:Int))||aP 0 a.length)<|cond (cond (cond (decide<|v10=0) true<|decide<|v10<(a.length:Int)) true<|cond (decide<|(((a.getD 0 0).toNat:Nat):Int)=48) (cond (decide<|1<v10) true d) false) (some (0,5)) ((Cp n s 10 64).bind λe=>jt.on e (λc=>cond (!true) (some (0,3))<|some (c,0))<|λb=>cond (!false) (some (0,3))<|some (b,0))
def V7(s a:UB)(b:Bool)(c:Int->Option (Int×Int))(bH:Int):Option (Int×Int):=cond (decide<|bH<(a.length:Int)) (ao (aP bH a.length)<|cond (cond (decide<|48<=(((a.getD (bH).toNat 0).toNat:Nat):Int)) (decide<|(((a.getD (bH).toNat 0).toNat:Nat):Int)<=57) false) (c<|YV<|bH+1)<|HR n s a b bH) (HR n s a b bH)
def Dd(n:Nat)(s b:UB)(a:Bool):Nat->Int->Option (Int×Int)
 | 0=>λ_=>none
 |m+1=>V7 n s b a (Dd n s b a m)
def NV(s b:UB)(a:Bool):Option (Int×Int):=Dd n s b a n 0
def NW(s:UB):Option (Int×Int):=ao (!(decide<|0<(s.length:Int))||aP 0 s.length)<|cond (cond (decide<|0<(s.length:Int)) (decide<|(((s.getD 0 0).toNat:Nat):Int)=45) false) (ao (hB 1 s.length)<|NV n s (s.drop 1) true) (NV n s s false)
def NX(w:UB):Option (Bm×Int):=ao (aP 0 w.length)<|cond (decide<|(((w.getD 0 0).toNat:Nat):Int)=95) (some (⟨0,[],0,0⟩,5)) (ao (aP 0 w.length)<|(GY n<|IntKind.i32.wrap (((w.getD 0 0).toNat:Nat):Int)).bind λd=>cond d ((GX n w).bind λc=>cond c (some (⟨2,w,0,0⟩,0))<|(vq n w).bind λb=>cond (!b) (some (⟨0,[],0,0⟩,2))<|some (⟨1,w,0,0⟩,0))<|(NW n w).bind λa=>cond (!decide (a.2=0)) (some (⟨0,[],0,0⟩,a.2))<|some (⟨3,[],a.1,0⟩,0))
def HS(s:UB):Option (Bm×Int×Int):=(Co n s).bind λa=>cond (decide<|0<a) (ao (hB a s.length)<|(NX n<|s.take (a).toNat).bind λc=>some (c.1,a,c.2)) (ao (aP 0 s.length)<|cond (decide<|(((s.getD 0 0).toNat:Nat):Int)=34) ((V5 n s).bind λb=>some (⟨4,b.1,0,0⟩,b.2.1,b.2.2))<|(NU n s).bind λcQ=>cond (decide<|cQ=[]) (some (⟨0,[],0,0⟩,0,5))<|some (⟨5,cQ,0,0⟩,(cQ.length:Int),0))
def NY(s:UB):Option UB:=(MA n s).bind λa=>some a
def HT(n:Nat)(a:List Bm):Option ((List Bm)×Int×Int):=some (a,0,0)
def NZ(ak:(List Bm)->Int->Int->Option ((List Bm)×Int×Int))(src:UB)(d:List Bm)(b dj:Int):Option ((List Bm)×Int×Int):=ao (hB dj src.length)<|(HS n<|src.drop (dj).toNat).bind λa=>cond (!decide (a.2.2=0)) (some ([],b,a.2.2)) ((NY n a.1.Text).bind λc=>ao (room (d.length+([⟨a.1.Cc,c,a.1.N,b⟩]:List Bm).length) 40)<|ak (d++[⟨a.1.Cc,c,a.1.N,b⟩]) b<|YV<|dj+a.2.1)
def afK(n:Nat)(e:(List Bm)->Int->Int->Option ((List Bm)×Int×Int))(a:UB)(d:List Bm)(c b:Int):Option ((List Bm)×Int×Int):=e d c b
def afL(e:(List Bm)->Int->Int->Option ((List Bm)×Int×Int))(a:UB)(d:List Bm)(c:Int)(b:Int->Option ((List Bm)×Int×Int))(v24:Int):Option ((List Bm)×Int×Int):=ao (!(decide<|v24<(a.length:Int))||aP v24 a.length)<|cond (cond (decide<|v24<(a.length:Int)) (!decide ((((a.getD (v24).toNat 0).toNat:Nat):Int)=10)) false) (b<|YV<|v24+1) (afK n e a d c v24)
def V8(n:Nat)(d:(List Bm)->Int->Int->Option ((List Bm)×Int×Int))(a:UB)(c:List Bm)(b:Int):Nat->Int->Option ((List Bm)×Int×Int)
 | 0=>λ_=>none
 |m+1=>afL n d a c b (V8 n d a c b m)
def HU(e:(List Bm)->Int->Int->Option ((List Bm)×Int×Int))(a:UB)(d:List Bm)(c dj:Int)(b:Bool):Option ((List Bm)×Int×Int):=cond b (e d c<|YV<|dj+1) (cond (decide<|(((a.getD (dj).toNat 0).toNat:Nat):Int)=35) (V8 n e a d c n dj)<|NZ n e a d c dj)
def HV(a:UB)(c:(List Bm)->Int->Int->Option ((List Bm)×Int×Int))(b:List Bm)(cB dj:Int):Option ((List Bm)×Int×Int):=cond (decide<|dj<(a.length:Int)) (ao (aP dj a.length)<|cond (decide<|(((a.getD (dj).toNat 0).toNat:Nat):Int)=10) (c b (YV<|cB+1)<|YV<|dj+1)<|cond (decide<|(((a.getD (dj).toNat 0).toNat:Nat):Int)=32) (HU n c a b cB dj<|decide<|(((a.getD (dj).toNat 0).toNat:Nat):Int)=32)<|HU n c a b cB dj<|decide<|(((a.getD (dj).toNat 0).toNat:Nat):Int)=9) (HT n b)
def zM(n:Nat)(a:UB):Nat->(List Bm)->Int->Int->Option ((List Bm)×Int×Int)
 | 0=>λ_ _ _=>none
 |m+1=>HV n a (zM n a m)
def N0(a:UB):Option ((List Bm)×Int×Int):=cond (decide<|16384<(a.length:Int)) (some ([],0,2)) (zM n a n [] 1 0)
def xh(n:Nat)(text:UB)(ag:a_):UM:=cond (decide<|(ag.Fw.length:Int)<=ag.at_) (some false) (ao (aP ag.at_ ag.Fw.length)<|some<|cond (cond (decide<|(yP ag.Fw<|ag.at_).Cc=2) true<|decide<|(yP ag.Fw<|ag.at_).Cc=5) (decide<|((yP ag.Fw<|ag.at_).Text)=text) false)
def l5(text:UB)(ag:a_):Option (Bool×Int):=(xh n text ag).bind λa=>cond (!a) (some (false,ag.at_)) (some (true,(YV<|ag.at_+1)))
def V9(n:Nat)(a:a_):Option (aG Unit Unit):=ao (aP (YV<|(a.Fw.length:Int)-1) a.Fw.length)<|some (.bv (.iface 345<|.agg [.int .i64<|(yP a.Fw<|YV<|(a.Fw.length:Int)-1).m5,.int .i64 6]) ())
def V'(a:a_):Option (aG Unit Unit):=cond (decide<|(a.Fw.length:Int)=0) (some<|.bv (.iface 345<|.agg [.int .i64 1,.int .i64 6]) ()) (V9 n a)
def vH(code:Int)(ag:a_):Option (aG Unit Unit):=cond (decide<|ag.at_<(ag.Fw.length:Int)) (ao (aP ag.at_ ag.Fw.length)<|some<|.bv (.iface 345<|.agg [.int .i64<|(yP ag.Fw<|ag.at_).m5,.int .i64 code]) ()) (V' n ag)
def l6(text:UB)(b:a_):Option (aG Unit Int):=(l5 n text b).bind λa=>cond (!a.1) ((vH n 5 ⟨b.Fw,a.2⟩).bind λd=>aG.on d (λf e=>some<|.ret () a.2)<|λc e=>some<|.bv c a.2) (some<|.ret () a.2)
def tS(s:Bj)(d:a_):Option (aG Bj Int):=(l6 n [59] d).bind λb=>aG.on b (λe a=>some<|.ret s a) (λc a=>some<|.bv c a)
def N1(n:Nat)(ag:a_):Option (Int×Int):=cond (decide<|(ag.Fw.length:Int)<=ag.at_) (some (0,0)) (ao (aP ag.at_ ag.Fw.length)<|cond (cond (!decide ((yP ag.Fw<|ag.at_).Cc=2)) (!decide ((yP ag.Fw<|ag.at_).Cc=5)) false) (some (0,0))<|cond (decide<|((yP ag.Fw<|ag.at_).Text)=[111,114]) (some (1,17))<|cond (decide<|((yP ag.Fw<|ag.at_).Text)=[97,110,100]) (some (2,16))<|cond (decide<|((yP ag.Fw<|ag.at_).Text)=[61,61]) (some (4,10))<|cond (decide<|((yP ag.Fw<|ag.at_).Text)=[33,61]) (some (4,11))<|cond (decide<|((yP ag.Fw<|ag.at_).Text)=[60]) (some (4,12))<|cond (decide<|((yP ag.Fw<|ag.at_).Text)=[60,61]) (some (4,13))<|cond (decide<|((yP ag.Fw<|ag.at_).Text)=[62]) (some (4,14))<|cond (decide<|((yP ag.Fw<|ag.at_).Text)=[62,61]) (some (4,15))<|cond (decide<|((yP ag.Fw<|ag.at_).Text)=[43,43]) (some (5,19))<|cond (decide<|((yP ag.Fw<|ag.at_).Text)=[43]) (some (6,4))<|cond (decide<|((yP ag.Fw<|ag.at_).Text)=[45]) (some (6,5))<|cond (decide<|((yP ag.Fw<|ag.at_).Text)=[42]) (some (7,6))<|cond (decide<|((yP ag.Fw<|ag.at_).Text)=[47]) (some (7,7))<|cond (decide<|((yP ag.Fw<|ag.at_).Text)=[37]) (some (7,8))<|some (0,0))
def N2(n:Nat)(depth:Int)(a:a_):Option (aG Int Unit):=some (.ret (YV<|depth+1) ())
def De(a:Int)(b:a_):Option (aG Int Unit):=cond (decide<|24<=a) ((vH n 2 b).bind λd=>aG.on d (λf c=>N2 n a b)<|λe c=>some<|.bv e ()) (N2 n a b)
def N3(n:Nat)(ag:a_):YX:=ao ((decide<|(ag.Fw.length:Int)<=ag.at_)||aP ag.at_ ag.Fw.length)<|cond (cond (decide<|(ag.Fw.length:Int)<=ag.at_) true<|!decide ((yP ag.Fw<|ag.at_).Cc=2)) (some 0) (ao (aP ag.at_ ag.Fw.length)<|cond (decide<|((yP ag.Fw<|ag.at_).Text)=[116,101,120,116]) (some 20)<|cond (decide<|((yP ag.Fw<|ag.at_).Text)=[108,101,110]) (some 21)<|cond (decide<|((yP ag.Fw<|ag.at_).Text)=[103,101,116,105,110,116]) (some 22)<|cond (decide<|((yP ag.Fw<|ag.at_).Text)=[103,101,116,115,116,114]) (some 23)<|cond (decide<|((yP ag.Fw<|ag.at_).Text)=[104,97,115]) (some 24)<|cond (decide<|((yP ag.Fw<|ag.at_).Text)=[110,111,119]) (some 25)<|cond (decide<|((yP ag.Fw<|ag.at_).Text)=[114,97,110,100,111,109]) (some 26)<|cond (decide<|((yP ag.Fw<|ag.at_).Text)=[110,111,100,101]) (some 27)<|some 0)
def HW(l:Int->Int->a_->Option (aG Bi Int))(p:Int->Int->Int->a_->Option (aG Bi Int))(m:Int->a_->Option (aG Bi Int))(o:Int->a_->Option (aG Bi Int))(level b:Int)(i:a_)(df:Int->Int->Int->UB->(List Bi)->Option (aG Bi Int))(v37 f d:Int)(a:UB)(e:List Bi):Option (aG Bi Int):=(N1 n ⟨i.Fw,v37⟩).bind λg=>cond (!decide (g.1=level)) (some<|.ret ⟨f,d,a,e⟩ v37) ((l (YV<|level+1) b ⟨i.Fw,(YV<|v37+1)⟩).bind λk=>aG.on k (λh c=>cond (decide<|level=4) (some<|.ret ⟨g.2,0,[],[⟨f,d,a,e⟩,h]⟩ c)<|df c g.2 0 [] [⟨f,d,a,e⟩,h])<|λj c=>some<|.bv j c)
def sl(n:Nat)(b:Int->Int->a_->Option (aG Bi Int))(e:Int->Int->Int->a_->Option (aG Bi Int))(c:Int->a_->Option (aG Bi Int))(d:Int->a_->Option (aG Bi Int))(level a:Int)(f:a_):Nat->Int->Int->Int->UB->(List Bi)->Option (aG Bi Int)
 | 0=>λ_ _ _ _ _=>none
 |m+1=>HW n b e c d level a f (sl n b e c d level a f m)
def xi(d:Int->Int->a_->Option (aG Bi Int))(e:Int->Int->Int->a_->Option (aG Bi Int))(k:Int->a_->Option (aG Bi Int))(o:Int->a_->Option (aG Bi Int))(level a:Int)(c:a_):Option (aG Bi Int):=cond (decide<|level=3) ((xh n [110,111,116] c).bind λm=>cond m ((e 18 level a c).bind λz=>aG.on z (λw j=>some<|.ret w j)<|λF j=>some<|.bv F j)<|(d 4 a c).bind λy=>aG.on y (λx i=>some<|.ret x i)<|λE i=>some<|.bv E i) (cond (decide<|level=8) ((xh n [45] c).bind λu=>cond u ((e 9 level a c).bind λr=>aG.on r (λs f=>some<|.ret s f)<|λl f=>some<|.bv l f)<|(k a c).bind λp=>aG.on p (λq h=>some<|.ret q h)<|λB h=>some<|.bv B h)<|(d (YV<|level+1) a c).bind λt=>aG.on t (λb g=>sl n d e k o level a c n g b.Op b.N b.S b.ax)<|λA g=>some<|.bv A g)
def N5(g:Int->Int->a_->Option (aG Bi Int))(m:Int->Int->Int->a_->Option (aG Bi Int))(k:Int->a_->Option (aG Bi Int))(l:Int->a_->Option (aG Bi Int))(op level a:Int)(ag:a_):Option (aG Bi Int):=(De n a ag).bind λe=>aG.on e (λd c=>(g level d ⟨ag.Fw,(YV<|ag.at_+1)⟩).bind λi=>aG.on i (λj b=>some<|.ret ⟨op,0,[],[j]⟩ b)<|λf b=>some<|.bv f b) (λh c=>some<|.bv h ag.at_)
def Wc(l:Int->Int->a_->Option (aG Bi Int))(o:Int->Int->Int->a_->Option (aG Bi Int))(m:Int->a_->Option (aG Bi Int))(j:Int->a_->Option (aG Bi Int))(a r3:Int)(e:a_)(v2:Int):Option (aG Bi Int):=(De n a ⟨e.Fw,v2⟩).bind λc=>aG.on c (λb g=>(j b ⟨e.Fw,(YV<|v2+1)⟩).bind λh=>aG.on h (λi d=>some<|.ret ⟨r3,0,[],[i]⟩ d)<|λf d=>some<|.bv f d) (λk g=>some<|.bv k v2)
def N6(m:Int->Int->a_->Option (aG Bi Int))(p:Int->Int->Int->a_->Option (aG Bi Int))(o:Int->a_->Option (aG Bi Int))(g:Int->a_->Option (aG Bi Int))(a:Int)(d:a_)(b:Int):Option (aG Bi Int):=(De n a ⟨d.Fw,b⟩).bind λk=>aG.on k (λh l=>(g h ⟨d.Fw,b⟩).bind λj=>aG.on j (λi c=>some<|.ret i c)<|λe c=>some<|.bv e c) (λf l=>some<|.bv f b)
def Df(f:Int->Int->a_->Option (aG Bi Int))(i:Int->Int->Int->a_->Option (aG Bi Int))(g:Int->a_->Option (aG Bi Int))(h:Int->a_->Option (aG Bi Int))(b r3:Int)(d:a_)(v2:Int)(k:Bool):Option (aG Bi Int):=cond k ((l6 n [40] ⟨d.Fw,(YV<|v2+1)⟩).bind λe=>aG.on e (λo c=>(l6 n [41] ⟨d.Fw,c⟩).bind λj=>aG.on j (λp a=>some<|.ret ⟨r3,0,[],[]⟩ a)<|λm a=>some<|.bv m a)<|λl c=>some<|.bv l c) (Wc n f i g h b r3 d v2)
def zR(d:Int->Int->a_->Option (aG Bi Int))(g:Int->Int->Int->a_->Option (aG Bi Int))(e:Int->a_->Option (aG Bi Int))(f:Int->a_->Option (aG Bi Int))(a:Int)(c:a_)(b:Int):Option (aG Bi Int):=(N3 n ⟨c.Fw,b⟩).bind λr3=>cond (decide<|r3=0) ((xh n [40] ⟨c.Fw,b⟩).bind λk=>cond (!k) ((vH n 5 ⟨c.Fw,b⟩).bind λi=>aG.on i (λl j=>N6 n d g e f a c b)<|λh j=>some<|.bv h b)<|N6 n d g e f a c b) (cond (decide<|r3=25) (Df n d g e f a r3 c b<|decide<|r3=25)<|cond (decide<|r3=26) (Df n d g e f a r3 c b<|decide<|r3=26)<|Df n d g e f a r3 c b<|decide<|r3=27)
def N7(b:Int->Int->a_->Option (aG Bi Int))(e:Int->Int->Int->a_->Option (aG Bi Int))(c:Int->a_->Option (aG Bi Int))(d:Int->a_->Option (aG Bi Int))(a:Int)(ag:a_):Option (aG Bi Int):=cond (decide<|ag.at_<(ag.Fw.length:Int)) (ao (aP ag.at_ ag.Fw.length)<|cond (decide<|(yP ag.Fw<|ag.at_).Cc=3) (some<|.ret ⟨1,(yP ag.Fw<|ag.at_).N,[],[]⟩<|YV<|ag.at_+1)<|cond (decide<|(yP ag.Fw<|ag.at_).Cc=4) (some<|.ret ⟨2,0,(yP ag.Fw<|ag.at_).Text,[]⟩<|YV<|ag.at_+1)<|cond (decide<|(yP ag.Fw<|ag.at_).Cc=1) (some<|.ret ⟨3,0,(yP ag.Fw<|ag.at_).Text,[]⟩<|YV<|ag.at_+1)<|zR n b e c d a ag<|YV<|(YV<|ag.at_+1)-1) (zR n b e c d a ag ag.at_)
def N8(i:Int->Int->a_->Option (aG Bi Int))(r:Int->Int->Int->a_->Option (aG Bi Int))(p:Int->a_->Option (aG Bi Int))(q:Int->a_->Option (aG Bi Int))(a:Int)(e:a_):Option (aG Bi Int):=(l6 n [40] e).bind λf=>aG.on f (λo b=>(i 1 a ⟨e.Fw,b⟩).bind λk=>aG.on k (λm c=>(l6 n [41] ⟨e.Fw,c⟩).bind λl=>aG.on l (λs d=>some<|.ret m d)<|λg d=>some<|.bv g d)<|λh c=>some<|.bv h c) (λj b=>some<|.bv j b)
def l7:Nat->(Int->Int->a_->Option (aG Bi Int))×(Int->Int->Int->a_->Option (aG Bi Int))×(Int->a_->Option (aG Bi Int))×(Int->a_->Option (aG Bi Int))
 | 0=>(λ_ _ _=>none,λ_ _ _ _=>none,λ_ _=>none,λ_ _=>none)
 |m+1=>(xi m ((l7 m).1) ((l7 m).2.1) ((l7 m).2.2.1)<|(l7 m).2.2.2,N5 m ((l7 m).1) ((l7 m).2.1) ((l7 m).2.2.1)<|(l7 m).2.2.2,N7 m ((l7 m).1) ((l7 m).2.1) ((l7 m).2.2.1)<|(l7 m).2.2.2,N8 m ((l7 m).1) ((l7 m).2.1) ((l7 m).2.2.1)<|(l7 m).2.2.2)
def iZ:Int->Int->a_->Option (aG Bi Int):=(l7 n).1
def qa:Int->Int->Int->a_->Option (aG Bi Int):=(l7 n).2.1
def oI:Int->a_->Option (aG Bi Int):=(l7 n).2.2.1
def qb:Int->a_->Option (aG Bi Int):=(l7 n).2.2.2
def N9(n:Nat)(ag:a_):Option (aG Bm Int):=ao (aP (YV<|(YV<|ag.at_+1)-1) ag.Fw.length)<|some (.ret (yP ag.Fw<|YV<|(YV<|ag.at_+1)-1)<|YV<|ag.at_+1)
def sm(a:Int)(ag:a_):Option (aG Bm Int):=ao ((decide<|(ag.Fw.length:Int)<=ag.at_)||aP ag.at_ ag.Fw.length)<|cond (cond (decide<|(ag.Fw.length:Int)<=ag.at_) true<|!decide ((yP ag.Fw<|ag.at_).Cc=a)) ((vH n 5 ag).bind λb=>aG.on b (λe d=>N9 n ag)<|λc d=>some<|.bv c ag.at_) (N9 n ag)
def Wg(n:Nat)(c:Int->a_->Option (aG (List Bj) Int))(e:Int->a_->Option (aG Bj Int))(d:Int->a_->Option (aG Bj Int))(f:a_)(a:Int)(b:List Bj):Option (aG (List Bj) Int):=some (.ret b a)
def N'(g:Int->a_->Option (aG (List Bj) Int))(d:Int->a_->Option (aG Bj Int))(h:Int->a_->Option (aG Bj Int))(depth:Int)(c:a_)(ff:Int->(List Bj)->Option (aG (List Bj) Int))(j:Int)(dj:List Bj):Option (aG (List Bj) Int):=(l5 n [125] ⟨c.Fw,j⟩).bind λa=>cond (!a.1) ((d (YV<|depth+1) ⟨c.Fw,a.2⟩).bind λi=>aG.on i (λe b=>ao (room (dj.length+([e]:List Bj).length) 192)<|ff b<|dj++[e])<|λf b=>some<|.bv f b) (Wg n g d h c a.2 dj)
def Dg(n:Nat)(b:Int->a_->Option (aG (List Bj) Int))(d:Int->a_->Option (aG Bj Int))(c:Int->a_->Option (aG Bj Int))(a:Int)(e:a_):Nat->Int->(List Bj)->Option (aG (List Bj) Int)
 | 0=>λ_ _=>none
 |m+1=>N' n b d c a e (Dg n b d c a e m)
def N_(d:Int->a_->Option (aG (List Bj) Int))(f:Int->a_->Option (aG Bj Int))(e:Int->a_->Option (aG Bj Int))(a:Int)(c:a_):Option (aG (List Bj) Int):=(l6 n [123] c).bind λg=>aG.on g (λi b=>Dg n d f e a c n b []) (λh b=>some<|.bv h b)
def Oa(c:Int->a_->Option (aG (List Bj) Int))(e:Int->a_->Option (aG Bj Int))(d:Int->a_->Option (aG Bj Int))(a:Int)(b:a_):Option (aG (List Bj) Int):=(xh n [123] b).bind λg=>cond (cond g (decide<|12<a) false) ((vH n 2 b).bind λf=>aG.on f (λj i=>N_ n c e d a b)<|λh i=>some<|.bv h b.at_) (N_ n c e d a b)
def HX(n:Nat)(e:Int->a_->Option (aG (List Bj) Int))(g:Int->a_->Option (aG Bj Int))(f:Int->a_->Option (aG Bj Int))(h:a_)(b:Bi)(a:(List Bj))(d:Int)(c:List Bj):Option (aG Bj Int):=some (.ret ⟨5,[],0,b,⟨0,0,[],[]⟩,a,c⟩ d)
def q_(d:Int->a_->Option (aG (List Bj) Int))(Z:Int->a_->Option (aG Bj Int))(r:Int->a_->Option (aG Bj Int))(b:Int)(a:a_):Option (aG Bj Int):=(l5 n [108,101,116] a).bind λk=>cond k.1 ((sm n 1 ⟨a.Fw,k.2⟩).bind λr3=>aG.on r3 (λbd y=>(l6 n [61] ⟨a.Fw,y⟩).bind λcO=>aG.on cO (λcQ z=>(iZ n 1 0 ⟨a.Fw,z⟩).bind λcL=>aG.on cL (λfW x=>(tS n ⟨1,bd.Text,0,fW,⟨0,0,[],[]⟩,[],[]⟩ ⟨a.Fw,x⟩).bind λeb=>aG.on eb (λeG t=>some<|.ret eG t)<|λzO t=>some<|.bv zO t)<|λWi x=>some<|.bv Wi x)<|λWj z=>some<|.bv Wj z)<|λtR y=>some<|.bv tR y) ((l5 n [112,117,116] ⟨a.Fw,k.2⟩).bind λu=>cond u.1 ((iZ n 1 0 ⟨a.Fw,u.2⟩).bind λfR=>aG.on fR (λdN w=>(l6 n [61] ⟨a.Fw,w⟩).bind λfv=>aG.on fv (λr26 c=>(iZ n 1 0 ⟨a.Fw,c⟩).bind λgi=>aG.on gi (λjy s=>(tS n ⟨3,[],0,dN,jy,[],[]⟩ ⟨a.Fw,s⟩).bind λq5=>aG.on q5 (λK p=>some<|.ret K p)<|λWk p=>some<|.bv Wk p)<|λzS s=>some<|.bv zS s)<|λzT c=>some<|.bv zT c)<|λsn w=>some<|.bv sn w)<|(l5 n [100,101,108,101,116,101] ⟨a.Fw,u.2⟩).bind λl=>cond l.1 ((iZ n 1 0 ⟨a.Fw,l.2⟩).bind λpg=>aG.on pg (λtP m=>(tS n ⟨4,[],0,tP,⟨0,0,[],[]⟩,[],[]⟩ ⟨a.Fw,m⟩).bind λp_=>aG.on p_ (λjI o=>some<|.ret jI o)<|λzN o=>some<|.bv zN o)<|λzU m=>some<|.bv zU m)<|(l5 n [101,109,105,116] ⟨a.Fw,l.2⟩).bind λq=>cond q.1 ((iZ n 1 0 ⟨a.Fw,q.2⟩).bind λq8=>aG.on q8 (λHv j=>(tS n ⟨7,[],0,Hv,⟨0,0,[],[]⟩,[],[]⟩ ⟨a.Fw,j⟩).bind λDb=>aG.on Db (λzK Q=>some<|.ret zK Q)<|λWl Q=>some<|.bv Wl Q)<|λWm j=>some<|.bv Wm j)<|(l5 n [97,98,111,114,116] ⟨a.Fw,q.2⟩).bind λO=>cond O.1 ((sm n 3 ⟨a.Fw,O.2⟩).bind λra=>aG.on ra (λJ P=>(tS n ⟨8,[],J.N,⟨0,0,[],[]⟩,⟨0,0,[],[]⟩,[],[]⟩ ⟨a.Fw,P⟩).bind λHr=>aG.on Hr (λxj g=>some<|.ret xj g)<|λWn g=>some<|.bv Wn g)<|λWo P=>some<|.bv Wo P)<|(l5 n [105,102] ⟨a.Fw,O.2⟩).bind λM=>cond M.1 ((iZ n 1 0 ⟨a.Fw,M.2⟩).bind λH0=>aG.on H0 (λY W=>(d b ⟨a.Fw,W⟩).bind λm9=>aG.on m9 (λX U=>(l5 n [101,108,115,101] ⟨a.Fw,U⟩).bind λf=>cond f.1 ((d b ⟨a.Fw,f.2⟩).bind λsq=>aG.on sq (λxk i=>HX n d Z r a Y X i xk)<|λWp i=>some<|.bv Wp i)<|HX n d Z r a Y X f.2 [])<|λWq U=>some<|.bv Wq U)<|λWr W=>some<|.bv Wr W)<|(l5 n [102,111,114] ⟨a.Fw,M.2⟩).bind λL=>cond L.1 ((r b ⟨a.Fw,L.2⟩).bind λE=>aG.on E (λI T=>some<|.ret I T)<|λWs T=>some<|.bv Ws T)<|(sm n 1 ⟨a.Fw,L.2⟩).bind λCN=>aG.on CN (λzx e=>(l6 n [61] ⟨a.Fw,e⟩).bind λqd=>aG.on qd (λNt S=>(iZ n 1 0 ⟨a.Fw,S⟩).bind λB=>aG.on B (λH R=>(tS n ⟨2,zx.Text,0,H,⟨0,0,[],[]⟩,[],[]⟩ ⟨a.Fw,R⟩).bind λA=>aG.on A (λF h=>some<|.ret F h)<|λWt h=>some<|.bv Wt h)<|λWu R=>some<|.bv Wu R)<|λWv S=>some<|.bv Wv S)<|λWw e=>some<|.bv Ww e)
def Og(w:Int->a_->Option (aG (List Bj) Int))(M:Int->a_->Option (aG Bj Int))(L:Int->a_->Option (aG Bj Int))(c:Int)(a:a_):Option (aG Bj Int):=(sm n 1 a).bind λr=>aG.on r (λq d=>(l6 n [61] ⟨a.Fw,d⟩).bind λI=>aG.on I (λQ j=>(iZ n 1 0 ⟨a.Fw,j⟩).bind λJ=>aG.on J (λF k=>(l6 n [116,111] ⟨a.Fw,k⟩).bind λH=>aG.on H (λO h=>(iZ n 1 0 ⟨a.Fw,h⟩).bind λA=>aG.on A (λx g=>(l6 n [109,97,120] ⟨a.Fw,g⟩).bind λE=>aG.on E (λP i=>(sm n 3 ⟨a.Fw,i⟩).bind λB=>aG.on B (λe b=>(w c ⟨a.Fw,b⟩).bind λy=>aG.on y (λu f=>some<|.ret ⟨6,q.Text,e.N,F,x,u,[]⟩ f)<|λm f=>some<|.bv m f)<|λl b=>some<|.bv l b)<|λp i=>some<|.bv p i)<|λK g=>some<|.bv K g)<|λo h=>some<|.bv o h)<|λs k=>some<|.bv s k)<|λt j=>some<|.bv t j) (λz d=>some<|.bv z d)
def rb:Nat->(Int->a_->Option (aG (List Bj) Int))×(Int->a_->Option (aG Bj Int))×(Int->a_->Option (aG Bj Int))
 | 0=>(λ_ _=>none,λ_ _=>none,λ_ _=>none)
 |m+1=>(Oa m ((rb m).1) ((rb m).2.1)<|(rb m).2.2,q_ m ((rb m).1) ((rb m).2.1)<|(rb m).2.2,Og m ((rb m).1) ((rb m).2.1)<|(rb m).2.2)
def tV:Int->a_->Option (aG (List Bj) Int):=(rb n).1
def zX:Int->a_->Option (aG Bj Int):=(rb n).2.1
def Dh:Int->a_->Option (aG Bj Int):=(rb n).2.2
def Di(n:Nat)(c:a_)(r2:Bm)(a b:Int):Option (aG BM Int):=some (.ret ⟨r2.Text,b⟩ a)
def H8(a:a_):Option (aG BM Int):=(sm n 1 a).bind λh=>aG.on h (λc d=>(l6 n [58] ⟨a.Fw,d⟩).bind λm=>aG.on m (λq g=>(l5 n [105,110,116] ⟨a.Fw,g⟩).bind λf=>cond f.1 (Di n a c f.2 1)<|(l5 n [115,116,114] ⟨a.Fw,f.2⟩).bind λe=>cond e.1 (Di n a c e.2 2)<|(l5 n [98,111,111,108] ⟨a.Fw,e.2⟩).bind λb=>cond b.1 (Di n a c b.2 3)<|(vH n 5 ⟨a.Fw,b.2⟩).bind λk=>aG.on k (λp l=>Di n a c b.2 0)<|λo l=>some<|.bv o b.2)<|λi g=>some<|.bv i g) (λj d=>some<|.bv j d)
def H9(e:a_)(d:Bm)(g:Int)(b:List BM):Option (aG bk Int):=(tV n 0 ⟨e.Fw,g⟩).bind λc=>aG.on c (λh a=>some<|.ret ⟨d.Text,b,h⟩ a) (λf a=>some<|.bv f a)
def Oi(c:a_)(g:Bm)(a:Int)(f:List BM):Option (aG bk Int):=(l6 n [41] ⟨c.Fw,a⟩).bind λe=>aG.on e (λh b=>H9 n c g b f) (λd b=>some<|.bv d b)
def Oj(c:a_)(h:Bm)(ff:Int->(List BM)->Option (aG bk Int))(f:Int)(v28:List BM):Option (aG bk Int):=(l5 n [44] ⟨c.Fw,f⟩).bind λb=>cond b.1 ((H8 n ⟨c.Fw,b.2⟩).bind λg=>aG.on g (λd a=>ao (room (v28.length+([d]:List BM).length) 24)<|ff a<|v28++[d])<|λe a=>some<|.bv e a) (Oi n c h b.2 v28)
def Dj(n:Nat)(b:a_)(a:Bm):Nat->Int->(List BM)->Option (aG bk Int)
 | 0=>λ_ _=>none
 |m+1=>Oj n b a (Dj n b a m)
def H_(a:a_):Option (aG bk Int):=(l6 n [112,114,111,99] a).bind λi=>aG.on i (λr b=>(sm n 1 ⟨a.Fw,b⟩).bind λo=>aG.on o (λh e=>(l6 n [40] ⟨a.Fw,e⟩).bind λp=>aG.on p (λs f=>(l5 n [41] ⟨a.Fw,f⟩).bind λd=>cond (!d.1) ((H8 n ⟨a.Fw,d.2⟩).bind λm=>aG.on m (λg c=>ao (room (([]:List BM).length+([g]:List BM).length) 24)<|Dj n a h n c<|[]++[g])<|λq c=>some<|.bv q c)<|H9 n a h d.2 [])<|λj f=>some<|.bv j f)<|λk e=>some<|.bv k e) (λl b=>some<|.bv l b)
def WB(f:a_)(c:bk):Option (aG Unit<|Int×UB×(List BM)×(List Bj)):=(H_ n f).bind λd=>aG.on d (λb a=>some<|.ret () (a,b.BY,b.Cq,b.BZ)) (λe a=>some<|.bv e (a,c.BY,c.Cq,c.BZ))
def afR(n:Nat)(a:a_):Option (aG Unit Unit):=ao (aP (YV<|(a.Fw.length:Int)-1) a.Fw.length)<|some (.bv (.iface 345<|.agg [.int .i64<|(yP a.Fw<|YV<|(a.Fw.length:Int)-1).m5,.int .i64 6]) ())
def afS(a:a_):Option (aG Unit Unit):=cond (decide<|(a.Fw.length:Int)=0) (some<|.bv (.iface 345<|.agg [.int .i64 1,.int .i64 6]) ()) (afR n a)
def afT(code:Int)(ag:a_):Option (aG Unit Unit):=cond (decide<|ag.at_<(ag.Fw.length:Int)) (ao (aP ag.at_ ag.Fw.length)<|some<|.bv (.iface 345<|.agg [.int .i64<|(yP ag.Fw<|ag.at_).m5,.int .i64 code]) ()) (afS n ag)
def Ok(d:UB)(c:bk):Option (Int×Int×UB×(List BM)×(List Bj)):=(N0 n d).bind λa=>cond (!decide (a.2.2=0)) (some (a.2.1,a.2.2,c.BY,c.Cq,c.BZ)) ((WB n ⟨a.1,0⟩ c).bind λg=>aG.on g (λj pi=>cond (decide<|pi.1<(a.1.length:Int)) ((afT n 5 ⟨a.1,pi.1⟩).bind λf=>aG.on f (λi h=>none)<|λe h=>(L8 345 e).bind λb=>some (b.1,b.2,pi.2.1,pi.2.2.1,pi.2.2.2))<|some (0,0,pi.2.1,pi.2.2.1,pi.2.2.2))<|λe pi=>(L8 345 e).bind λb=>some (b.1,b.2,pi.2.1,pi.2.2.1,pi.2.2.2))
def Ol(n:Nat)(r1:Int×Int×UB×(List BM)×(List Bj))(a:Int):Option (bk×Int×Int):=cond (!decide (a=0)) (some (⟨[],[],[]⟩,r1.1,a)) (some (⟨r1.2.2.1,r1.2.2.2.1,r1.2.2.2.2⟩,0,0))
def Ia(a:UB):Option (bk×Int×Int):=(Ok n a ⟨[],[],[]⟩).bind λr1=>cond (decide<|r1.2.1=0) ((Hd n ⟨r1.2.2.1,r1.2.2.2.1,r1.2.2.2.2⟩).bind λb=>Ol n r1 b) (Ol n r1 r1.2.1)
def WD(n:Nat)(a:List bk):Option ((List bk)×Bool):=some (a,true)
def Om(l:List UB)(ak:Int->(List bk)->Option ((List bk)×Bool))(bH:Int)(bI:List bk):Option ((List bk)×Bool):=cond (decide<|bH<(l.length:Int)) (ao (aP bH l.length)<|(Ia n<|yP l bH).bind λa=>(cond (!(!decide (a.2.2=0))) (w_ n a.1)<|some default).bind λcL=>cond (cond (!decide (a.2.2=0)) true<|!(decide<|cL=(yP l bH))) (some ([],false)) (ao (room (bI.length+([a.1]:List bk).length) 64)<|ak (YV<|bH+1)<|bI++[a.1])) (WD n bI)
def Dk(n:Nat)(l:List UB):Nat->Int->(List bk)->Option ((List bk)×Bool)
 | 0=>λ_ _=>none
 |m+1=>Om n l (Dk n l m)
def Dl(l:List UB):Option ((List bk)×Bool):=Dk n l n 0 []
def WE(n:Nat)(l:List be):UM:=some (decide<|(l.length:Int)<=32)
def On(l:List be)(ak:Int->UM)(v5:Int):UM:=cond (decide<|v5<(l.length:Int)) (ao (aP v5 l.length)<|(w7 n<|(yP l v5).Key).bind λa=>ao ((cond (cond (!a) true<|decide<|(yP l v5).Count<1) true<|decide<|1099511627776<(yP l v5).Count)||(!(decide<|0<v5)||aP (YV<|v5-1) l.length))<|cond (cond (cond (cond (!a) true<|decide<|(yP l v5).Count<1) true<|decide<|1099511627776<(yP l v5).Count) true<|cond (decide<|0<v5) (!(Op.bytesLess ((yP l<|YV<|v5-1).Key)<|(yP l v5).Key)) false) (some false)<|ak<|YV<|v5+1) (WE n l)
def Dm(n:Nat)(l:List be):Nat->Int->UM
 | 0=>λ_=>none
 |m+1=>On n l (Dm n l m)
def Oo(l:List be):UM:=Dm n l n 0
def WF(n:Nat):UM:=some true
def Oq(l:List bk)(ak:Int->UM)(v6:Int):UM:=cond (decide<|v6<(l.length:Int)) (ao (aP v6 l.length)<|(w_ n<|yP l v6).bind λcQ=>ao ((cond (decide<|cQ=[]) true<|decide<|16384<(cQ.length:Int))||(!(decide<|0<v6)||aP (YV<|v6-1) l.length))<|cond (cond (cond (decide<|cQ=[]) true<|decide<|16384<(cQ.length:Int)) true<|cond (decide<|0<v6) ((Op.bytesLess ((yP l v6).BY)<|(yP l<|YV<|v6-1).BY)||(decide<|((yP l v6).BY)=((yP l<|YV<|v6-1).BY))) false) (some false)<|ak<|YV<|v6+1) (WF n)
def Dn(n:Nat)(l:List bk):Nat->Int->UM
 | 0=>λ_=>none
 |m+1=>Oq n l (Dn n l m)
def Ot(l:List bk):UM:=cond (decide<|16<(l.length:Int)) (some false) (Dn n l n 0)
def WG(b:bK):UM:=(vv n b.b7).bind λa=>(cond a (HD n b.EG)<|some default).bind λc=>(cond (cond a c false) (Oo n b.be)<|some default).bind λd=>some (cond (cond a c false) d false)
def Ou(a:bK)(ak:Int->UM)(bH:Int):UM:=cond (decide<|bH<(a.EK.length:Int)) (ao (aP bH a.EK.length)<|(p5 n<|yP a.EK bH).bind λb=>cond (!decide (b=0)) (some false)<|ak<|YV<|bH+1) (WG n a)
def zY(n:Nat)(a:bK):Nat->Int->UM
 | 0=>λ_=>none
 |m+1=>Ou n a (zY n a m)
def tW(ae:bK):UM:=(cond (!(cond (decide<|ae.Pos<0) true<|decide<|1099511627776<ae.Pos)) (vr n ae.aq)<|some default).bind λa=>(cond (!(cond (cond (cond (decide<|ae.Pos<0) true<|decide<|1099511627776<ae.Pos) true<|!a) true<|!decide (ae.aq.bi=ae.Pos))) (Ot n ae.bY)<|some default).bind λb=>cond (cond (cond (cond (cond (cond (decide<|ae.Pos<0) true<|decide<|1099511627776<ae.Pos) true<|!a) true<|!decide (ae.aq.bi=ae.Pos)) true<|!b) true<|decide<|64<(ae.EK.length:Int)) (some false) (zY n ae n 0)
def WH(n:Nat)(a:Int)(b:List Row):Option (aq×Int):=some (⟨a,a,b⟩,0)
def Ov(a:Int)(l:List aQ)(ak:(List Row)->Int->Option (aq×Int))(b:List Row)(bI:Int):Option (aq×Int):=cond (decide<|bI<(l.length:Int)) (ao (aP bI l.length)<|ao (room (b.length+([⟨(yP l bI).Key,[⟨a,((yP l bI).aY)⟩]⟩]:List Row).length) 40)<|ak (b++[⟨(yP l bI).Key,[⟨a,((yP l bI).aY)⟩]⟩])<|YV<|bI+1) (WH n a b)
def Do(n:Nat)(a:Int)(l:List aQ):Nat->(List Row)->Int->Option (aq×Int)
 | 0=>λ_ _=>none
 |m+1=>Ov n a l (Do n a l m)
def zZ(l:List aQ)(at_:Int):Option (aq×Int):=(Hw n l).bind λa=>cond (cond (cond (!a) true<|decide<|at_<0) true<|decide<|1099511627776<at_) (some (⟨0,0,[]⟩,1)) (Do n at_ l n [] 0)
def Ib(s:UB):Option (bK×Int):=(HP n ⟨s,0,0⟩).bind λr1=>cond (!decide (r1.2.2=0)) (some (⟨0,⟨0,0,[]⟩,[],[],⟨0,[]⟩,[],[],0⟩,r1.2.2)) (cond (cond (cond (!decide (r1.2.1=(s.length:Int))) true<|decide<|r1.1.g_.Pos<0) true<|decide<|1099511627776<r1.1.g_.Pos) (some (⟨0,⟨0,0,[]⟩,[],[],⟨0,[]⟩,[],[],0⟩,5))<|(Dl n r1.1.sources).bind λb=>cond (!b.2) (some (⟨0,⟨0,0,[]⟩,[],[],⟨0,[]⟩,[],[],0⟩,5))<|(zZ n r1.1.aEo r1.1.g_.Pos).bind λa=>cond (!decide (a.2=0)) (some (⟨0,⟨0,0,[]⟩,[],[],⟨0,[]⟩,[],[],0⟩,5))<|(tW n ⟨r1.1.g_.Pos,a.1,b.1,r1.1.g_.b7,r1.1.g_.EG,r1.1.g_.be,r1.1.g_.EK,r1.1.g_.cN⟩).bind λc=>cond (!c) (some (⟨0,⟨0,0,[]⟩,[],[],⟨0,[]⟩,[],[],0⟩,5))<|some (⟨r1.1.g_.Pos,a.1,b.1,r1.1.g_.b7,r1.1.g_.EG,r1.1.g_.be,r1.1.g_.EK,r1.1.g_.cN⟩,0))
def Dp(b:bK):Option (bK×Int):=(tW n b).bind λd=>cond (!d) (some (⟨0,⟨0,0,[]⟩,[],[],⟨0,[]⟩,[],[],0⟩,1)) ((vw n b).bind λc=>(Ib n c).bind λa=>some (a.1,a.2))
def Ic(a:bK):Option (ej×Int):=(Dp n a).bind λb=>cond (!decide (b.2=0)) (some (⟨0,⟨0,⟨0,0,[]⟩,[],[],⟨0,[]⟩,[],[],0⟩,[],false,[],[]⟩,1)) (some (⟨a.Pos,⟨a.Pos,⟨0,0,[]⟩,a.bY,a.b7,a.EG,a.be,a.EK,a.cN⟩,[],false,[],[]⟩,0))
def Ie(b:bK):Option (UB×Int):=(tW n b).bind λc=>cond (!c) (some ([],1)) ((vw n b).bind λa=>cond (decide<|16384<(a.length:Int)) (some ([],2))<|some (a,0))
def If(n:Nat)(a:List Int):YX:=some (a.length:Int)
def WI(c:ej)(a:List Int):Option (UB×Int×Int):=(If n a).bind λd=>cond (cond (decide<|16384<d) true<|decide<|(YV<|1099511627776-c.br)<(c.dg.length:Int)) (some ([],0,2)) ((tJ n a).bind λb=>some (b.1,(YV<|c.br+(c.dg.length:Int)),0))
def WJ(c:ej)(f:(List Int)->Int->Option (UB×Int×Int))(a:List Int)(bL:Int):Option (UB×Int×Int):=cond (decide<|bL<(c.dg.length:Int)) (ao (aP bL c.dg.length)<|(cond (!(decide<|4096<(((yP c.dg bL).length:Nat):Int))) (If n a)<|some default).bind λb=>cond (cond (decide<|4096<(((yP c.dg bL).length:Nat):Int)) true<|decide<|16384<b) (some ([],0,2))<|(p6 n<|yP c.dg bL).bind λe=>(kK n e a).bind λd=>f d.2<|YV<|bL+1) (WI n c a)
def Ig(n:Nat)(c:ej):Nat->(List Int)->Int->Option (UB×Int×Int)
 | 0=>λ_ _=>none
 |m+1=>WJ n c (Ig n c m)
def Dq(c:ej):Option (UB×Int×Int):=cond (!c.dO) (some ([],0,16)) ((zZ n c.fg c.br).bind λa=>cond (!decide (a.2=0)) (some ([],0,a.2))<|(Ie n ⟨c.Fa.Pos,a.1,c.Fa.bY,c.Fa.b7,c.Fa.EG,c.Fa.be,c.Fa.EK,c.Fa.cN⟩).bind λb=>cond (!decide (b.2=0)) (some ([],0,b.2)) ((p6 n b.1).bind λbq=>(iL n<|IntKind.u64.wrap (c.dg.length:Int)).bind λd=>ao (bF<|bq.length+d.length)<|(kK n (bq++d) []).bind λe=>Ig n c n e.2 0))
def Ow(n:Nat)(s:List aQ):Option (List aQ):=ao (room (([]:List aQ).length+s.length) 48)<|some ([]++s)
def Ox(n:Nat)(s:List UB):Option (List UB):=ao (room (([]:List UB).length+s.length) 16)<|some ([]++s)
def Ih(c:ej):Option ej:=(Ow n c.fg).bind λb=>(Ox n c.dg).bind λa=>some ⟨c.br,c.Fa,c.Next,c.dO,b,a⟩
def Ii(c:ej)(data:UB):Option ej:=(Ih n c).bind λa=>ao (room (a.dg.length+([data]:List UB).length) 16)<|some ⟨a.br,a.Fa,a.Next,a.dO,a.fg,(a.dg++[data])⟩
def WK(n:Nat)(r1:UB×Int×Int)(b:UB)(a:Int):Option (UB×Int×Int):=some (r1.1,r1.2.2,a)
def z1(most:Int)(a:UB)(b:Int):Option (UB×Int×Int):=(vy n a b most).bind λr1=>cond (decide<|r1.2.2=0) (WK n r1 a r1.2.1) (WK n r1 a b)
def Ij(s:UB):Option (bK×Int):=cond (decide<|16384<(s.length:Int)) (some (⟨0,⟨0,0,[]⟩,[],[],⟨0,[]⟩,[],[],0⟩,2)) ((Ib n s).bind λa=>some (a.1,a.2))
def Oy(n:Nat)(d:Int×Int×Int)(s:UB)(c:bK×Int)(b:Int)(a:List UB):Option (bK×(List UB)×Int):=cond (cond (!decide (b=(s.length:Int))) true<|decide<|(YV<|1099511627776-c.1.Pos)<d.1) (some (⟨0,⟨0,0,[]⟩,[],[],⟨0,[]⟩,[],[],0⟩,[],5)) (some (c.1,a,0))
def Oz(d:Int×Int×Int)(s:UB)(e:bK×Int)(ak:Int->(List UB)->Int->Option (bK×(List UB)×Int))(c:Int)(b:List UB)(bE:Int):Option (bK×(List UB)×Int):=cond (decide<|bE<d.1) ((z1 n 4096 s c).bind λa=>cond (!decide (a.2.1=0)) (some (⟨0,⟨0,0,[]⟩,[],[],⟨0,[]⟩,[],[],0⟩,[],a.2.1)) (ao (room (b.length+([a.1]:List UB).length) 16)<|ak a.2.2 (b++[a.1])<|YV<|bE+1)) (Oy n d s e c b)
def z6(n:Nat)(a:Int×Int×Int)(s:UB)(b:bK×Int):Nat->Int->(List UB)->Int->Option (bK×(List UB)×Int)
 | 0=>λ_ _ _=>none
 |m+1=>Oz n a s b (z6 n a s b m)
def Ik(s:UB):Option (bK×(List UB)×Int):=cond (decide<|16384<(s.length:Int)) (some (⟨0,⟨0,0,[]⟩,[],[],⟨0,[]⟩,[],[],0⟩,[],2)) ((z1 n 16384 s 0).bind λa=>cond (!decide (a.2.1=0)) (some (⟨0,⟨0,0,[]⟩,[],[],⟨0,[]⟩,[],[],0⟩,[],a.2.1))<|(Ij n a.1).bind λc=>cond (!decide (c.2=0)) (some (⟨0,⟨0,0,[]⟩,[],[],⟨0,[]⟩,[],[],0⟩,[],c.2))<|(p' n s a.2.2 16384).bind λb=>cond (!decide (b.2.2=0)) (some (⟨0,⟨0,0,[]⟩,[],[],⟨0,[]⟩,[],[],0⟩,[],b.2.2))<|z6 n b s c n b.2.1 [] 0)
def WL(n:Nat)(c:Int):UM:=some (cond (decide<|33<=c) (decide<|c<=126) false)
def WM(n:Nat):UM:=some true
def OA(s:UB)(ak:Int->UM)(v5:Int):UM:=cond (decide<|v5<(s.length:Int)) (ao (aP v5 s.length)<|(WL n (((s.getD (v5).toNat 0).toNat:Nat):Int)).bind λa=>cond (!a) (some false)<|ak<|YV<|v5+1) (WM n)
def Dr(n:Nat)(s:UB):Nat->Int->UM
 | 0=>λ_=>none
 |m+1=>OA n s (Dr n s m)
def WN(s:UB):UM:=cond (decide<|24<(s.length:Int)) (some false) (Dr n s n 0)
def Il(s:UB):UM:=(WN n s).bind λa=>some a
def Ds(ae:Range):UM:=(Il n ae.ee).bind λa=>(cond a (Il n ae.qZ)<|some default).bind λb=>some (cond (cond a b false) (cond (decide<|ae.qZ=[]) true<|!((Op.bytesLess ae.qZ ae.ee)||(decide<|ae.qZ=ae.ee))) false)
def OB(ae:Range)(k:UB):UM:=(Ds n ae).bind λa=>some (cond (cond a ((Op.bytesLess ae.ee k)||(decide<|ae.ee=k)) false) (cond (decide<|ae.qZ=[]) true<|Op.bytesLess k ae.qZ) false)
def WO(n:Nat)(a:List aQ):Option ((List aQ)×UB×Int):=some (a,[],0)
def Im(n:Nat)(b:(List aQ)->Int->Option ((List aQ)×UB×Int))(most:Int)(r3:(List aQ)×Int)(v12:Int)(c:Range)(a:List aQ):Option ((List aQ)×UB×Int):=b a (YV<|v12+1)
def WP(most:Int)(r3:(List aQ)×Int)(a:Range)(b:(List aQ)->Int->Option ((List aQ)×UB×Int))(v11:List aQ)(v12:Int):Option ((List aQ)×UB×Int):=cond (decide<|v12<(r3.1.length:Int)) (ao (aP v12 r3.1.length)<|(OB n a<|(yP r3.1 v12).Key).bind λc=>cond (!c) (Im n b most r3 v12 a v11)<|cond (decide<|most<=(v11.length:Int)) (some (v11,(yP r3.1 v12).Key,0)) (ao (room (v11.length+([(yP r3.1 v12)]:List aQ).length) 48)<|Im n b most r3 v12 a<|v11++[(yP r3.1 v12)])) (WO n v11)
def In(n:Nat)(most:Int)(r3:(List aQ)×Int)(a:Range):Nat->(List aQ)->Int->Option ((List aQ)×UB×Int)
 | 0=>λ_ _=>none
 |m+1=>WP n most r3 a (In n most r3 a m)
def OC(s:aq)(b:Int)(c:Range)(most:Int):Option ((List aQ)×UB×Int):=(Ds n c).bind λd=>cond (!d) (some ([],[],1)) ((tH n s b).bind λa=>cond (!decide (a.2=0)) (some ([],[],a.2))<|In n most a c n [] 0)
def z7(c:ej)(s:aq)(ev:Int):Option (ej×Int):=(cond (!(decide<|ev<1)) (vr n s)<|some default).bind λb=>(cond (!(cond (decide<|ev<1) true<|!b)) (Ds n ⟨c.Next,[]⟩)<|some default).bind λd=>cond (cond (cond (decide<|ev<1) true<|!b) true<|!d) (some (⟨0,⟨0,⟨0,0,[]⟩,[],[],⟨0,[]⟩,[],[],0⟩,[],false,[],[]⟩,1)) ((Ih n c).bind λa=>cond c.dO (some (a,0))<|(OC n s c.br ⟨c.Next,[]⟩ ev).bind λbq=>cond (!decide (bq.2.2=0)) (some (⟨0,⟨0,⟨0,0,[]⟩,[],[],⟨0,[]⟩,[],[],0⟩,[],false,[],[]⟩,bq.2.2)) (ao (room (a.fg.length+bq.1.length) 48)<|some (⟨a.br,a.Fa,bq.2.1,(decide<|bq.2.1=[]),(a.fg++bq.1),a.dg⟩,0)))
def OD(a b:bK):UM:=(tW n a).bind λc=>(cond c (tW n b)<|some default).bind λd=>(cond (cond c d false) (vw n a)<|some default).bind λr3=>(cond (cond c d false) (vw n b)<|some default).bind λe=>some (cond (cond c d false) (decide<|r3=e) false)
def WQ(n:Nat):UM:=some true
def OE(s:aq)(ak:Int->UM)(v4:Int):UM:=cond (decide<|v4<(s.Rows.length:Int)) (ao (aP v4 s.Rows.length)<|cond (decide<|40<((((yP s.Rows v4).aR).length:Nat):Int)) (some false)<|ak<|YV<|v4+1) (WQ n)
def Dt(n:Nat)(s:aq):Nat->Int->UM
 | 0=>λ_=>none
 |m+1=>OE n s (Dt n s m)
def Io(s:aq):UM:=cond (decide<|60<(s.Rows.length:Int)) (some false) (Dt n s n 0)
def OF(n:Nat)(b:Bi->Int->YX)(a:Int):YX:=some a
def OG(a:Bi->Int->YX)(most:Int)(e:Bi)(c:Int->Int->YX)(v5 v6:Int):YX:=cond (cond (decide<|v6<(e.ax.length:Int)) (decide<|v5<=most) false) (ao (aP v6 e.ax.length)<|(a (yP e.ax v6)<|YV<|most-v5).bind λb=>c (YV<|v5+b)<|YV<|v6+1) (OF n a v5)
def Du(n:Nat)(a:Bi->Int->YX)(most:Int)(e:Bi):Nat->Int->Int->YX
 | 0=>λ_ _=>none
 |m+1=>OG n a most e (Du n a most e m)
def OH(a:Bi->Int->YX)(e:Bi)(most:Int):YX:=Du n a most e n (YV<|1+(YV<|Int.tdiv (e.S.length:Int) 64)) 0
def tX:Nat->Bi->Int->YX
 | 0=>λ_ _=>none
 |m+1=>OH m (tX m)
def WR(n:Nat)(a:(List Bj)->Int->YX)(v25:Int):YX:=some v25
def WS(b:(List Bj)->Int->YX)(l:List Bj)(most:Int)(f:Int->Int->YX)(v12 cx:Int):YX:=cond (cond (decide<|cx<(l.length:Int)) (decide<|v12<=most) false) (ao (aP cx l.length)<|ao (aP cx l.length)<|(tX n ((yP l cx).A)<|YV<|most-(YV<|(YV<|v12+1)+(YV<|Int.tdiv ((((yP l cx).BY).length:Nat):Int) 64))).bind λa=>ao (aP cx l.length)<|(tX n ((yP l cx).B)<|YV<|most-(YV<|(YV<|(YV<|v12+1)+(YV<|Int.tdiv ((((yP l cx).BY).length:Nat):Int) 64))+a)).bind λc=>ao (aP cx l.length)<|(b ((yP l cx).BZ)<|YV<|most-(YV<|(YV<|(YV<|(YV<|v12+1)+(YV<|Int.tdiv ((((yP l cx).BY).length:Nat):Int) 64))+a)+c)).bind λd=>ao (aP cx l.length)<|(b ((yP l cx).b0)<|YV<|most-(YV<|(YV<|(YV<|(YV<|(YV<|v12+1)+(YV<|Int.tdiv ((((yP l cx).BY).length:Nat):Int) 64))+a)+c)+d)).bind λe=>f (YV<|(YV<|(YV<|(YV<|(YV<|(YV<|v12+1)+(YV<|Int.tdiv ((((yP l cx).BY).length:Nat):Int) 64))+a)+c)+d)+e)<|YV<|cx+1) (WR n b v12)
def Ip(n:Nat)(a:(List Bj)->Int->YX)(l:List Bj)(most:Int):Nat->Int->Int->YX
 | 0=>λ_ _=>none
 |m+1=>WS n a l most (Ip n a l most m)
def WT(a:(List Bj)->Int->YX)(l:List Bj)(most:Int):YX:=Ip n a l most n 0 0
def Dv:Nat->(List Bj)->Int->YX
 | 0=>λ_ _=>none
 |m+1=>WT m (Dv m)
def WU(most:Int)(p:bk):UM:=(Dv n p.BZ most).bind λcO=>some (decide<|cO<=most)
def WV(most:Int)(p:bk)(ak:Int->UM)(v4:Int):UM:=cond (decide<|v4<(p.Cq.length:Int)) (ao (aP v4 p.Cq.length)<|cond (decide<|200<((((yP p.Cq v4).BY).length:Nat):Int)) (some false)<|ak<|YV<|v4+1) (WU n most p)
def Iq(n:Nat)(most:Int)(p:bk):Nat->Int->UM
 | 0=>λ_=>none
 |m+1=>WV n most p (Iq n most p m)
def Ir(p:bk)(most:Int):UM:=cond (cond (decide<|40<(p.Cq.length:Int)) true<|decide<|200<(p.BY.length:Int)) (some false) (Iq n most p n 0)
def WW(n:Nat):UM:=some true
def OI(f:hQ)(ff:Int->UM)(v9:Int):UM:=cond (decide<|v9<(f.cp.length:Int)) (ao (aP v9 f.cp.length)<|cond (decide<|100<(((yP f.cp v9).length:Nat):Int)) (some false)<|ff<|YV<|v9+1) (WW n)
def z8(n:Nat)(f:hQ):Nat->Int->UM
 | 0=>λ_=>none
 |m+1=>OI n f (z8 n f m)
def WX(f:hQ):UM:=z8 n f n 0
def OJ(f:hQ)(dL:Int->UM)(v4:Int):UM:=cond (decide<|v4<(f.Reads.length:Int)) (ao (aP v4 f.Reads.length)<|cond (decide<|100<(((yP f.Reads v4).length:Nat):Int)) (some false)<|dL<|YV<|v4+1) (WX n f)
def Dw(n:Nat)(f:hQ):Nat->Int->UM
 | 0=>λ_=>none
 |m+1=>OJ n f (Dw n f m)
def z'(f:hQ)(most:Int):UM:=cond (cond (decide<|most<(f.Reads.length:Int)) true<|decide<|most<(f.cp.length:Int)) (some false) (Dw n f n 0)
def WY(n:Nat):UM:=some true
def OK(a:BE)(ak:Int->UM)(v5:Int):UM:=cond (decide<|v5<(a.ax.length:Int)) (ao (aP v5 a.ax.length)<|cond (decide<|300<((((yP a.ax v5).S).length:Nat):Int)) (some false)<|ak<|YV<|v5+1) (WY n)
def Dx(n:Nat)(a:BE):Nat->Int->UM
 | 0=>λ_=>none
 |m+1=>OK n a (Dx n a m)
def Is(a:BE):UM:=(cond (!(cond (decide<|300<(a.bk.length:Int)) true<|decide<|40<(a.ax.length:Int))) (z' n a.bM 100)<|some default).bind λb=>cond (cond (cond (decide<|300<(a.bk.length:Int)) true<|decide<|40<(a.ax.length:Int)) true<|!b) (some false) (Dx n a n 0)
def WZ(n:Nat):UM:=some true
def OL(a:bK)(dL:Int->UM)(cB:Int):UM:=cond (decide<|cB<(a.EK.length:Int)) (ao (aP cB a.EK.length)<|(Is n<|yP a.EK cB).bind λb=>cond (!b) (some false)<|dL<|YV<|cB+1) (WZ n)
def z_(n:Nat)(a:bK):Nat->Int->UM
 | 0=>λ_=>none
 |m+1=>OL n a (z_ n a m)
def W0(a:bK):UM:=z_ n a n 0
def OM(a:bK)(vI:Int->UM)(v12:Int):UM:=cond (decide<|v12<(a.b7.length:Int)) (ao (aP v12 a.b7.length)<|cond (decide<|20<((((yP a.b7 v12).ce).length:Nat):Int)) (some false)<|vI<|YV<|v12+1) (W0 n a)
def Aa(n:Nat)(a:bK):Nat->Int->UM
 | 0=>λ_=>none
 |m+1=>OM n a (Aa n a m)
def W2(a:bK):UM:=Aa n a n 0
def ON(a:bK)(tN:Int->UM)(v6:Int):UM:=cond (decide<|v6<(a.bY.length:Int)) (ao (aP v6 a.bY.length)<|(Ir n (yP a.bY v6) 600).bind λb=>cond (!b) (some false)<|tN<|YV<|v6+1) (W2 n a)
def Dy(n:Nat)(a:bK):Nat->Int->UM
 | 0=>λ_=>none
 |m+1=>ON n a (Dy n a m)
def It(a:bK):UM:=(Io n a.aq).bind λb=>cond (cond (cond (cond (cond (cond (!b) true<|decide<|16<(a.bY.length:Int)) true<|decide<|10<(a.b7.length:Int)) true<|decide<|40<(a.be.length:Int)) true<|decide<|70<(a.EK.length:Int)) true<|decide<|40<(a.EG.aI.length:Int)) (some false) (Dy n a n 0)
def OO(n:Nat)(k:UB):Option aQ:=some ⟨k,⟨1,1,[]⟩⟩
def afU(n:Nat):UM:=some true
def W3(s:UB)(ak:Int->UM)(v5:Int):UM:=cond (decide<|v5<(s.length:Int)) (ao (aP v5 s.length)<|ao ((decide<|(((s.getD (v5).toNat 0).toNat:Nat):Int)<32)||aP v5 s.length)<|cond (cond (decide<|(((s.getD (v5).toNat 0).toNat:Nat):Int)<32) true<|decide<|126<(((s.getD (v5).toNat 0).toNat:Nat):Int)) (some false)<|ak<|YV<|v5+1) (afU n)
def Iu(n:Nat)(s:UB):Nat->Int->UM
 | 0=>λ_=>none
 |m+1=>W3 n s (Iu n s m)
def OP(s:UB):UM:=cond (decide<|64<(s.length:Int)) (some false) (Iu n s n 0)
def xl(v:bJ):UM:=cond (decide<|v.Cc=0) (some<|cond (decide<|v.N=0) (decide<|v.S=[]) false) (cond (decide<|v.Cc=1) (some<|decide<|v.S=[])<|(cond (cond (decide<|v.Cc=2) (decide<|v.N=0) false) (OP n v.S)<|some default).bind λa=>some<|cond (cond (decide<|v.Cc=2) (decide<|v.N=0) false) a false)
def W4(n:Nat)(k:UB):UM:=some (cond (decide<|1<=(k.length:Int)) (decide<|(k.length:Int)<=24) false)
def OQ(k:UB)(ak:Int->UM)(v3:Int):UM:=cond (decide<|v3<(k.length:Int)) (ao (aP v3 k.length)<|cond (cond (cond (cond (cond (cond (cond (decide<|(((k.getD (v3).toNat 0).toNat:Nat):Int)<97) true<|decide<|122<(((k.getD (v3).toNat 0).toNat:Nat):Int)) (cond (decide<|(((k.getD (v3).toNat 0).toNat:Nat):Int)<48) true<|decide<|57<(((k.getD (v3).toNat 0).toNat:Nat):Int)) false) (!decide ((((k.getD (v3).toNat 0).toNat:Nat):Int)=47)) false) (!decide ((((k.getD (v3).toNat 0).toNat:Nat):Int)=46)) false) (!decide ((((k.getD (v3).toNat 0).toNat:Nat):Int)=95)) false) (!decide ((((k.getD (v3).toNat 0).toNat:Nat):Int)=45)) false) (some false)<|ak<|YV<|v3+1) (W4 n k)
def Dz(n:Nat)(k:UB):Nat->Int->UM
 | 0=>λ_=>none
 |m+1=>OQ n k (Dz n k m)
def Ac(k:UB):UM:=Dz n k n 0
def OR(n:Nat):UM:=some true
def DA(l:List aQ)(ak:Int->UM)(v6:Int):UM:=cond (decide<|v6<(l.length:Int)) (ao (aP v6 l.length)<|(Ac n<|(yP l v6).Key).bind λa=>ao ((!a)||(!(decide<|0<v6)||aP v6 l.length))<|ao ((!a)||(!(decide<|0<v6)||aP (YV<|v6-1) l.length))<|cond (cond (!a) true<|cond (decide<|0<v6) ((Op.bytesLess ((yP l v6).Key)<|(yP l<|YV<|v6-1).Key)||(decide<|((yP l v6).Key)=((yP l<|YV<|v6-1).Key))) false) (some false)<|ak<|YV<|v6+1) (OR n)
def vJ(n:Nat)(l:List aQ):Nat->Int->UM
 | 0=>λ_=>none
 |m+1=>DA n l (vJ n l m)
def DB(l:List aQ):UM:=vJ n l n 0
def OS(l:List aQ):UM:=(DB n l).bind λa=>some a
def DC(l:List aQ)(ak:Int->UM)(v4:Int):UM:=cond (decide<|v4<(l.length:Int)) (ao (aP v4 l.length)<|(xl n<|(yP l v4).aY).bind λa=>cond (!a) (some false)<|ak<|YV<|v4+1) (OS n l)
def vK(n:Nat)(l:List aQ):Nat->Int->UM
 | 0=>λ_=>none
 |m+1=>DC n l (vK n l m)
def xm(l:List aQ):UM:=vK n l n 0
def W5(l:List aQ):UM:=(xm n l).bind λa=>some a
def OT(l:List aQ)(ak:Int->UM)(v3:Int):UM:=cond (decide<|v3<(l.length:Int)) (ao (aP v3 l.length)<|cond (decide<|((yP l v3).aY).Cc=0) (some false)<|ak<|YV<|v3+1) (W5 n l)
def DD(n:Nat)(l:List aQ):Nat->Int->UM
 | 0=>λ_=>none
 |m+1=>OT n l (DD n l m)
def OU(l:List aQ):UM:=DD n l n 0
def W6(n:Nat)(a:Int)(b:List Row):Option (aq×Int):=some (⟨a,a,b⟩,0)
def OV(l:List aQ)(a:Int)(ak:(List Row)->Int->Option (aq×Int))(b:List Row)(v9:Int):Option (aq×Int):=cond (decide<|v9<(l.length:Int)) (ao (aP v9 l.length)<|ao (aP v9 l.length)<|ao (room (b.length+([⟨(yP l v9).Key,[⟨a,((yP l v9).aY)⟩]⟩]:List Row).length) 40)<|ak (b++[⟨(yP l v9).Key,[⟨a,((yP l v9).aY)⟩]⟩])<|YV<|v9+1) (W6 n a b)
def DE(n:Nat)(l:List aQ)(a:Int):Nat->(List Row)->Int->Option (aq×Int)
 | 0=>λ_ _=>none
 |m+1=>OV n l a (DE n l a m)
def Ad(l:List aQ)(at_:Int):Option (aq×Int):=(OU n l).bind λa=>cond (cond (cond (!a) true<|decide<|at_<0) true<|decide<|1099511627776<at_) (some (⟨0,0,[]⟩,1)) (DE n l at_ n [] 0)
def afV:Option bK:=(OO n [97]).bind λc=>(OO n [98]).bind λb=>(OO n [99]).bind λa=>(Ad n [c,b,a] 5).bind λd=>some ⟨5,d.1,[],[],⟨0,[⟨1,[],1,0,[]⟩]⟩,[],[],0⟩
def W7(n:Nat):UM:=some true
def OW(a b:List UB)(ak:Int->UM)(v5:Int):UM:=cond (decide<|v5<(a.length:Int)) (ao (aP v5 a.length)<|ao (aP v5 b.length)<|cond (!(decide<|(yP a v5)=(yP b v5))) (some false)<|ak<|YV<|v5+1) (W7 n)
def DF(n:Nat)(a b:List UB):Nat->Int->UM
 | 0=>λ_=>none
 |m+1=>OW n a b (DF n a b m)
def Ae(a b:List UB):UM:=cond (!decide ((a.length:Int)=(b.length:Int))) (some false) (DF n a b n 0)
def afW(n:Nat)(l:List UB)(k:UB)(v6:Int):Option (List UB):=ao (!(decide<|v6<(l.length:Int))||aP v6 l.length)<|cond (cond (decide<|v6<(l.length:Int)) (decide<|(yP l v6)=k) false) (some l) (ao (hB v6 l.length)<|ao (room (([]:List UB).length+(l.take (v6).toNat).length) 16)<|ao (room (([]++(l.take (v6).toNat)).length+([k]:List UB).length) 16)<|ao (hB v6 l.length)<|ao (room ((([]++(l.take (v6).toNat))++[k]).length+(l.drop (v6).toNat).length) 16)<|some<|(([]++(l.take (v6).toNat))++[k])++(l.drop (v6).toNat))
def afX(l:List UB)(k:UB)(a:Int->Option (List UB))(v3:Int):Option (List UB):=ao (!(decide<|v3<(l.length:Int))||aP v3 l.length)<|cond (cond (decide<|v3<(l.length:Int)) (Op.bytesLess (yP l v3) k) false) (a<|YV<|v3+1) (afW n l k v3)
def W8(n:Nat)(l:List UB)(k:UB):Nat->Int->Option (List UB)
 | 0=>λ_=>none
 |m+1=>afX n l k (W8 n l k m)
def afY(l:List UB)(k:UB):Option (List UB):=W8 n l k n 0
def W9(v:bJ):UM:=(xl n v).bind λa=>some a
def W'(n:Nat):UM:=some true
def OX(b last:Int)(a:Row)(ak:Int->UM)(v9:Int):UM:=cond (decide<|v9<(a.aR.length:Int)) (ao (aP v9 a.aR.length)<|(W9 n<|(yP a.aR v9).aY).bind λc=>cond (cond (cond (!c) true<|decide<|(yP a.aR v9).br<b) true<|decide<|last<(yP a.aR v9).br) (some false) (ao (!(decide<|0<v9)||aP (YV<|v9-1) a.aR.length)<|ao (!(decide<|0<v9)||((decide<|(yP a.aR v9).br<=(yP a.aR<|YV<|v9-1).br)||aP (YV<|v9-1) a.aR.length))<|cond (cond (decide<|0<v9) (cond (decide<|(yP a.aR v9).br<=(yP a.aR<|YV<|v9-1).br) true<|(decide<|((yP a.aR v9).aY).Cc=((yP a.aR<|YV<|v9-1).aY).Cc)&&((decide<|((yP a.aR v9).aY).N=((yP a.aR<|YV<|v9-1).aY).N)&&((decide<|((yP a.aR v9).aY).S=((yP a.aR<|YV<|v9-1).aY).S)&&true))) false) (some false)<|ak<|YV<|v9+1)) (W' n)
def DG(n:Nat)(a b:Int)(c:Row):Nat->Int->UM
 | 0=>λ_=>none
 |m+1=>OX n a b c (DG n a b c m)
def OY(b:Row)(a c:Int):UM:=(Ac n b.Key).bind λd=>ao ((cond (!d) true<|decide<|(b.aR.length:Int)=0)||aP 0 b.aR.length)<|cond (cond (cond (!d) true<|decide<|(b.aR.length:Int)=0) true<|decide<|((b.aR.getD 0 default).aY).Cc=0) (some false) (DG n a c b n 0)
def W_(n:Nat):UM:=some true
def OZ(s:aq)(ak:Int->UM)(bH:Int):UM:=cond (decide<|bH<(s.Rows.length:Int)) (ao (aP bH s.Rows.length)<|(OY n (yP s.Rows bH) s.bu s.bi).bind λa=>ao ((!a)||(!(decide<|0<bH)||aP (YV<|bH-1) s.Rows.length))<|ao ((!a)||(!(decide<|0<bH)||aP bH s.Rows.length))<|cond (cond (!a) true<|cond (decide<|0<bH) (!(Op.bytesLess ((yP s.Rows<|YV<|bH-1).Key)<|(yP s.Rows bH).Key)) false) (some false)<|ak<|YV<|bH+1) (W_ n)
def DH(n:Nat)(s:aq):Nat->Int->UM
 | 0=>λ_=>none
 |m+1=>OZ n s (DH n s m)
def Af(s:aq):UM:=cond (cond (cond (decide<|s.bu<0) true<|decide<|s.bi<s.bu) true<|decide<|1099511627776<s.bi) (some false) (DH n s n 0)
def afZ(n:Nat)(a:UB):Option Row:=some ⟨a,[]⟩
def af0(a:UB)(s:aq)(ak:Int->Option Row)(v4:Int):Option Row:=cond (decide<|v4<(s.Rows.length:Int)) (ao (aP v4 s.Rows.length)<|cond (decide<|((yP s.Rows v4).Key)=a) (ao (aP v4 s.Rows.length)<|some<|yP s.Rows v4)<|ak<|YV<|v4+1) (afZ n a)
def Xa(n:Nat)(a:UB)(s:aq):Nat->Int->Option Row
 | 0=>λ_=>none
 |m+1=>af0 n a s (Xa n a s m)
def af1(s:aq)(a:UB):Option Row:=Xa n a s n 0
def Xb(n:Nat)(b a:Int)(v25:UB):Option bJ:=some ⟨b,a,v25⟩
def O0(n:Nat)(e:Int->Int->UB->Int->Option bJ)(d cx:Int)(f:Row)(a c:Int)(b:UB):Option bJ:=e a c b (YV<|cx+1)
def Xc(b:Int)(a:Row)(f:Int->Int->UB->Int->Option bJ)(e d:Int)(c:UB)(cx:Int):Option bJ:=cond (decide<|cx<(a.aR.length:Int)) (ao (aP cx a.aR.length)<|cond (decide<|(yP a.aR cx).br<=b) (ao (aP cx a.aR.length)<|O0 n f b cx a (((yP a.aR cx).aY).Cc) (((yP a.aR cx).aY).N)<|((yP a.aR cx).aY).S)<|O0 n f b cx a e d c) (Xb n e d c)
def Iv(n:Nat)(a:Int)(b:Row):Nat->Int->Int->UB->Int->Option bJ
 | 0=>λ_ _ _ _=>none
 |m+1=>Xc n a b (Iv n a b m)
def Iw(b:Row)(a:Int):Option bJ:=Iv n a b n 0 0 [] 0
def af2(n:Nat)(s:aq)(a:Int)(b:List Row):Option (aq×Int):=some (⟨s.bu,a,b⟩,0)
def Xd(n:Nat)(c:(List Row)->Int->Option (aq×Int))(d:Int)(a:List aQ)(b:List UB)(i7:Int)(s:aq)(e:List Row):Option (aq×Int):=c e (YV<|i7+1)
def af3(g:(List Row)->Int->Option (aq×Int))(d:Int)(a:List aQ)(c:List UB)(e:Int)(s:aq)(v53:List Row)(f:Row)(b:List Br):Option (aq×Int):=cond (decide<|0<(b.length:Int)) (ao (room (v53.length+([⟨f.Key,b⟩]:List Row).length) 40)<|Xd n g d a c e s<|v53++[⟨f.Key,b⟩]) (Xd n g d a c e s v53)
def Xe(n:Nat)(b:(List Br)->Int->Option (aq×Int))(i:(List Row)->Int->Option (aq×Int))(e:Int)(a:List aQ)(d:List UB)(g fh:Int)(s:aq)(c:List Row)(h:Row)(f:List Br):Option (aq×Int):=b f (YV<|fh+1)
def af4(h:(List Row)->Int->Option (aq×Int))(b:Int)(a:List aQ)(d:List UB)(g:Int)(s:aq)(c:List Row)(e:Row)(i:(List Br)->Int->Option (aq×Int))(vL:List Br)(fh:Int):Option (aq×Int):=cond (decide<|fh<(a.length:Int)) (ao (aP fh a.length)<|ao (!(decide<|((yP a fh).Key)=e.Key)||aP fh a.length)<|(cond (decide<|((yP a fh).Key)=e.Key) (Iw n e s.bi)<|some default).bind λf=>cond (cond (decide<|((yP a fh).Key)=e.Key) (!((decide<|((yP a fh).aY).Cc=f.Cc)&&((decide<|((yP a fh).aY).N=f.N)&&((decide<|((yP a fh).aY).S=f.S)&&true)))) false) (ao (aP fh a.length)<|ao (room (vL.length+([⟨b,((yP a fh).aY)⟩]:List Br).length) 40)<|Xe n i h b a d g fh s c e<|vL++[⟨b,((yP a fh).aY)⟩])<|Xe n i h b a d g fh s c e vL) (af3 n h b a d g s c e vL)
def Xf(n:Nat)(g:(List Row)->Int->Option (aq×Int))(d:Int)(a:List aQ)(c:List UB)(e:Int)(s:aq)(b:List Row)(f:Row):Nat->(List Br)->Int->Option (aq×Int)
 | 0=>λ_ _=>none
 |m+1=>af4 n g d a c e s b f (Xf n g d a c e s b f m)
def af5(d:Int)(a:List aQ)(b:List UB)(s:aq)(f:(List Row)->Int->Option (aq×Int))(c:List Row)(i7:Int):Option (aq×Int):=cond (decide<|i7<(b.length:Int)) (ao (aP i7 b.length)<|(af1 n s<|yP b i7).bind λe=>ao (room (([]:List Br).length+e.aR.length) 40)<|Xf n f d a b i7 s c e n ([]++e.aR) 0) (af2 n s d c)
def Xg(n:Nat)(c:Int)(a:List aQ)(b:List UB)(s:aq):Nat->(List Row)->Int->Option (aq×Int)
 | 0=>λ_ _=>none
 |m+1=>af5 n c a b s (Xg n c a b s m)
def af6(c:Int)(a:List aQ)(s:aq)(b:List UB):Option (aq×Int):=Xg n c a b s n [] 0
def af7(c:Int)(a:List aQ)(s:aq)(d:Int->(List UB)->Option (aq×Int))(v20:Int)(b:List UB):Option (aq×Int):=cond (decide<|v20<(a.length:Int)) (ao (aP v20 a.length)<|(afY n b<|(yP a v20).Key).bind λe=>d (YV<|v20+1) e) (af6 n c a s b)
def Xh(n:Nat)(b:Int)(a:List aQ)(s:aq):Nat->Int->(List UB)->Option (aq×Int)
 | 0=>λ_ _=>none
 |m+1=>af7 n b a s (Xh n b a s m)
def af9(b:Int)(a:List aQ)(s:aq)(c:List UB):Option (aq×Int):=Xh n b a s n 0 c
def af'(c:Int)(a:List aQ)(s:aq)(af_:(List UB)->Int->Option (aq×Int))(b:List UB)(v10:Int):Option (aq×Int):=cond (decide<|v10<(s.Rows.length:Int)) (ao (aP v10 s.Rows.length)<|ao (room (b.length+([(yP s.Rows v10).Key]:List UB).length) 16)<|af_ (b++[(yP s.Rows v10).Key])<|YV<|v10+1) (af9 n c a s b)
def Xi(n:Nat)(b:Int)(a:List aQ)(s:aq):Nat->(List UB)->Int->Option (aq×Int)
 | 0=>λ_ _=>none
 |m+1=>af' n b a s (Xi n b a s m)
def aga(s:aq)(at_:Int)(a:List aQ):Option (aq×Int):=(Af n s).bind λb=>(cond (!(!b)) (xm n a)<|some default).bind λc=>cond (cond (!b) true<|!c) (some (⟨0,0,[]⟩,1)) (cond (cond (decide<|at_<=s.bi) true<|decide<|1099511627776<at_) (some (⟨0,0,[]⟩,16))<|Xi n at_ a s n [] 0)
def Xj(n:Nat)(a:Bi->Bi->UM):UM:=some true
def Xk(c:Bi->Bi->UM)(a b:Bi)(ak:Int->UM)(v6:Int):UM:=cond (decide<|v6<(a.ax.length:Int)) (ao (aP v6 a.ax.length)<|ao (aP v6 b.ax.length)<|(c (yP a.ax v6)<|yP b.ax v6).bind λd=>cond (!d) (some false)<|ak<|YV<|v6+1) (Xj n c)
def Ix(n:Nat)(c:Bi->Bi->UM)(a b:Bi):Nat->Int->UM
 | 0=>λ_=>none
 |m+1=>Xk n c a b (Ix n c a b m)
def Xl(c:Bi->Bi->UM)(a b:Bi):UM:=cond (cond (cond (cond (!decide (a.Op=b.Op)) true<|!decide (a.N=b.N)) true<|!(decide<|a.S=b.S)) true<|!decide ((a.ax.length:Int)=(b.ax.length:Int))) (some false) (Ix n c a b n 0)
def Ag:Nat->Bi->Bi->UM
 | 0=>λ_ _=>none
 |m+1=>Xl m (Ag m)
def Xm(n:Nat)(a:(List Bj)->(List Bj)->UM):UM:=some true
def Xn(d:(List Bj)->(List Bj)->UM)(a b:List Bj)(ak:Int->UM)(v9:Int):UM:=cond (decide<|v9<(a.length:Int)) (ao (aP v9 a.length)<|ao (aP v9 b.length)<|(cond (!(cond (cond (!decide ((yP a v9).Op=(yP b v9).Op)) true<|!(decide<|((yP a v9).BY)=((yP b v9).BY))) true<|!decide ((yP a v9).Max=(yP b v9).Max))) (Ag n ((yP a v9).A)<|(yP b v9).A)<|some default).bind λc=>(cond (!(cond (cond (cond (!decide ((yP a v9).Op=(yP b v9).Op)) true<|!(decide<|((yP a v9).BY)=((yP b v9).BY))) true<|!decide ((yP a v9).Max=(yP b v9).Max)) true<|!c)) (Ag n ((yP a v9).B)<|(yP b v9).B)<|some default).bind λe=>(cond (!(cond (cond (cond (cond (!decide ((yP a v9).Op=(yP b v9).Op)) true<|!(decide<|((yP a v9).BY)=((yP b v9).BY))) true<|!decide ((yP a v9).Max=(yP b v9).Max)) true<|!c) true<|!e)) (d ((yP a v9).BZ)<|(yP b v9).BZ)<|some default).bind λf=>(cond (!(cond (cond (cond (cond (cond (!decide ((yP a v9).Op=(yP b v9).Op)) true<|!(decide<|((yP a v9).BY)=((yP b v9).BY))) true<|!decide ((yP a v9).Max=(yP b v9).Max)) true<|!c) true<|!e) true<|!f)) (d ((yP a v9).b0)<|(yP b v9).b0)<|some default).bind λg=>cond (cond (cond (cond (cond (cond (cond (!decide ((yP a v9).Op=(yP b v9).Op)) true<|!(decide<|((yP a v9).BY)=((yP b v9).BY))) true<|!decide ((yP a v9).Max=(yP b v9).Max)) true<|!c) true<|!e) true<|!f) true<|!g) (some false)<|ak<|YV<|v9+1) (Xm n d)
def Iy(n:Nat)(c:(List Bj)->(List Bj)->UM)(a b:List Bj):Nat->Int->UM
 | 0=>λ_=>none
 |m+1=>Xn n c a b (Iy n c a b m)
def Xo(c:(List Bj)->(List Bj)->UM)(a b:List Bj):UM:=cond (!decide ((a.length:Int)=(b.length:Int))) (some false) (Iy n c a b n 0)
def DI:Nat->(List Bj)->(List Bj)->UM
 | 0=>λ_ _=>none
 |m+1=>Xo m (DI m)
def Xp(a b:bk):UM:=(DI n a.BZ b.BZ).bind λc=>some c
def Xq(a b:bk)(ak:Int->UM)(v5:Int):UM:=cond (decide<|v5<(a.Cq.length:Int)) (ao (aP v5 a.Cq.length)<|ao (aP v5 b.Cq.length)<|cond (!((decide<|(yP a.Cq v5).BY=(yP b.Cq v5).BY)&&((decide<|(yP a.Cq v5).fT=(yP b.Cq v5).fT)&&true))) (some false)<|ak<|YV<|v5+1) (Xp n a b)
def Iz(n:Nat)(a b:bk):Nat->Int->UM
 | 0=>λ_=>none
 |m+1=>Xq n a b (Iz n a b m)
def O4(a b:bk):UM:=cond (cond (!(decide<|a.BY=b.BY)) true<|!decide ((a.Cq.length:Int)=(b.Cq.length:Int))) (some false) (Iz n a b n 0)
def Xr(n:Nat):UM:=some true
def O5(a b:List bk)(ak:Int->UM)(v6:Int):UM:=cond (decide<|v6<(a.length:Int)) (ao (aP v6 a.length)<|ao (aP v6 b.length)<|(O4 n (yP a v6)<|yP b v6).bind λc=>cond (!c) (some false)<|ak<|YV<|v6+1) (Xr n)
def DJ(n:Nat)(a b:List bk):Nat->Int->UM
 | 0=>λ_=>none
 |m+1=>O5 n a b (DJ n a b m)
def O6(a b:List bk):UM:=cond (!decide ((a.length:Int)=(b.length:Int))) (some false) (DJ n a b n 0)
def Xs(n:Nat):UM:=some true
def Xt(n:Nat)(c:Int->UM)(v12:Int)(a b:aq):UM:=c (YV<|v12+1)
def O7(d:Int->UM)(c:Int)(a b:aq)(dL:Int->UM)(cB:Int):UM:=cond (decide<|cB<((((yP a.Rows c).aR).length:Nat):Int)) (ao (aP cB ((yP a.Rows c).aR).length)<|ao (aP cB ((yP b.Rows c).aR).length)<|cond (!((decide<|(((yP a.Rows c).aR).getD (cB).toNat default).br=(((yP b.Rows c).aR).getD (cB).toNat default).br)&&((decide<|((((yP a.Rows c).aR).getD (cB).toNat default).aY).Cc=((((yP b.Rows c).aR).getD (cB).toNat default).aY).Cc)&&((decide<|((((yP a.Rows c).aR).getD (cB).toNat default).aY).N=((((yP b.Rows c).aR).getD (cB).toNat default).aY).N)&&((decide<|((((yP a.Rows c).aR).getD (cB).toNat default).aY).S=((((yP b.Rows c).aR).getD (cB).toNat default).aY).S)&&true))))) (some false)<|dL<|YV<|cB+1) (Xt n d c a b)
def DK(n:Nat)(d:Int->UM)(c:Int)(a b:aq):Nat->Int->UM
 | 0=>λ_=>none
 |m+1=>O7 n d c a b (DK n d c a b m)
def O8(a b:aq)(c:Int->UM)(v12:Int):UM:=cond (decide<|v12<(a.Rows.length:Int)) (ao (aP v12 a.Rows.length)<|ao (aP v12 b.Rows.length)<|cond (cond (!(decide<|((yP a.Rows v12).Key)=((yP b.Rows v12).Key))) true<|!decide (((((yP a.Rows v12).aR).length:Nat):Int)=((((yP b.Rows v12).aR).length:Nat):Int))) (some false)<|DK n c v12 a b n 0) (Xs n)
def xo(n:Nat)(a b:aq):Nat->Int->UM
 | 0=>λ_=>none
 |m+1=>O8 n a b (xo n a b m)
def O9(a b:aq):UM:=cond (cond (cond (!decide (a.bu=b.bu)) true<|!decide (a.bi=b.bi)) true<|!decide ((a.Rows.length:Int)=(b.Rows.length:Int))) (some false) (xo n a b n 0)
def Xu(n:Nat):UM:=some true
def O'(a b:dv)(ak:Int->UM)(v5:Int):UM:=cond (decide<|v5<(a.aI.length:Int)) (ao (aP v5 a.aI.length)<|ao (aP v5 b.aI.length)<|cond (!((decide<|(yP a.aI v5).Id=(yP b.aI v5).Id)&&((decide<|(yP a.aI v5).ee=(yP b.aI v5).ee)&&((decide<|(yP a.aI v5).Node=(yP b.aI v5).Node)&&((decide<|(yP a.aI v5).f0=(yP b.aI v5).f0)&&((decide<|(yP a.aI v5).dO=(yP b.aI v5).dO)&&true)))))) (some false)<|ak<|YV<|v5+1) (Xu n)
def DL(n:Nat)(a b:dv):Nat->Int->UM
 | 0=>λ_=>none
 |m+1=>O' n a b (DL n a b m)
def O_(a b:dv):UM:=cond (cond (!decide (a.Br=b.Br)) true<|!decide ((a.aI.length:Int)=(b.aI.length:Int))) (some false) (DL n a b n 0)
def Xv(n:Nat):UM:=some true
def Pa(a b:List be)(ak:Int->UM)(v5:Int):UM:=cond (decide<|v5<(a.length:Int)) (ao (aP v5 a.length)<|ao (aP v5 b.length)<|cond (!((decide<|(yP a v5).Key=(yP b v5).Key)&&((decide<|(yP a v5).Count=(yP b v5).Count)&&true))) (some false)<|ak<|YV<|v5+1) (Xv n)
def DM(n:Nat)(a b:List be):Nat->Int->UM
 | 0=>λ_=>none
 |m+1=>Pa n a b (DM n a b m)
def Pb(a b:List be):UM:=cond (!decide ((a.length:Int)=(b.length:Int))) (some false) (DM n a b n 0)
def Xw(a b:hQ):UM:=(cond (a.fl == b.fl) (Ae n a.Reads b.Reads)<|some default).bind λc=>(cond (cond (a.fl == b.fl) c false) (Ae n a.cp b.cp)<|some default).bind λd=>some (cond (cond (a.fl == b.fl) c false) d false)
def Xx(n:Nat):UM:=some true
def Pc(a b:BE)(ak:Int->UM)(v6:Int):UM:=cond (decide<|v6<(a.ax.length:Int)) (ao (aP v6 a.ax.length)<|ao (aP v6 b.ax.length)<|cond (!((decide<|(yP a.ax v6).Cc=(yP b.ax v6).Cc)&&((decide<|(yP a.ax v6).N=(yP b.ax v6).N)&&((decide<|(yP a.ax v6).S=(yP b.ax v6).S)&&true)))) (some false)<|ak<|YV<|v6+1) (Xx n)
def DN(n:Nat)(a b:BE):Nat->Int->UM
 | 0=>λ_=>none
 |m+1=>Pc n a b (DN n a b m)
def Pd(a b:BE):UM:=(cond (!(cond (cond (cond (cond (!decide (a.Et=b.Et)) true<|!decide (a.Seq=b.Seq)) true<|!(decide<|a.bk=b.bk)) true<|!(a.eV == b.eV)) true<|!decide ((a.ax.length:Int)=(b.ax.length:Int)))) (Xw n a.bM b.bM)<|some default).bind λc=>cond (cond (cond (cond (cond (cond (!decide (a.Et=b.Et)) true<|!decide (a.Seq=b.Seq)) true<|!(decide<|a.bk=b.bk)) true<|!(a.eV == b.eV)) true<|!decide ((a.ax.length:Int)=(b.ax.length:Int))) true<|!c) (some false) (DN n a b n 0)
def Xy(n:Nat):UM:=some true
def Pe(a b:Bt)(ak:Int->UM)(v5:Int):UM:=cond (decide<|v5<(a.Out.length:Int)) (ao (aP v5 a.Out.length)<|ao (aP v5 b.Out.length)<|cond (!((decide<|(yP a.Out v5).Cc=(yP b.Out v5).Cc)&&((decide<|(yP a.Out v5).N=(yP b.Out v5).N)&&((decide<|(yP a.Out v5).S=(yP b.Out v5).S)&&true)))) (some false)<|ak<|YV<|v5+1) (Xy n)
def DO(n:Nat)(a b:Bt):Nat->Int->UM
 | 0=>λ_=>none
 |m+1=>Pe n a b (DO n a b m)
def IA(a b:Bt):UM:=cond (cond (cond (!decide (a.Status=b.Status)) true<|!decide (a.Code=b.Code)) true<|!decide ((a.Out.length:Int)=(b.Out.length:Int))) (some false) (DO n a b n 0)
def Xz(a b:fk):UM:=(cond (cond (decide<|a.Et=b.Et) (decide<|a.Seq=b.Seq) false) (IA n a.Bt b.Bt)<|some default).bind λc=>some (cond (cond (decide<|a.Et=b.Et) (decide<|a.Seq=b.Seq) false) c false)
def XA(n:Nat):UM:=some true
def Pf(a b:List fk)(ak:Int->UM)(v6:Int):UM:=cond (decide<|v6<(a.length:Int)) (ao (aP v6 a.length)<|ao (aP v6 b.length)<|(Xz n (yP a v6)<|yP b v6).bind λc=>cond (!c) (some false)<|ak<|YV<|v6+1) (XA n)
def DP(n:Nat)(a b:List fk):Nat->Int->UM
 | 0=>λ_=>none
 |m+1=>Pf n a b (DP n a b m)
def Pg(a b:List fk):UM:=cond (!decide ((a.length:Int)=(b.length:Int))) (some false) (DP n a b n 0)
def XB(n:Nat):UM:=some true
def Ph(a b:List b3)(ak:Int->UM)(v10:Int):UM:=cond (decide<|v10<(a.length:Int)) (ao (aP v10 a.length)<|ao (aP v10 b.length)<|ao ((!decide ((yP a v10).Et=(yP b v10).Et))||aP v10 a.length)<|ao ((!decide ((yP a v10).Et=(yP b v10).Et))||aP v10 b.length)<|ao ((cond (!decide ((yP a v10).Et=(yP b v10).Et)) true<|!decide ((yP a v10).Next=(yP b v10).Next))||aP v10 a.length)<|ao ((cond (!decide ((yP a v10).Et=(yP b v10).Et)) true<|!decide ((yP a v10).Next=(yP b v10).Next))||aP v10 b.length)<|(cond (!(cond (!decide ((yP a v10).Et=(yP b v10).Et)) true<|!decide ((yP a v10).Next=(yP b v10).Next))) (Pg n ((yP a v10).ce)<|(yP b v10).ce)<|some default).bind λc=>cond (cond (cond (!decide ((yP a v10).Et=(yP b v10).Et)) true<|!decide ((yP a v10).Next=(yP b v10).Next)) true<|!c) (some false)<|ak<|YV<|v10+1) (XB n)
def DQ(n:Nat)(a b:List b3):Nat->Int->UM
 | 0=>λ_=>none
 |m+1=>Ph n a b (DQ n a b m)
def Pi(a b:List b3):UM:=cond (!decide ((a.length:Int)=(b.length:Int))) (some false) (DQ n a b n 0)
def XC(n:Nat):UM:=some true
def Pj(a b:bK)(ak:Int->UM)(v11:Int):UM:=cond (decide<|v11<(a.EK.length:Int)) (ao (aP v11 a.EK.length)<|ao (aP v11 b.EK.length)<|(Pd n (yP a.EK v11)<|yP b.EK v11).bind λc=>cond (!c) (some false)<|ak<|YV<|v11+1) (XC n)
def DR(n:Nat)(a b:bK):Nat->Int->UM
 | 0=>λ_=>none
 |m+1=>Pj n a b (DR n a b m)
def Pk(a b:bK):UM:=(cond (!(cond (!decide (a.Pos=b.Pos)) true<|!decide (a.cN=b.cN))) (O9 n a.aq b.aq)<|some default).bind λc=>(cond (!(cond (cond (!decide (a.Pos=b.Pos)) true<|!decide (a.cN=b.cN)) true<|!c)) (O6 n a.bY b.bY)<|some default).bind λd=>(cond (!(cond (cond (cond (!decide (a.Pos=b.Pos)) true<|!decide (a.cN=b.cN)) true<|!c) true<|!d)) (Pi n a.b7 b.b7)<|some default).bind λe=>(cond (!(cond (cond (cond (cond (!decide (a.Pos=b.Pos)) true<|!decide (a.cN=b.cN)) true<|!c) true<|!d) true<|!e)) (O_ n a.EG b.EG)<|some default).bind λf=>(cond (!(cond (cond (cond (cond (cond (!decide (a.Pos=b.Pos)) true<|!decide (a.cN=b.cN)) true<|!c) true<|!d) true<|!e) true<|!f)) (Pb n a.be b.be)<|some default).bind λg=>cond (cond (cond (cond (cond (cond (cond (cond (!decide (a.Pos=b.Pos)) true<|!decide (a.cN=b.cN)) true<|!c) true<|!d) true<|!e) true<|!f) true<|!g) true<|!decide ((a.EK.length:Int)=(b.EK.length:Int))) (some false) (DR n a b n 0)
def XD(n:Nat)(a:List aQ):Option (List aQ):=some a
def IB(n:Nat)(c:(List aQ)->Int->Option (List aQ))(b v9:Int)(s:aq)(a:List aQ):Option (List aQ):=c a (YV<|v9+1)
def XE(a:Int)(s:aq)(c:(List aQ)->Int->Option (List aQ))(bI:List aQ)(v9:Int):Option (List aQ):=cond (decide<|v9<(s.Rows.length:Int)) (ao (aP v9 s.Rows.length)<|(Iw n (yP s.Rows v9) a).bind λb=>cond (!decide (b.Cc=0)) (ao (aP v9 s.Rows.length)<|ao (room (bI.length+([⟨(yP s.Rows v9).Key,b⟩]:List aQ).length) 48)<|IB n c a v9 s<|bI++[⟨(yP s.Rows v9).Key,b⟩])<|IB n c a v9 s bI) (XD n bI)
def DS(n:Nat)(a:Int)(s:aq):Nat->(List aQ)->Int->Option (List aQ)
 | 0=>λ_ _=>none
 |m+1=>XE n a s (DS n a s m)
def XF(s:aq)(a:Int):Option (List aQ):=DS n a s n [] 0
def DT(s:aq)(at_:Int):Option ((List aQ)×Int):=(Af n s).bind λa=>cond (!a) (some ([],1)) (cond (cond (decide<|at_<s.bu) true<|decide<|s.bi<at_) (some ([],15))<|(XF n s at_).bind λb=>some (b,0))
def XG(n:Nat):UM:=some true
def Pl(s:UB)(ak:Int->UM)(v5:Int):UM:=cond (decide<|v5<(s.length:Int)) (ao (aP v5 s.length)<|ao ((decide<|(((s.getD (v5).toNat 0).toNat:Nat):Int)<33)||aP v5 s.length)<|cond (cond (decide<|(((s.getD (v5).toNat 0).toNat:Nat):Int)<33) true<|decide<|126<(((s.getD (v5).toNat 0).toNat:Nat):Int)) (some false)<|ak<|YV<|v5+1) (XG n)
def DU(n:Nat)(s:UB):Nat->Int->UM
 | 0=>λ_=>none
 |m+1=>Pl n s (DU n s m)
def IC(s:UB):UM:=cond (decide<|24<(s.length:Int)) (some false) (DU n s n 0)
def Pm(x:BX)(next:UB)(a:Bool):UM:=cond (decide<|x.f0=0) (some<|decide<|x.dO=[]) ((cond (cond (cond (decide<|1<=x.f0) (decide<|x.f0<=16) false) (!decide (x.f0=x.Node)) false) (IC n x.dO)<|some default).bind λb=>some<|cond (cond (cond (cond (cond (decide<|1<=x.f0) (decide<|x.f0<=16) false) (!decide (x.f0=x.Node)) false) b false) (!(Op.bytesLess x.dO x.ee)) false) (cond a true<|Op.bytesLess x.dO next) false)
def XH(n:Nat):UM:=some true
def XI(n:Nat)(a:Int->UM)(p:dv)(bE:Int):UM:=a (YV<|bE+1)
def Pn(b:Int->UM)(p:dv)(a:Int)(vI:Int->UM)(v24:Int):UM:=cond (decide<|v24<a) (ao (aP v24 p.aI.length)<|cond (decide<|(yP p.aI v24).Id=(yP p.aI a).Id) (some false)<|vI<|YV<|v24+1) (XI n b p a)
def Ah(n:Nat)(b:Int->UM)(p:dv)(a:Int):Nat->Int->UM
 | 0=>λ_=>none
 |m+1=>Pn n b p a (Ah n b p a m)
def ID(d:Int->UM)(p:dv)(bE:Int)(c:UB):UM:=(IC n<|(yP p.aI bE).ee).bind λa=>ao ((!a)||(!(decide<|0<bE)||aP (YV<|bE-1) p.aI.length))<|(cond (!(cond (cond (cond (cond (cond (!a) true<|cond (decide<|0<bE) ((Op.bytesLess ((yP p.aI bE).ee)<|(yP p.aI<|YV<|bE-1).ee)||(decide<|((yP p.aI bE).ee)=((yP p.aI<|YV<|bE-1).ee))) false) true<|decide<|(yP p.aI bE).Id<1) true<|decide<|1099511627776<(yP p.aI bE).Id) true<|decide<|(yP p.aI bE).Node<1) true<|decide<|16<(yP p.aI bE).Node)) (Pm n (yP p.aI bE) c<|decide<|(YV<|bE+1)=(p.aI.length:Int))<|some default).bind λb=>cond (cond (cond (cond (cond (cond (cond (!a) true<|cond (decide<|0<bE) ((Op.bytesLess ((yP p.aI bE).ee)<|(yP p.aI<|YV<|bE-1).ee)||(decide<|((yP p.aI bE).ee)=((yP p.aI<|YV<|bE-1).ee))) false) true<|decide<|(yP p.aI bE).Id<1) true<|decide<|1099511627776<(yP p.aI bE).Id) true<|decide<|(yP p.aI bE).Node<1) true<|decide<|16<(yP p.aI bE).Node) true<|!b) (some false) (Ah n d p bE n 0)
def Po(p:dv)(a:Int->UM)(bE:Int):UM:=cond (decide<|bE<(p.aI.length:Int)) (ao (aP bE p.aI.length)<|cond (decide<|(YV<|bE+1)<(p.aI.length:Int)) (ao (aP (YV<|bE+1) p.aI.length)<|ID n a p bE<|(yP p.aI<|YV<|bE+1).ee)<|ID n a p bE []) (XH n)
def DV(n:Nat)(p:dv):Nat->Int->UM
 | 0=>λ_=>none
 |m+1=>Po n p (DV n p m)
def Pp(p:dv):UM:=ao ((cond (cond (cond (decide<|p.Br<0) true<|decide<|1099511627776<p.Br) true<|decide<|(p.aI.length:Int)<1) true<|decide<|16<(p.aI.length:Int))||aP 0 p.aI.length)<|cond (cond (cond (cond (cond (decide<|p.Br<0) true<|decide<|1099511627776<p.Br) true<|decide<|(p.aI.length:Int)<1) true<|decide<|16<(p.aI.length:Int)) true<|!(decide<|((p.aI.getD 0 default).ee)=[])) (some false) (DV n p n 0)
def XJ(n:Nat)(l:List be):UM:=some (decide<|(l.length:Int)<=32)
def Pq(l:List be)(ak:Int->UM)(bI:Int):UM:=cond (decide<|bI<(l.length:Int)) (ao (aP bI l.length)<|(Ac n<|(yP l bI).Key).bind λa=>ao ((!a)||aP bI l.length)<|ao ((cond (!a) true<|decide<|(yP l bI).Count<1)||aP bI l.length)<|ao ((cond (cond (!a) true<|decide<|(yP l bI).Count<1) true<|decide<|1099511627776<(yP l bI).Count)||(!(decide<|0<bI)||aP bI l.length))<|ao ((cond (cond (!a) true<|decide<|(yP l bI).Count<1) true<|decide<|1099511627776<(yP l bI).Count)||(!(decide<|0<bI)||aP (YV<|bI-1) l.length))<|cond (cond (cond (cond (!a) true<|decide<|(yP l bI).Count<1) true<|decide<|1099511627776<(yP l bI).Count) true<|cond (decide<|0<bI) ((Op.bytesLess ((yP l bI).Key)<|(yP l<|YV<|bI-1).Key)||(decide<|((yP l bI).Key)=((yP l<|YV<|bI-1).Key))) false) (some false)<|ak<|YV<|bI+1) (XJ n l)
def DW(n:Nat)(l:List be):Nat->Int->UM
 | 0=>λ_=>none
 |m+1=>Pq n l (DW n l m)
def Pr(l:List be):UM:=DW n l n 0
def XK(n:Nat)(l:List bJ):UM:=some (decide<|(l.length:Int)<=16)
def Ps(l:List bJ)(ak:Int->UM)(v5:Int):UM:=cond (decide<|v5<(l.length:Int)) (ao (aP v5 l.length)<|(xl n<|yP l v5).bind λa=>ao ((!a)||aP v5 l.length)<|cond (cond (!a) true<|decide<|(yP l v5).Cc=0) (some false)<|ak<|YV<|v5+1) (XK n l)
def Ai(n:Nat)(l:List bJ):Nat->Int->UM
 | 0=>λ_=>none
 |m+1=>Ps n l (Ai n l m)
def XL(l:List bJ):UM:=Ai n l n 0
def IE(o:Bt):UM:=cond (decide<|o.Status=1) ((cond (decide<|o.Code=0) (XL n o.Out)<|some default).bind λa=>some<|cond (decide<|o.Code=0) a false) (some<|cond (cond (cond (decide<|o.Status=2) (decide<|0<=o.Code) false) (decide<|o.Code<=1009) false) (decide<|(o.Out.length:Int)=0) false)
def XM(n:Nat)(next:Int):YX:=some (cond (decide<|(YV<|next-1)<8) (YV<|next-1) 8)
def XN(n:Nat):UM:=some true
def Pt(s:b3)(ak:Int->UM)(v6:Int):UM:=cond (decide<|v6<(s.ce.length:Int)) (ao (aP v6 s.ce.length)<|(cond (!(cond (!decide ((yP s.ce v6).Et=s.Et)) true<|!decide ((yP s.ce v6).Seq=(YV<|s.Next-(YV<|(s.ce.length:Int)-v6))))) (IE n<|(yP s.ce v6).Bt)<|some default).bind λa=>cond (cond (cond (!decide ((yP s.ce v6).Et=s.Et)) true<|!decide ((yP s.ce v6).Seq=(YV<|s.Next-(YV<|(s.ce.length:Int)-v6)))) true<|!a) (some false)<|ak<|YV<|v6+1) (XN n)
def DX(n:Nat)(s:b3):Nat->Int->UM
 | 0=>λ_=>none
 |m+1=>Pt n s (DX n s m)
def Pu(s:b3):UM:=(cond (!(cond (cond (cond (decide<|s.Et<1) true<|decide<|32<s.Et) true<|decide<|s.Next<1) true<|decide<|1099511627776<s.Next)) (XM n s.Next)<|some default).bind λa=>cond (cond (cond (cond (cond (decide<|s.Et<1) true<|decide<|32<s.Et) true<|decide<|s.Next<1) true<|decide<|1099511627776<s.Next) true<|!decide ((s.ce.length:Int)=a)) (some false) (DX n s n 0)
def XO(n:Nat):UM:=some true
def Pv(l:List b3)(ak:Int->UM)(v6:Int):UM:=cond (decide<|v6<(l.length:Int)) (ao (aP v6 l.length)<|(Pu n<|yP l v6).bind λa=>ao ((!a)||(!(decide<|0<v6)||aP v6 l.length))<|ao ((!a)||(!(decide<|0<v6)||aP (YV<|v6-1) l.length))<|cond (cond (!a) true<|cond (decide<|0<v6) (decide<|(yP l v6).Et<=(yP l<|YV<|v6-1).Et) false) (some false)<|ak<|YV<|v6+1) (XO n)
def DY(n:Nat)(l:List b3):Nat->Int->UM
 | 0=>λ_=>none
 |m+1=>Pv n l (DY n l m)
def Aj(l:List b3):UM:=DY n l n 0
def XP(n:Nat):Option (List UB):=some [[112,114,111,99],[108,101,116],[112,117,116],[100,101,108,101,116,101],[105,102],[101,108,115,101],[102,111,114],[116,111],[109,97,120],[101,109,105,116],[97,98,111,114,116],[110,111,116],[97,110,100],[111,114],[105,110,116],[115,116,114],[98,111,111,108],[116,101,120,116],[108,101,110],[103,101,116,105,110,116],[103,101,116,115,116,114],[104,97,115],[110,111,119],[114,97,110,100,111,109],[110,111,100,101]]
def XQ(n:Nat):UM:=some false
def XR(l:List UB)(s:UB)(ak:Int->UM)(v3:Int):UM:=cond (decide<|v3<(l.length:Int)) (ao (aP v3 l.length)<|cond (decide<|(yP l v3)=s) (some true)<|ak<|YV<|v3+1) (XQ n)
def IF(n:Nat)(l:List UB)(s:UB):Nat->Int->UM
 | 0=>λ_=>none
 |m+1=>XR n l s (IF n l s m)
def XS(l:List UB)(s:UB):UM:=IF n l s n 0
def Pw(s:UB):UM:=(XP n).bind λb=>(XS n b s).bind λa=>some a
def IG(n:Nat)(c:Int):UM:=some (cond (decide<|97<=c) (decide<|c<=122) false)
def XT(n:Nat)(c:Int):UM:=some (cond (decide<|48<=c) (decide<|c<=57) false)
def Px(c:Int):UM:=(IG n c).bind λa=>(cond (!a) (XT n c)<|some default).bind λb=>some (cond (cond a true b) true<|decide<|c=95)
def XU(n:Nat)(a:Int):YX:=some a
def XV(s:UB)(b:Int->YX)(v4:Int):YX:=ao (!(decide<|v4<(s.length:Int))||aP v4 s.length)<|(cond (decide<|v4<(s.length:Int)) (Px n (((s.getD (v4).toNat 0).toNat:Nat):Int))<|some default).bind λa=>cond (cond (decide<|v4<(s.length:Int)) a false) (b<|YV<|v4+1) (XU n v4)
def IH(n:Nat)(s:UB):Nat->Int->YX
 | 0=>λ_=>none
 |m+1=>XV n s (IH n s m)
def XW(s:UB)(a:Int):YX:=IH n s n a
def xp(s:UB):UM:=ao (!(cond (decide<|1<=(s.length:Int)) (decide<|(s.length:Int)<=16) false)||aP 0 s.length)<|(cond (cond (decide<|1<=(s.length:Int)) (decide<|(s.length:Int)<=16) false) (IG n (((s.getD 0 0).toNat:Nat):Int))<|some default).bind λa=>(cond (cond (cond (decide<|1<=(s.length:Int)) (decide<|(s.length:Int)<=16) false) a false) (XW n s 0)<|some default).bind λr3=>(cond (cond (cond (cond (decide<|1<=(s.length:Int)) (decide<|(s.length:Int)<=16) false) a false) (decide<|r3=(s.length:Int)) false) (Pw n s)<|some default).bind λb=>some (cond (cond (cond (cond (decide<|1<=(s.length:Int)) (decide<|(s.length:Int)<=16) false) a false) (decide<|r3=(s.length:Int)) false) (!b) false)
def vM(n:Nat)(e:Bi):UM:=some (cond (cond (cond (decide<|e.Op=0) (decide<|e.N=0) false) (decide<|e.S=[]) false) (decide<|(e.ax.length:Int)=0) false)
def XX(n:Nat)(b:(List cS)->Bi->Bool->Option (List cS))(a:List cS):Option (List cS):=some a
def XY(b:(List cS)->Bi->Bool->Option (List cS))(e:Bi)(d:(List cS)->Int->Option (List cS))(a:List cS)(bI:Int):Option (List cS):=cond (cond (decide<|bI<(e.ax.length:Int)) (decide<|(a.length:Int)<=400) false) (ao (aP bI e.ax.length)<|(b a (yP e.ax bI) false).bind λc=>d c<|YV<|bI+1) (XX n b a)
def II(n:Nat)(a:(List cS)->Bi->Bool->Option (List cS))(e:Bi):Nat->(List cS)->Int->Option (List cS)
 | 0=>λ_ _=>none
 |m+1=>XY n a e (II n a e m)
def XZ(a:(List cS)->Bi->Bool->Option (List cS))(out:List cS)(e:Bi)(root:Bool):Option (List cS):=cond (decide<|400<(out.length:Int)) (some out) (ao (room (out.length+([⟨false,⟨0,[],0,⟨0,0,[],[]⟩,⟨0,0,[],[]⟩,[],[]⟩,0,e,root⟩]:List cS).length) 272)<|II n a e n (out++[⟨false,⟨0,[],0,⟨0,0,[],[]⟩,⟨0,0,[],[]⟩,[],[]⟩,0,e,root⟩]) 0)
def vN:Nat->(List cS)->Bi->Bool->Option (List cS)
 | 0=>λ_ _ _=>none
 |m+1=>XZ m (vN m)
def X0(n:Nat)(b:(List cS)->(List Bj)->Int->Option (List cS))(a:List cS):Option (List cS):=some a
def X1(n:Nat)(d:(List cS)->(List Bj)->Int->Option (List cS))(c:(List cS)->Int->Option (List cS))(l:List Bj)(a v21:Int)(b:List cS):Option (List cS):=c b (YV<|v21+1)
def Py(b:(List cS)->(List Bj)->Int->Option (List cS))(f:(List cS)->Int->Option (List cS))(l:List Bj)(depth a:Int)(d:List cS):Option (List cS):=ao (aP a l.length)<|(b d ((yP l a).BZ)<|YV<|depth+1).bind λe=>ao (aP a l.length)<|(b e ((yP l a).b0)<|YV<|depth+1).bind λc=>X1 n b f l depth a c
def Pz(d:(List cS)->(List Bj)->Int->Option (List cS))(e:(List cS)->Int->Option (List cS))(l:List Bj)(b a:Int)(c:List cS):Option (List cS):=ao (aP a l.length)<|(vM n<|(yP l a).B).bind λg=>cond (!g) (ao (aP a l.length)<|(vN n c ((yP l a).B) true).bind λf=>Py n d e l b a f) (Py n d e l b a c)
def X2(c:(List cS)->(List Bj)->Int->Option (List cS))(l:List Bj)(a:Int)(d:(List cS)->Int->Option (List cS))(v20:List cS)(v21:Int):Option (List cS):=cond (cond (decide<|v21<(l.length:Int)) (decide<|(v20.length:Int)<=400) false) (ao (aP v21 l.length)<|ao (room (v20.length+([⟨true,(yP l v21),a,⟨0,0,[],[]⟩,false⟩]:List cS).length) 272)<|ao (aP v21 l.length)<|(vM n<|(yP l v21).A).bind λe=>cond (!e) (ao (aP v21 l.length)<|(vN n (v20++[⟨true,(yP l v21),a,⟨0,0,[],[]⟩,false⟩]) ((yP l v21).A) true).bind λb=>Pz n c d l a v21 b)<|Pz n c d l a v21<|v20++[⟨true,(yP l v21),a,⟨0,0,[],[]⟩,false⟩]) (X0 n c v20)
def xq(n:Nat)(b:(List cS)->(List Bj)->Int->Option (List cS))(l:List Bj)(a:Int):Nat->(List cS)->Int->Option (List cS)
 | 0=>λ_ _=>none
 |m+1=>X2 n b l a (xq n b l a m)
def X3(b:(List cS)->(List Bj)->Int->Option (List cS))(out:List cS)(l:List Bj)(a:Int):Option (List cS):=xq n b l a n out 0
def oM:Nat->(List cS)->(List Bj)->Int->Option (List cS)
 | 0=>λ_ _ _=>none
 |m+1=>X3 m (oM m)
def X4(p:bk):Option (List cS):=(oM n [] p.BZ 1).bind λa=>some a
def X5(n:Nat):YX:=some 0
def X6(n:Nat)(a:Int->YX)(l:List BM)(bZ:Int):YX:=a (YV<|bZ+1)
def X7(b:Int->YX)(l:List BM)(a:Int)(dL:Int->YX)(v22:Int):YX:=cond (decide<|v22<a) (ao (aP v22 l.length)<|ao (aP a l.length)<|cond (decide<|((yP l v22).BY)=((yP l a).BY)) (some 8)<|dL<|YV<|v22+1) (X6 n b l a)
def DZ(n:Nat)(b:Int->YX)(l:List BM)(a:Int):Nat->Int->YX
 | 0=>λ_=>none
 |m+1=>X7 n b l a (DZ n b l a m)
def X8(l:List BM)(b:Int->YX)(bZ:Int):YX:=cond (decide<|bZ<(l.length:Int)) (ao (aP bZ l.length)<|(xp n<|(yP l bZ).BY).bind λa=>cond (!a) (some 7) (ao (aP bZ l.length)<|ao ((decide<|(yP l bZ).fT<1)||aP bZ l.length)<|cond (cond (decide<|(yP l bZ).fT<1) true<|decide<|3<(yP l bZ).fT) (some 10)<|DZ n b l bZ n 0)) (X5 n)
def xr(n:Nat)(l:List BM):Nat->Int->YX
 | 0=>λ_=>none
 |m+1=>X8 n l (xr n l m)
def PA(l:List BM):YX:=cond (decide<|6<(l.length:Int)) (some 2) (xr n l n 0)
def X9(n:Nat)(op:Int):YX:=cond (cond (decide<|4<=op) (decide<|op<=19) false) (some 2) (some<|-1)
def vO(op:Int)(a:Bool):YX:=cond a (some 1) (X9 n op)
def xt(op:Int)(a:Bool):YX:=cond a (some 0) (cond (decide<|op=9) (vO n op<|decide<|op=9)<|cond (decide<|op=18) (vO n op<|decide<|op=18)<|cond (decide<|op=20) (vO n op<|decide<|op=20)<|cond (decide<|op=21) (vO n op<|decide<|op=21)<|cond (decide<|op=22) (vO n op<|decide<|op=22)<|cond (decide<|op=23) (vO n op<|decide<|op=23)<|vO n op<|decide<|op=24)
def IJ(op:Int):YX:=cond (decide<|op=1) (xt n op<|decide<|op=1) (cond (decide<|op=2) (xt n op<|decide<|op=2)<|cond (decide<|op=3) (xt n op<|decide<|op=3)<|cond (decide<|op=25) (xt n op<|decide<|op=25)<|cond (decide<|op=26) (xt n op<|decide<|op=26)<|xt n op<|decide<|op=27)
def X'(n:Nat):UM:=some true
def X_(s:UB)(ak:Int->UM)(v5:Int):UM:=cond (decide<|v5<(s.length:Int)) (ao (aP v5 s.length)<|ao ((decide<|(((s.getD (v5).toNat 0).toNat:Nat):Int)<32)||aP v5 s.length)<|cond (cond (decide<|(((s.getD (v5).toNat 0).toNat:Nat):Int)<32) true<|decide<|126<(((s.getD (v5).toNat 0).toNat:Nat):Int)) (some false)<|ak<|YV<|v5+1) (X' n)
def IK(n:Nat)(s:UB):Nat->Int->UM
 | 0=>λ_=>none
 |m+1=>X_ n s (IK n s m)
def PB(s:UB):UM:=cond (decide<|64<(s.length:Int)) (some false) (IK n s n 0)
def PC(e:Bi)(a:Int):YX:=(IJ n e.Op).bind λr1=>cond (cond (cond (decide<|r1<0) true<|cond (!decide (e.Op=1)) (!decide (e.N=0)) false) true<|cond (cond (!decide (e.Op=2)) (!decide (e.Op=3)) false) (!(decide<|e.S=[])) false) (some 1) ((cond (decide<|e.Op=3) (xp n e.S)<|some default).bind λc=>cond (cond (decide<|e.Op=3) (!c) false) (some 7)<|(cond ((!(decide<|e.N<0))&&(decide<|e.Op=2)) (PB n e.S)<|some default).bind λb=>(cond (!(cond (decide<|e.N<0) true<|cond (decide<|e.Op=2) (!b) false)) (IJ n e.Op)<|some default).bind λd=>cond (cond (cond (decide<|e.N<0) true<|cond (decide<|e.Op=2) (!b) false) true<|!decide ((e.ax.length:Int)=d)) (some 1)<|cond (decide<|12<a) (some 2)<|some 0)
def Ya(n:Nat)(a:Bi->Int->YX):YX:=some 0
def Yb(a:Bi->Int->YX)(depth:Int)(e:Bi)(ak:Int->YX)(v6:Int):YX:=cond (decide<|v6<(e.ax.length:Int)) (ao (aP v6 e.ax.length)<|(a (yP e.ax v6)<|YV<|depth+1).bind λb=>cond (!decide (b=0)) (some b)<|ak<|YV<|v6+1) (Ya n a)
def IL(n:Nat)(b:Bi->Int->YX)(a:Int)(e:Bi):Nat->Int->YX
 | 0=>λ_=>none
 |m+1=>Yb n b a e (IL n b a e m)
def Yc(c:Bi->Int->YX)(e:Bi)(a:Int):YX:=(PC n e a).bind λb=>cond (!decide (b=0)) (some b) (IL n c a e n 0)
def D0:Nat->Bi->Int->YX
 | 0=>λ_ _=>none
 |m+1=>Yc m (D0 m)
def IM(e:Bi):YX:=(D0 n e 1).bind λa=>some a
def Yd(n:Nat):Option (Bool×Bool×Bool×Bool×Bool×Bool):=some (false,true,false,false,false,false)
def PD(op:Int)(a:Bool):Option (Bool×Bool×Bool×Bool×Bool×Bool):=cond a (some (false,false,true,false,false,false)) (cond (decide<|op=5) (some (false,false,true,false,true,true))<|cond (decide<|op=6) (some (true,true,true,true,true,false))<|Yd n)
def PE(op:Int)(a:Bool):Option (Bool×Bool×Bool×Bool×Bool×Bool):=cond a (some (true,false,true,false,false,false)) (cond (decide<|op=3) (some (false,false,true,true,false,false))<|cond (decide<|op=4) (PD n op<|decide<|op=4)<|PD n op<|decide<|op=7)
def IN(op:Int):Option (Bool×Bool×Bool×Bool×Bool×Bool):=cond (decide<|op=1) (PE n op<|decide<|op=1) (PE n op<|decide<|op=2)
def PF(n:Nat)(a:Int):YX:=cond (decide<|12<a) (some 2) (some 0)
def PG(a:Int)(r1:Bool×Bool×Bool×Bool×Bool×Bool)(s:Bj):YX:=cond r1.2.2.2.1 ((IM n s.B).bind λb=>cond (!decide (b=0)) (some b)<|PF n a) (PF n a)
def PH(s:Bj)(b:Int):YX:=(IN n s.Op).bind λa=>(cond ((!(cond (cond (cond (decide<|s.Op<1) true<|decide<|8<s.Op) true<|cond (!a.1) (!(decide<|s.BY=[])) false) true<|cond (!a.2.1) (!decide (s.Max=0)) false))&&(!a.2.2.1)) (vM n s.A)<|some default).bind λc=>(cond ((!(cond (cond (cond (cond (decide<|s.Op<1) true<|decide<|8<s.Op) true<|cond (!a.1) (!(decide<|s.BY=[])) false) true<|cond (!a.2.1) (!decide (s.Max=0)) false) true<|cond (!a.2.2.1) (!c) false))&&(!a.2.2.2.1)) (vM n s.B)<|some default).bind λe=>cond (cond (cond (cond (cond (cond (cond (cond (decide<|s.Op<1) true<|decide<|8<s.Op) true<|cond (!a.1) (!(decide<|s.BY=[])) false) true<|cond (!a.2.1) (!decide (s.Max=0)) false) true<|cond (!a.2.2.1) (!c) false) true<|cond (!a.2.2.2.1) (!e) false) true<|cond (!a.2.2.2.2.1) (decide<|0<(s.BZ.length:Int)) false) true<|cond (!a.2.2.2.2.2) (decide<|0<(s.b0.length:Int)) false) (some 1) (cond (cond (cond (decide<|s.Op=6) (cond (decide<|s.Max<1) true<|decide<|16<s.Max) false) true<|cond (decide<|s.Op=8) (cond (decide<|s.Max<0) true<|decide<|999<s.Max) false) (some 1)<|(cond a.1 (xp n s.BY)<|some default).bind λf=>cond (cond a.1 (!f) false) (some 7)<|cond a.2.2.1 ((IM n s.A).bind λd=>cond (!decide (d=0)) (some d)<|PG n b a s)<|PG n b a s)
def Ye(n:Nat)(a:(List cS)):YX:=cond (decide<|400<(a.length:Int)) (some 2) (some 0)
def PI(n:Nat)(a:Int->YX)(b:(List cS))(v11:Int):YX:=a (YV<|v11+1)
def Yf(a:(List cS))(c:Int->YX)(v11:Int):YX:=cond (decide<|v11<(a.length:Int)) (ao (aP v11 a.length)<|cond ((yP a v11).se) (ao (aP v11 a.length)<|ao (aP v11 a.length)<|(PH n ((yP a v11).Bj)<|(yP a v11).GQ).bind λb=>cond (!decide (b=0)) (some b)<|PI n c a v11)<|PI n c a v11) (Ye n a)
def D1(n:Nat)(a:(List cS)):Nat->Int->YX
 | 0=>λ_=>none
 |m+1=>Yf n a (D1 n a m)
def PJ(p:bk):YX:=(xp n p.BY).bind λb=>cond (!b) (some 7) ((PA n p.Cq).bind λa=>cond (!decide (a=0)) (some a)<|(X4 n p).bind λc=>D1 n c n 0)
def Yg(n:Nat)(a:Int):YX:=cond (decide<|a<0) (some<|IntKind.u64.wrap<|0-(IntKind.u64.wrap a)) (some<|IntKind.u64.wrap a)
def IP(n:Nat)(ev:Int)(a:UB):Option UB:=cond (decide<|ev<0) (ao (bF<|([45]:UB).length+a.length)<|some<|[45]++a) (some a)
def vP(b:Int)(ak:Int->UB->Option UB)(a:Int)(bH:UB):Option UB:=cond (cond (decide<|0<a) true<|decide<|bH=[]) (ao (n0 [(IntKind.u8.wrap<|IntKind.u64.wrap<|48+(Int.tmod a 10))])<|ao (bF<|(jh [(IntKind.u8.wrap<|IntKind.u64.wrap<|48+(Int.tmod a 10))]).length+bH.length)<|ak (IntKind.u64.wrap<|Int.tdiv a 10)<|(jh [(IntKind.u8.wrap<|IntKind.u64.wrap<|48+(Int.tmod a 10))])++bH) (IP n b bH)
def ss(n:Nat)(a:Int):Nat->Int->UB->Option UB
 | 0=>λ_ _=>none
 |m+1=>vP n a (ss n a m)
def Ak(a:Int):Option UB:=(Yg n a).bind λb=>ss n a n b []
def Yh(n:Nat)(a:UB):Option UB:=some a
def Yi(a:Int)(ak:UB->Int->Option UB)(v4:UB)(v5:Int):Option UB:=cond (decide<|v5<a) (ao (bF<|v4.length+([32,32,32,32]:UB).length)<|ak (v4++[32,32,32,32])<|YV<|v5+1) (Yh n v4)
def IQ(n:Nat)(a:Int):Nat->UB->Int->Option UB
 | 0=>λ_ _=>none
 |m+1=>Yi n a (IQ n a m)
def Yj(a:Int):Option UB:=IQ n a n [] 0
def Yk(n:Nat):UM:=some true
def Yl(s:UB)(ak:Int->UM)(v4:Int):UM:=cond (decide<|v4<(s.length:Int)) (ao (aP v4 s.length)<|ao ((decide<|(((s.getD (v4).toNat 0).toNat:Nat):Int)<32)||aP v4 s.length)<|cond (cond (decide<|(((s.getD (v4).toNat 0).toNat:Nat):Int)<32) true<|decide<|126<(((s.getD (v4).toNat 0).toNat:Nat):Int)) (some false)<|ak<|YV<|v4+1) (Yk n)
def D2(n:Nat)(s:UB):Nat->Int->UM
 | 0=>λ_=>none
 |m+1=>Yl n s (D2 n s m)
def Ym(s:UB):UM:=D2 n s n 0
def Yn(n:Nat)(v24:UB):Option (UB×Int):=ao (bF<|v24.length+([34]:UB).length)<|some ((v24++[34]),0)
def Yo(n:Nat)(b:UB->Int->Option (UB×Int))(s:UB)(bZ:Int)(a:UB):Option (UB×Int):=b a (YV<|bZ+1)
def PK(a:UB->Int->Option (UB×Int))(s:UB)(bZ:Int)(cB:UB):Option (UB×Int):=ao (oY bZ (YV<|bZ+1) s.length)<|ao (bF<|cB.length+((s.take ((YV<|bZ+1)).toNat).drop (bZ).toNat).length)<|Yo n a s bZ (cB++((s.take ((YV<|bZ+1)).toNat).drop (bZ).toNat))
def Yp(s:UB)(a:UB->Int->Option (UB×Int))(cx:UB)(bZ:Int):Option (UB×Int):=cond (decide<|bZ<(s.length:Int)) (ao (aP bZ s.length)<|ao ((decide<|(((s.getD (bZ).toNat 0).toNat:Nat):Int)=34)||aP bZ s.length)<|cond (cond (decide<|(((s.getD (bZ).toNat 0).toNat:Nat):Int)=34) true<|decide<|(((s.getD (bZ).toNat 0).toNat:Nat):Int)=92) (ao (bF<|cx.length+([92]:UB).length)<|PK n a s bZ<|cx++[92])<|PK n a s bZ cx) (Yn n cx)
def IR(n:Nat)(s:UB):Nat->UB->Int->Option (UB×Int)
 | 0=>λ_ _=>none
 |m+1=>Yp n s (IR n s m)
def PL(s:UB):Option (UB×Int):=cond (decide<|64<(s.length:Int)) (some ([],2)) ((Ym n s).bind λa=>cond (!a) (some ([],1))<|IR n s n [34] 0)
def agb(n:Nat):YX:=some 9
def PM(op:Int)(a:Bool):YX:=cond a (some 7) (cond (decide<|op=9) (some 8)<|agb n)
def Yq(op:Int)(a:Bool):YX:=cond a (some 6) (cond (decide<|op=6) (PM n op<|decide<|op=6)<|cond (decide<|op=7) (PM n op<|decide<|op=7)<|PM n op<|decide<|op=8)
def Al(op:Int)(a:Bool):YX:=cond a (some 4) (cond (decide<|op=19) (some 5)<|cond (decide<|op=4) (Yq n op<|decide<|op=4)<|Yq n op<|decide<|op=5)
def PN(op:Int):YX:=cond (decide<|op=17) (some 1) (cond (decide<|op=16) (some 2)<|cond (decide<|op=18) (some 3)<|cond (decide<|op=10) (Al n op<|decide<|op=10)<|cond (decide<|op=11) (Al n op<|decide<|op=11)<|cond (decide<|op=12) (Al n op<|decide<|op=12)<|cond (decide<|op=13) (Al n op<|decide<|op=13)<|cond (decide<|op=14) (Al n op<|decide<|op=14)<|Al n op<|decide<|op=15)
def PO(n:Nat)(op:Int):Option UB:=cond (decide<|op=17) (some [111,114]) (cond (decide<|op=16) (some [97,110,100])<|cond (decide<|op=10) (some [61,61])<|cond (decide<|op=11) (some [33,61])<|cond (decide<|op=12) (some [60])<|cond (decide<|op=13) (some [60,61])<|cond (decide<|op=14) (some [62])<|cond (decide<|op=15) (some [62,61])<|cond (decide<|op=19) (some [43,43])<|cond (decide<|op=4) (some [43])<|cond (decide<|op=5) (some [45])<|cond (decide<|op=6) (some [42])<|cond (decide<|op=7) (some [47])<|some [37])
def PP(n:Nat)(op:Int):Option UB:=cond (decide<|op=20) (some [116,101,120,116]) (cond (decide<|op=21) (some [108,101,110])<|cond (decide<|op=22) (some [103,101,116,105,110,116])<|cond (decide<|op=23) (some [103,101,116,115,116,114])<|cond (decide<|op=24) (some [104,97,115])<|cond (decide<|op=25) (some [110,111,119])<|cond (decide<|op=26) (some [114,97,110,100,111,109])<|some [110,111,100,101])
def PQ(j:Bi->Option UB)(a:Bi->Int->Option UB)(e:Bi):Option UB:=(PN n e.Op).bind λr1=>cond (decide<|e.Op=1) ((Ak n e.N).bind λk=>some k) (cond (decide<|e.Op=2) ((PL n e.S).bind λl=>some l.1)<|cond (decide<|e.Op=3) (some e.S)<|cond (decide<|e.Op=18) (ao (aP 0 e.ax.length)<|(a (e.ax.getD 0 default) r1).bind λi=>ao (bF<|([110,111,116,32]:UB).length+i.length)<|some<|[110,111,116,32]++i)<|cond (decide<|e.Op=9) (ao (aP 0 e.ax.length)<|(a (e.ax.getD 0 default) r1).bind λh=>ao (bF<|([45]:UB).length+h.length)<|some<|[45]++h)<|cond (cond (decide<|r1=9) (decide<|(e.ax.length:Int)=0) false) ((PP n e.Op).bind λeG=>ao (bF<|eG.length+([40,41]:UB).length)<|some<|eG++[40,41])<|cond (decide<|r1=9) ((PP n e.Op).bind λfo=>ao (bF<|fo.length+([40]:UB).length)<|ao (aP 0 e.ax.length)<|(j<|e.ax.getD 0 default).bind λd=>ao (bF<|(fo++[40]).length+d.length)<|ao (bF<|((fo++[40])++d).length+([41]:UB).length)<|some<|((fo++[40])++d)++[41])<|cond (decide<|r1=4) (ao (aP 0 e.ax.length)<|(a (e.ax.getD 0 default) 5).bind λr27=>ao (bF<|r27.length+([32]:UB).length)<|(PO n e.Op).bind λc=>ao (bF<|(r27++[32]).length+c.length)<|ao (bF<|((r27++[32])++c).length+([32]:UB).length)<|ao (aP 1 e.ax.length)<|(a (e.ax.getD 1 default) 5).bind λf=>ao (bF<|(((r27++[32])++c)++[32]).length+f.length)<|some<|(((r27++[32])++c)++[32])++f) (ao (aP 0 e.ax.length)<|(a (e.ax.getD 0 default) r1).bind λp9=>ao (bF<|p9.length+([32]:UB).length)<|(PO n e.Op).bind λb=>ao (bF<|(p9++[32]).length+b.length)<|ao (bF<|((p9++[32])++b).length+([32]:UB).length)<|ao (aP 1 e.ax.length)<|(a (e.ax.getD 1 default)<|YV<|r1+1).bind λg=>ao (bF<|(((p9++[32])++b)++[32]).length+g.length)<|some<|(((p9++[32])++b)++[32])++g))
def PR(b:Bi->Option UB)(d:Bi->Int->Option UB)(e:Bi)(least:Int):Option UB:=(PN n e.Op).bind λr1=>cond (decide<|r1<least) ((b e).bind λa=>ao (bF<|([40]:UB).length+a.length)<|ao (bF<|([40]++a).length+([41]:UB).length)<|some<|([40]++a)++[41]) ((b e).bind λc=>some c)
def D3:Nat->(Bi->Option UB)×(Bi->Int->Option UB)
 | 0=>(λ_=>none,λ_ _=>none)
 |m+1=>(PQ m ((D3 m).1)<|(D3 m).2,PR m ((D3 m).1)<|(D3 m).2)
def mD:Bi->Option UB:=(D3 n).1
def Am:Bi->Int->Option UB:=(D3 n).2
def Yr(n:Nat)(b:(List Bj)->Int->Option UB)(c:Bj->Int->Option UB)(a:UB):Option UB:=some a
def Ys(d:(List Bj)->Int->Option UB)(b:Bj->Int->Option UB)(l:List Bj)(a:Int)(ak:UB->Int->Option UB)(v6:UB)(bH:Int):Option UB:=cond (decide<|bH<(l.length:Int)) (ao (aP bH l.length)<|(b (yP l bH) a).bind λc=>ao (bF<|v6.length+c.length)<|ak (v6++c)<|YV<|bH+1) (Yr n d b v6)
def IS(n:Nat)(b:(List Bj)->Int->Option UB)(c:Bj->Int->Option UB)(l:List Bj)(a:Int):Nat->UB->Int->Option UB
 | 0=>λ_ _=>none
 |m+1=>Ys n b c l a (IS n b c l a m)
def PS(b:(List Bj)->Int->Option UB)(c:Bj->Int->Option UB)(l:List Bj)(a:Int):Option UB:=IS n b c l a n [] 0
def IT(n:Nat)(a:(List Bj)->Int->Option UB)(b:Bj->Int->Option UB)(su:UB):Option UB:=ao (bF<|su.length+([10]:UB).length)<|some (su++[10])
def PT(f:(List Bj)->Int->Option UB)(q:Bj->Int->Option UB)(x:Bj)(depth:Int):Option UB:=(Yj n depth).bind λr1=>cond (decide<|x.Op=1) (ao (bF<|r1.length+([108,101,116,32]:UB).length)<|ao (bF<|(r1++[108,101,116,32]).length+x.BY.length)<|ao (bF<|((r1++[108,101,116,32])++x.BY).length+([32,61,32]:UB).length)<|(mD n x.A).bind λp=>ao (bF<|(((r1++[108,101,116,32])++x.BY)++[32,61,32]).length+p.length)<|ao (bF<|((((r1++[108,101,116,32])++x.BY)++[32,61,32])++p).length+([59,10]:UB).length)<|some<|((((r1++[108,101,116,32])++x.BY)++[32,61,32])++p)++[59,10]) (cond (decide<|x.Op=2) (ao (bF<|r1.length+x.BY.length)<|ao (bF<|(r1++x.BY).length+([32,61,32]:UB).length)<|(mD n x.A).bind λm=>ao (bF<|((r1++x.BY)++[32,61,32]).length+m.length)<|ao (bF<|(((r1++x.BY)++[32,61,32])++m).length+([59,10]:UB).length)<|some<|(((r1++x.BY)++[32,61,32])++m)++[59,10])<|cond (decide<|x.Op=3) (ao (bF<|r1.length+([112,117,116,32]:UB).length)<|(mD n x.A).bind λg=>ao (bF<|(r1++[112,117,116,32]).length+g.length)<|ao (bF<|((r1++[112,117,116,32])++g).length+([32,61,32]:UB).length)<|(mD n x.B).bind λo=>ao (bF<|(((r1++[112,117,116,32])++g)++[32,61,32]).length+o.length)<|ao (bF<|((((r1++[112,117,116,32])++g)++[32,61,32])++o).length+([59,10]:UB).length)<|some<|((((r1++[112,117,116,32])++g)++[32,61,32])++o)++[59,10])<|cond (decide<|x.Op=4) (ao (bF<|r1.length+([100,101,108,101,116,101,32]:UB).length)<|(mD n x.A).bind λl=>ao (bF<|(r1++[100,101,108,101,116,101,32]).length+l.length)<|ao (bF<|((r1++[100,101,108,101,116,101,32])++l).length+([59,10]:UB).length)<|some<|((r1++[100,101,108,101,116,101,32])++l)++[59,10])<|cond (decide<|x.Op=7) (ao (bF<|r1.length+([101,109,105,116,32]:UB).length)<|(mD n x.A).bind λk=>ao (bF<|(r1++[101,109,105,116,32]).length+k.length)<|ao (bF<|((r1++[101,109,105,116,32])++k).length+([59,10]:UB).length)<|some<|((r1++[101,109,105,116,32])++k)++[59,10])<|cond (decide<|x.Op=8) (ao (bF<|r1.length+([97,98,111,114,116,32]:UB).length)<|(Ak n x.Max).bind λj=>ao (bF<|(r1++[97,98,111,114,116,32]).length+j.length)<|ao (bF<|((r1++[97,98,111,114,116,32])++j).length+([59,10]:UB).length)<|some<|((r1++[97,98,111,114,116,32])++j)++[59,10])<|cond (decide<|x.Op=6) (ao (bF<|r1.length+([102,111,114,32]:UB).length)<|ao (bF<|(r1++[102,111,114,32]).length+x.BY.length)<|ao (bF<|((r1++[102,111,114,32])++x.BY).length+([32,61,32]:UB).length)<|(mD n x.A).bind λb=>ao (bF<|(((r1++[102,111,114,32])++x.BY)++[32,61,32]).length+b.length)<|ao (bF<|((((r1++[102,111,114,32])++x.BY)++[32,61,32])++b).length+([32,116,111,32]:UB).length)<|(mD n x.B).bind λd=>ao (bF<|(((((r1++[102,111,114,32])++x.BY)++[32,61,32])++b)++[32,116,111,32]).length+d.length)<|ao (bF<|((((((r1++[102,111,114,32])++x.BY)++[32,61,32])++b)++[32,116,111,32])++d).length+([32,109,97,120,32]:UB).length)<|(Ak n x.Max).bind λe=>ao (bF<|(((((((r1++[102,111,114,32])++x.BY)++[32,61,32])++b)++[32,116,111,32])++d)++[32,109,97,120,32]).length+e.length)<|ao (bF<|((((((((r1++[102,111,114,32])++x.BY)++[32,61,32])++b)++[32,116,111,32])++d)++[32,109,97,120,32])++e).length+([32,123,10]:UB).length)<|(f x.BZ<|YV<|depth+1).bind λi=>ao (bF<|(((((((((r1++[102,111,114,32])++x.BY)++[32,61,32])++b)++[32,116,111,32])++d)++[32,109,97,120,32])++e)++[32,123,10]).length+i.length)<|ao (bF<|((((((((((r1++[102,111,114,32])++x.BY)++[32,61,32])++b)++[32,116,111,32])++d)++[32,109,97,120,32])++e)++[32,123,10])++i).length+r1.length)<|ao (bF<|(((((((((((r1++[102,111,114,32])++x.BY)++[32,61,32])++b)++[32,116,111,32])++d)++[32,109,97,120,32])++e)++[32,123,10])++i)++r1).length+([125,10]:UB).length)<|some<|(((((((((((r1++[102,111,114,32])++x.BY)++[32,61,32])++b)++[32,116,111,32])++d)++[32,109,97,120,32])++e)++[32,123,10])++i)++r1)++[125,10]) (ao (bF<|r1.length+([105,102,32]:UB).length)<|(mD n x.A).bind λa=>ao (bF<|(r1++[105,102,32]).length+a.length)<|ao (bF<|((r1++[105,102,32])++a).length+([32,123,10]:UB).length)<|(f x.BZ<|YV<|depth+1).bind λc=>ao (bF<|(((r1++[105,102,32])++a)++[32,123,10]).length+c.length)<|ao (bF<|((((r1++[105,102,32])++a)++[32,123,10])++c).length+r1.length)<|ao (bF<|(((((r1++[105,102,32])++a)++[32,123,10])++c)++r1).length+([125]:UB).length)<|cond (decide<|0<(x.b0.length:Int)) (ao (bF<|((((((r1++[105,102,32])++a)++[32,123,10])++c)++r1)++[125]).length+([32,101,108,115,101,32,123,10]:UB).length)<|(f x.b0<|YV<|depth+1).bind λh=>ao (bF<|(((((((r1++[105,102,32])++a)++[32,123,10])++c)++r1)++[125])++[32,101,108,115,101,32,123,10]).length+h.length)<|ao (bF<|((((((((r1++[105,102,32])++a)++[32,123,10])++c)++r1)++[125])++[32,101,108,115,101,32,123,10])++h).length+r1.length)<|ao (bF<|(((((((((r1++[105,102,32])++a)++[32,123,10])++c)++r1)++[125])++[32,101,108,115,101,32,123,10])++h)++r1).length+([125]:UB).length)<|IT n f q<|(((((((((r1++[105,102,32])++a)++[32,123,10])++c)++r1)++[125])++[32,101,108,115,101,32,123,10])++h)++r1)++[125])<|IT n f q<|(((((r1++[105,102,32])++a)++[32,123,10])++c)++r1)++[125]))
def D4:Nat->((List Bj)->Int->Option UB)×(Bj->Int->Option UB)
 | 0=>(λ_ _=>none,λ_ _=>none)
 |m+1=>(PS m ((D4 m).1)<|(D4 m).2,PT m ((D4 m).1)<|(D4 m).2)
def tZ:(List Bj)->Int->Option UB:=(D4 n).1
def D5:Bj->Int->Option UB:=(D4 n).2
def Yt(n:Nat)(ty:Int):Option UB:=cond (decide<|ty=1) (some [105,110,116]) (cond (decide<|ty=2) (some [115,116,114])<|some [98,111,111,108])
def Yu(p:bk)(gg:UB):Option UB:=ao (bF<|gg.length+([41,32,123,10]:UB).length)<|(tZ n p.BZ 1).bind λa=>ao (bF<|(gg++[41,32,123,10]).length+a.length)<|ao (bF<|((gg++[41,32,123,10])++a).length+([125,10]:UB).length)<|some (((gg++[41,32,123,10])++a)++[125,10])
def Yv(n:Nat)(b:UB->Int->Option UB)(bL:Int)(p:bk)(a:UB):Option UB:=b a (YV<|bL+1)
def PU(c:UB->Int->Option UB)(a:Int)(p:bk)(dj:UB):Option UB:=ao (aP a p.Cq.length)<|ao (bF<|dj.length+((yP p.Cq a).BY).length)<|ao (bF<|(dj++((yP p.Cq a).BY)).length+([58,32]:UB).length)<|ao (aP a p.Cq.length)<|(Yt n<|(yP p.Cq a).fT).bind λb=>ao (bF<|((dj++((yP p.Cq a).BY))++[58,32]).length+b.length)<|Yv n c a p (((dj++((yP p.Cq a).BY))++[58,32])++b)
def Yw(p:bk)(a:UB->Int->Option UB)(di:UB)(bL:Int):Option UB:=cond (decide<|bL<(p.Cq.length:Int)) (cond (decide<|0<bL) (ao (bF<|di.length+([44,32]:UB).length)<|PU n a bL p<|di++[44,32])<|PU n a bL p di) (Yu n p di)
def IU(n:Nat)(p:bk):Nat->UB->Int->Option UB
 | 0=>λ_ _=>none
 |m+1=>Yw n p (IU n p m)
def An(p:bk):Option UB:=(PJ n p).bind λa=>cond (!decide (a=0)) (some []) (ao (bF<|([112,114,111,99,32]:UB).length+p.BY.length)<|ao (bF<|([112,114,111,99,32]++p.BY).length+([40]:UB).length)<|IU n p n (([112,114,111,99,32]++p.BY)++[40]) 0)
def Yx(n:Nat)(l:List bk):UM:=some (decide<|(l.length:Int)<=16)
def PV(l:List bk)(ak:Int->UM)(v6:Int):UM:=cond (decide<|v6<(l.length:Int)) (ao (aP v6 l.length)<|(An n<|yP l v6).bind λcQ=>ao ((cond (decide<|cQ=[]) true<|decide<|16384<(cQ.length:Int))||(!(decide<|0<v6)||aP (YV<|v6-1) l.length))<|ao ((cond (decide<|cQ=[]) true<|decide<|16384<(cQ.length:Int))||(!(decide<|0<v6)||aP v6 l.length))<|cond (cond (cond (decide<|cQ=[]) true<|decide<|16384<(cQ.length:Int)) true<|cond (decide<|0<v6) (!(Op.bytesLess ((yP l<|YV<|v6-1).BY)<|(yP l v6).BY)) false) (some false)<|ak<|YV<|v6+1) (Yx n l)
def D6(n:Nat)(l:List bk):Nat->Int->UM
 | 0=>λ_=>none
 |m+1=>PV n l (D6 n l m)
def PW(l:List bk):UM:=D6 n l n 0
def Yy(n:Nat):UM:=some true
def PX(l:List UB)(ak:Int->UM)(v6:Int):UM:=cond (decide<|v6<(l.length:Int)) (ao (aP v6 l.length)<|(Ac n<|yP l v6).bind λa=>ao ((!a)||(!(decide<|0<v6)||aP (YV<|v6-1) l.length))<|ao ((!a)||(!(decide<|0<v6)||aP v6 l.length))<|cond (cond (!a) true<|cond (decide<|0<v6) (!(Op.bytesLess (yP l<|YV<|v6-1)<|yP l v6)) false) (some false)<|ak<|YV<|v6+1) (Yy n)
def D7(n:Nat)(l:List UB):Nat->Int->UM
 | 0=>λ_=>none
 |m+1=>PX n l (D7 n l m)
def IV(l:List UB):UM:=D7 n l n 0
def IW(f:hQ):UM:=cond f.fl (some<|cond (decide<|(f.Reads.length:Int)=0) (decide<|(f.cp.length:Int)=0) false) ((cond (cond (decide<|(f.Reads.length:Int)<=64) (decide<|(f.cp.length:Int)<=64) false) (IV n f.Reads)<|some default).bind λa=>(cond (cond (cond (decide<|(f.Reads.length:Int)<=64) (decide<|(f.cp.length:Int)<=64) false) a false) (IV n f.cp)<|some default).bind λb=>some<|cond (cond (cond (decide<|(f.Reads.length:Int)<=64) (decide<|(f.cp.length:Int)<=64) false) a false) b false)
def Yz(a:BE):YX:=(IW n a.bM).bind λb=>cond (cond (cond (!b) true a.bM.fl) true<|cond (!a.eV) (decide<|0<(YV<|(a.bM.Reads.length:Int)+(a.bM.cp.length:Int))) false) (some 1) (some 0)
def PY(a:BE)(ak:Int->YX)(v9:Int):YX:=cond (decide<|v9<(a.ax.length:Int)) (ao (aP v9 a.ax.length)<|(xl n<|yP a.ax v9).bind λb=>ao ((!b)||aP v9 a.ax.length)<|cond (cond (!b) true<|decide<|(yP a.ax v9).Cc=0) (some 1)<|ak<|YV<|v9+1) (Yz n a)
def Ao(n:Nat)(a:BE):Nat->Int->YX
 | 0=>λ_=>none
 |m+1=>PY n a (Ao n a m)
def t'(ae:BE):YX:=cond (cond (cond (cond (decide<|ae.Et<1) true<|decide<|32<ae.Et) true<|decide<|ae.Seq<1) true<|decide<|1099511627776<ae.Seq) (some 1) ((xp n ae.bk).bind λa=>cond (!a) (some 7)<|cond (decide<|6<(ae.ax.length:Int)) (some 2)<|Ao n ae n 0)
def YA(n:Nat)(l:List BE):UM:=some (decide<|(l.length:Int)<=64)
def PZ(l:List BE)(ak:Int->UM)(v4:Int):UM:=cond (decide<|v4<(l.length:Int)) (ao (aP v4 l.length)<|(t' n<|yP l v4).bind λa=>cond (!decide (a=0)) (some false)<|ak<|YV<|v4+1) (YA n l)
def D8(n:Nat)(l:List BE):Nat->Int->UM
 | 0=>λ_=>none
 |m+1=>PZ n l (D8 n l m)
def P0(l:List BE):UM:=D8 n l n 0
def D9(ae:bK):UM:=(cond (cond (decide<|0<=ae.Pos) (decide<|ae.Pos<=1099511627776) false) (Af n ae.aq)<|some default).bind λa=>(cond (cond (cond (cond (decide<|0<=ae.Pos) (decide<|ae.Pos<=1099511627776) false) a false) (decide<|ae.aq.bi=ae.Pos) false) (PW n ae.bY)<|some default).bind λb=>(cond (cond (cond (cond (cond (decide<|0<=ae.Pos) (decide<|ae.Pos<=1099511627776) false) a false) (decide<|ae.aq.bi=ae.Pos) false) b false) (Aj n ae.b7)<|some default).bind λc=>(cond (cond (cond (cond (cond (cond (decide<|0<=ae.Pos) (decide<|ae.Pos<=1099511627776) false) a false) (decide<|ae.aq.bi=ae.Pos) false) b false) c false) (Pp n ae.EG)<|some default).bind λd=>(cond (cond (cond (cond (cond (cond (cond (decide<|0<=ae.Pos) (decide<|ae.Pos<=1099511627776) false) a false) (decide<|ae.aq.bi=ae.Pos) false) b false) c false) d false) (Pr n ae.be)<|some default).bind λe=>(cond (cond (cond (cond (cond (cond (cond (cond (decide<|0<=ae.Pos) (decide<|ae.Pos<=1099511627776) false) a false) (decide<|ae.aq.bi=ae.Pos) false) b false) c false) d false) e false) (P0 n ae.EK)<|some default).bind λf=>some (cond (cond (cond (cond (cond (cond (cond (cond (decide<|0<=ae.Pos) (decide<|ae.Pos<=1099511627776) false) a false) (decide<|ae.aq.bi=ae.Pos) false) b false) c false) d false) e false) f false)
def D'(a:bK):Option (bK×Int):=(D9 n a).bind λc=>cond (!c) (some (⟨0,⟨0,0,[]⟩,[],[],⟨0,[]⟩,[],[],0⟩,1)) ((DT n a.aq a.Pos).bind λb=>(Ad n b.1 a.Pos).bind λd=>some (⟨a.Pos,d.1,a.bY,a.b7,a.EG,a.be,a.EK,a.cN⟩,0))
def IX(a b:bK):UM:=(D' n a).bind λr1=>(D' n b).bind λr2=>(cond (cond (decide<|r1.2=0) (decide<|r2.2=0) false) (Pk n r1.1 r2.1)<|some default).bind λc=>some (cond (cond (decide<|r1.2=0) (decide<|r2.2=0) false) c false)
def D_:UM:=(afV n).bind λa=>(Ic n a).bind λr2=>(z7 n r2.1 a.aq 2).bind λr3=>(aga n a.aq 6 [⟨[99],⟨0,0,[]⟩⟩]).bind λg=>(Ii n r3.1 [120]).bind λe=>(z7 n e g.1 2).bind λbq=>(Dq n bq.1).bind λcO=>(Ik n cO.1).bind λb=>(Dq n r3.1).bind λf=>cond (cond (cond (cond (cond (cond (!decide (r2.2=0)) true<|!decide (r3.2=0)) true<|!decide (bq.2=0)) true<|!decide (cO.2.2=0)) true<|!decide (b.2.2=0)) true<|!decide (f.2.2=16)) (some false) ((cond (cond (cond (cond (cond (cond (cond (cond (decide<|r2.1.br=5) (decide<|(r3.1.fg.length:Int)=2) false) (decide<|r3.1.Next=[99]) false) (!r3.1.dO) false) (decide<|(bq.1.fg.length:Int)=3) false) (decide<|bq.1.Next=[]) false) bq.1.dO false) (decide<|cO.2.1=6) false) (IX n b.1 a)<|some default).bind λc=>(cond (cond (cond (cond (cond (cond (cond (cond (cond (decide<|r2.1.br=5) (decide<|(r3.1.fg.length:Int)=2) false) (decide<|r3.1.Next=[99]) false) (!r3.1.dO) false) (decide<|(bq.1.fg.length:Int)=3) false) (decide<|bq.1.Next=[]) false) bq.1.dO false) (decide<|cO.2.1=6) false) c false) (Ae n b.2.1 [[120]])<|some default).bind λd=>some<|cond (cond (cond (cond (cond (cond (cond (cond (cond (decide<|r2.1.br=5) (decide<|(r3.1.fg.length:Int)=2) false) (decide<|r3.1.Next=[99]) false) (!r3.1.dO) false) (decide<|(bq.1.fg.length:Int)=3) false) (decide<|bq.1.Next=[]) false) bq.1.dO false) (decide<|cO.2.1=6) false) c false) d false)
def IY(n:Nat)(ae:Row)(k:UB):YX:=cond (Op.bytesLess ae.Key k) (some<|-1) (cond (!((Op.bytesLess ae.Key k)||(decide<|ae.Key=k))) (some 1)<|some 0)
def YB(x:List Row)(target:UB)(v11:Int):Option (Int×Bool):=ao (!(decide<|v11<(x.length:Int))||aP v11 x.length)<|(cond (decide<|v11<(x.length:Int)) (IY n (yP x v11) target)<|some default).bind λdP=>some (v11,(cond (decide<|v11<(x.length:Int)) (decide<|dP=0) false))
def YC(x:List Row)(target:UB)(ak:Int->Int->Option (Int×Bool))(a v6:Int):Option (Int×Bool):=cond (decide<|v6<a) (ao (aP (YV<|mq .u64 (IntKind.u64.wrap<|YV<|v6+a) 1) x.length)<|(IY n (yP x<|YV<|mq .u64 (IntKind.u64.wrap<|YV<|v6+a) 1) target).bind λcQ=>cond (decide<|cQ<0) (ak a<|YV<|(YV<|mq .u64 (IntKind.u64.wrap<|YV<|v6+a) 1)+1)<|ak (YV<|mq .u64 (IntKind.u64.wrap<|YV<|v6+a) 1) v6) (YB n x target v6)
def IZ(n:Nat)(x:List Row)(target:UB):Nat->Int->Int->Option (Int×Bool)
 | 0=>λ_ _=>none
 |m+1=>YC n x target (IZ n x target m)
def YD(x:List Row)(target:UB):Option (Int×Bool):=IZ n x target n (x.length:Int) 0
def Ea(rows:List Row)(a:UB):Option (Int×Bool):=(YD n rows a).bind λb=>some (b.1,b.2)
def YE(n:Nat):UM:=some true
def P1(l:List aQ)(ak:Int->UM)(v6:Int):UM:=cond (decide<|v6<(l.length:Int)) (ao (aP v6 l.length)<|(w7 n<|(yP l v6).Key).bind λa=>(cond (!(!a)) (sh n<|(yP l v6).aY)<|some default).bind λb=>ao ((cond (!a) true<|!b)||(!(decide<|0<v6)||aP (YV<|v6-1) l.length))<|cond (cond (cond (!a) true<|!b) true<|cond (decide<|0<v6) ((Op.bytesLess ((yP l v6).Key)<|(yP l<|YV<|v6-1).Key)||(decide<|((yP l v6).Key)=((yP l<|YV<|v6-1).Key))) false) (some false)<|ak<|YV<|v6+1) (YE n)
def Eb(n:Nat)(l:List aQ):Nat->Int->UM
 | 0=>λ_=>none
 |m+1=>P1 n l (Eb n l m)
def P2(l:List aQ):UM:=Eb n l n 0
def P3(n:Nat)(s:List Br):Option (List Br):=ao (room (([]:List Br).length+s.length) 40)<|some ([]++s)
def xu(s:aq)(b:Int)(a:List aQ):Option (aq×Int):=(vr n s).bind λd=>cond (!d) (some (⟨0,0,[]⟩,1)) ((P2 n a).bind λc=>cond (!c) (some (⟨0,0,[]⟩,1))<|cond (decide (b<=s.bi)||decide (1099511627776<b)) (some (⟨0,0,[]⟩,16)) (ao (zl s.Rows)<|ao (bF a.length)<|(w6 (Ea n) (p7 n) b s.bi a s.Rows).bind λR=>some (⟨s.bu,b,R⟩,0)))
def YF(n:Nat)(a:Int)(v12:UB):Option UB:=ao (n0 [(IntKind.u8.wrap a)])<|ao (bF<|v12.length+(jh [(IntKind.u8.wrap a)]).length)<|some (v12++(jh [(IntKind.u8.wrap a)]))
def YG(ak:Int->UB->Option UB)(a:Int)(v6:UB):Option UB:=cond (decide<|128<=a) (ao (n0 [(IntKind.u8.wrap<|(IntKind.u8.wrap<|Int.tmod a 128)+128)])<|ao (bF<|v6.length+(jh [(IntKind.u8.wrap<|(IntKind.u8.wrap<|Int.tmod a 128)+128)]).length)<|ak (IntKind.u64.wrap<|Int.tdiv a 128)<|v6++(jh [(IntKind.u8.wrap<|(IntKind.u8.wrap<|Int.tmod a 128)+128)])) (YF n a v6)
def I0(n:Nat):Nat->Int->UB->Option UB
 | 0=>λ_ _=>none
 |m+1=>YG n (I0 n m)
def iQ(u:Int):Option UB:=I0 n n u []
def qf(s:UB):Option UB:=(iQ n<|IntKind.u64.wrap (s.length:Int)).bind λr1=>ao (bF<|r1.length+s.length)<|some (r1++s)
def P4(n:Nat)(ev:Int):YX:=cond (decide<|ev<0) (some<|IntKind.u64.wrap<|(IntKind.u64.wrap<|2*(IntKind.u64.wrap<|YV<|0-(YV<|ev+1)))+1) (some<|IntKind.u64.wrap<|2*(IntKind.u64.wrap ev))
def t_(c:Int):Option UB:=(P4 n c).bind λb=>(iQ n b).bind λa=>some a
def Ec(v:bJ):Option UB:=cond (decide<|v.Cc=1) ((iQ n 1).bind λr2=>(t_ n v.N).bind λa=>ao (bF<|r2.length+a.length)<|some<|r2++a) (cond (decide<|v.Cc=2) ((iQ n 2).bind λbq=>(qf n v.S).bind λb=>ao (bF<|bq.length+b.length)<|some<|bq++b)<|(iQ n 0).bind λc=>some c)
def YH(n:Nat)(a:UB):Option UB:=some a
def P5(l:List aQ)(ak:UB->Int->Option UB)(v10:UB)(v11:Int):Option UB:=cond (decide<|v11<(l.length:Int)) (ao (aP v11 l.length)<|(qf n<|(yP l v11).Key).bind λa=>ao (bF<|v10.length+a.length)<|ao (aP v11 l.length)<|(Ec n<|(yP l v11).aY).bind λb=>ao (bF<|(v10++a).length+b.length)<|ak ((v10++a)++b)<|YV<|v11+1) (YH n v10)
def Ed(n:Nat)(l:List aQ):Nat->UB->Int->Option UB
 | 0=>λ_ _=>none
 |m+1=>P5 n l (Ed n l m)
def P6(l:List aQ):Option UB:=(iQ n<|IntKind.u64.wrap (l.length:Int)).bind λa=>Ed n l n a 0
def YI(n:Nat)(a:UB):Option UB:=some a
def P7(p:dv)(ak:UB->Int->Option UB)(bL:UB)(cB:Int):Option UB:=cond (decide<|cB<(p.aI.length:Int)) (ao (aP cB p.aI.length)<|(t_ n<|(yP p.aI cB).Id).bind λc=>ao (bF<|bL.length+c.length)<|(qf n<|(yP p.aI cB).ee).bind λd=>ao (bF<|(bL++c).length+d.length)<|(t_ n<|(yP p.aI cB).Node).bind λa=>ao (bF<|((bL++c)++d).length+a.length)<|(t_ n<|(yP p.aI cB).f0).bind λb=>ao (bF<|(((bL++c)++d)++a).length+b.length)<|(qf n<|(yP p.aI cB).dO).bind λe=>ao (bF<|((((bL++c)++d)++a)++b).length+e.length)<|ak (((((bL++c)++d)++a)++b)++e)<|YV<|cB+1) (YI n bL)
def Ee(n:Nat)(p:dv):Nat->UB->Int->Option UB
 | 0=>λ_ _=>none
 |m+1=>P7 n p (Ee n p m)
def I1(p:dv):Option UB:=(t_ n p.Br).bind λr1=>(iQ n<|IntKind.u64.wrap (p.aI.length:Int)).bind λa=>ao (bF<|r1.length+a.length)<|Ee n p n (r1++a) 0
def YJ(n:Nat)(b:Bool):Option UB:=cond b (some [1]) (some [0])
def YK(n:Nat)(a:UB):Option UB:=some a
def P8(l:List UB)(ak:UB->Int->Option UB)(bH:UB)(bI:Int):Option UB:=cond (decide<|bI<(l.length:Int)) (ao (aP bI l.length)<|(qf n<|yP l bI).bind λa=>ao (bF<|bH.length+a.length)<|ak (bH++a)<|YV<|bI+1) (YK n bH)
def Ef(n:Nat)(l:List UB):Nat->UB->Int->Option UB
 | 0=>λ_ _=>none
 |m+1=>P8 n l (Ef n l m)
def I2(l:List UB):Option UB:=(iQ n<|IntKind.u64.wrap (l.length:Int)).bind λa=>Ef n l n a 0
def I3(n:Nat)(a:UB):Option UB:=some a
def I4(c:BE)(v22:UB):Option UB:=(YJ n c.eV).bind λb=>ao (bF<|v22.length+b.length)<|cond c.eV ((I2 n c.bM.Reads).bind λd=>ao (bF<|(v22++b).length+d.length)<|(I2 n c.bM.cp).bind λa=>ao (bF<|((v22++b)++d).length+a.length)<|I3 n<|((v22++b)++d)++a) (I3 n<|v22++b)
def P9(a:BE)(ff:UB->Int->Option UB)(bE:UB)(di:Int):Option UB:=cond (decide<|di<(a.ax.length:Int)) (ao (aP di a.ax.length)<|(Ec n<|yP a.ax di).bind λb=>ao (bF<|bE.length+b.length)<|ff (bE++b)<|YV<|di+1) (I4 n a bE)
def Eg(n:Nat)(a:BE):Nat->UB->Int->Option UB
 | 0=>λ_ _=>none
 |m+1=>P9 n a (Eg n a m)
def P'(a:BE):Option UB:=(t' n a).bind λe=>cond (!decide (e=0)) (some []) ((iQ n<|IntKind.u64.wrap a.Et).bind λr3=>(iQ n<|IntKind.u64.wrap a.Seq).bind λb=>ao (bF<|r3.length+b.length)<|(qf n a.bk).bind λc=>ao (bF<|(r3++b).length+c.length)<|(iQ n<|IntKind.u64.wrap (a.ax.length:Int)).bind λd=>ao (bF<|((r3++b)++c).length+d.length)<|Eg n a n (((r3++b)++c)++d) 0)
def YL(n:Nat)(a:UB):Option UB:=some a
def P_(l:List BE)(ak:UB->Int->Option UB)(v10:UB)(v11:Int):Option UB:=cond (decide<|v11<(l.length:Int)) (ao (aP v11 l.length)<|(t' n<|yP l v11).bind λb=>cond (!decide (b=0)) (some []) (ao (aP v11 l.length)<|(P' n<|yP l v11).bind λa=>ao (bF<|v10.length+a.length)<|ak (v10++a)<|YV<|v11+1)) (YL n v10)
def Eh(n:Nat)(l:List BE):Nat->UB->Int->Option UB
 | 0=>λ_ _=>none
 |m+1=>P_ n l (Eh n l m)
def Ei(l:List BE):Option UB:=cond (decide<|64<(l.length:Int)) (some []) ((iQ n<|IntKind.u64.wrap (l.length:Int)).bind λa=>Eh n l n a 0)
def YM(n:Nat)(a:UB):Option UB:=some a
def Qa(o:Bt)(ak:UB->Int->Option UB)(v11:UB)(v12:Int):Option UB:=cond (decide<|v12<(o.Out.length:Int)) (ao (aP v12 o.Out.length)<|(Ec n<|yP o.Out v12).bind λa=>ao (bF<|v11.length+a.length)<|ak (v11++a)<|YV<|v12+1) (YM n v11)
def Ej(n:Nat)(o:Bt):Nat->UB->Int->Option UB
 | 0=>λ_ _=>none
 |m+1=>Qa n o (Ej n o m)
def Qb(o:Bt):Option UB:=(iQ n<|IntKind.u64.wrap o.Status).bind λr1=>(iQ n<|IntKind.u64.wrap o.Code).bind λa=>ao (bF<|r1.length+a.length)<|(iQ n<|IntKind.u64.wrap (o.Out.length:Int)).bind λb=>ao (bF<|(r1++a).length+b.length)<|Ej n o n ((r1++a)++b) 0
def YN(n:Nat)(a:UB):Option UB:=some a
def YO(n:Nat)(b:UB->Int->Option UB)(l:List b3)(v30:Int)(a:UB):Option UB:=b a (YV<|v30+1)
def Qd(c:UB->Int->Option UB)(l:List b3)(a:Int)(dL:UB->Int->Option UB)(sr:UB)(q7:Int):Option UB:=ao (aP a l.length)<|cond (decide<|q7<((((yP l a).ce).length:Nat):Int)) (ao (aP a l.length)<|ao (aP q7 ((yP l a).ce).length)<|(Qb n<|(((yP l a).ce).getD (q7).toNat default).Bt).bind λb=>ao (bF<|sr.length+b.length)<|dL (sr++b)<|YV<|q7+1) (YO n c l a sr)
def Ap(n:Nat)(b:UB->Int->Option UB)(l:List b3)(a:Int):Nat->UB->Int->Option UB
 | 0=>λ_ _=>none
 |m+1=>Qd n b l a (Ap n b l a m)
def Qe(l:List b3)(c:UB->Int->Option UB)(gg:UB)(v30:Int):Option UB:=cond (decide<|v30<(l.length:Int)) (ao (aP v30 l.length)<|(iQ n<|IntKind.u64.wrap<|(yP l v30).Et).bind λa=>ao (bF<|gg.length+a.length)<|ao (aP v30 l.length)<|(iQ n<|IntKind.u64.wrap<|(yP l v30).Next).bind λb=>ao (bF<|(gg++a).length+b.length)<|Ap n c l v30 n ((gg++a)++b) 0) (YN n gg)
def Ek(n:Nat)(l:List b3):Nat->UB->Int->Option UB
 | 0=>λ_ _=>none
 |m+1=>Qe n l (Ek n l m)
def I5(l:List b3):Option UB:=(Aj n l).bind λb=>cond (!b) (some []) ((iQ n<|IntKind.u64.wrap (l.length:Int)).bind λa=>Ek n l n a 0)
def I6(c:bK)(v46:UB):Option UB:=(Ei n c.EK).bind λa=>ao (bF<|v46.length+a.length)<|(iQ n c.cN).bind λb=>ao (bF<|(v46++a).length+b.length)<|some ((v46++a)++b)
def Qf(a:bK)(ff:UB->Int->Option UB)(q9:UB)(v37:Int):Option UB:=cond (decide<|v37<(a.be.length:Int)) (ao (aP v37 a.be.length)<|(qf n<|(yP a.be v37).Key).bind λpg=>ao (aP v37 a.be.length)<|(t_ n<|(yP a.be v37).Count).bind λb=>ao (bF<|pg.length+b.length)<|ao (bF<|q9.length+(pg++b).length)<|ff (q9++(pg++b))<|YV<|v37+1) (I6 n a q9)
def El(n:Nat)(a:bK):Nat->UB->Int->Option UB
 | 0=>λ_ _=>none
 |m+1=>Qf n a (El n a m)
def Em(b:bK)(v21:UB):Option UB:=(I5 n b.b7).bind λdN=>(I1 n b.EG).bind λa=>ao (bF<|dN.length+a.length)<|(iQ n<|IntKind.u64.wrap (b.be.length:Int)).bind λc=>ao (bF<|(dN++a).length+c.length)<|ao (bF<|v21.length+((dN++a)++c).length)<|El n b n (v21++((dN++a)++c)) 0
def Qg(a:bK)(dL:UB->Int->Option UB)(cx:UB)(bZ:Int):Option UB:=cond (decide<|bZ<(a.bY.length:Int)) (ao (aP bZ a.bY.length)<|(An n<|yP a.bY bZ).bind λc=>(qf n c).bind λb=>ao (bF<|cx.length+b.length)<|dL (cx++b)<|YV<|bZ+1) (Em n a cx)
def En(n:Nat)(a:bK):Nat->UB->Int->Option UB
 | 0=>λ_ _=>none
 |m+1=>Qg n a (En n a m)
def I7(a:bK):Option UB:=(DT n a.aq a.Pos).bind λd=>(t_ n a.Pos).bind λr2=>(P6 n d.1).bind λb=>ao (bF<|r2.length+b.length)<|(iQ n<|IntKind.u64.wrap (a.bY.length:Int)).bind λc=>ao (bF<|(r2++b).length+c.length)<|En n a n ((r2++b)++c) 0
def I8(b:bK):Option (UB×Int):=(D9 n b).bind λc=>cond (!c) (some ([],1)) ((I7 n b).bind λa=>cond (decide<|16384<(a.length:Int)) (some ([],2))<|some (a,0))
def YP(n:Nat)(c:ej)(a:UB):Option (UB×Int×Int):=cond (cond (decide<|(YV<|1099511627776-c.br)<(c.dg.length:Int)) true<|decide<|16384<(a.length:Int)) (some ([],0,2)) (some (a,(YV<|c.br+(c.dg.length:Int)),0))
def YQ(c:ej)(ak:Int->UB->Option (UB×Int×Int))(bE:Int)(di:UB):Option (UB×Int×Int):=cond (decide<|bE<(c.dg.length:Int)) (ao (aP bE c.dg.length)<|cond (decide<|4096<(((yP c.dg bE).length:Nat):Int)) (some ([],0,2)) (ao (aP bE c.dg.length)<|(qf n<|yP c.dg bE).bind λa=>ao (bF<|di.length+a.length)<|ak (YV<|bE+1)<|di++a)) (YP n c di)
def I9(n:Nat)(c:ej):Nat->Int->UB->Option (UB×Int×Int)
 | 0=>λ_ _=>none
 |m+1=>YQ n c (I9 n c m)
def Qh(c:ej):Option (UB×Int×Int):=cond (!c.dO) (some ([],0,16)) ((Ad n c.fg c.br).bind λa=>cond (!decide (a.2=0)) (some ([],0,a.2))<|(I8 n ⟨c.Fa.Pos,a.1,c.Fa.bY,c.Fa.b7,c.Fa.EG,c.Fa.be,c.Fa.EK,c.Fa.cN⟩).bind λb=>cond (!decide (b.2=0)) (some ([],0,b.2)) ((qf n b.1).bind λbq=>(iQ n<|IntKind.u64.wrap (c.dg.length:Int)).bind λd=>ao (bF<|bq.length+d.length)<|I9 n c n 0<|bq++d))
def Eo(b:List UB)(ae:bK)(a:ej):UM:=(Dq n a).bind λm9=>(Qh n a).bind λh=>cond (!decide (m9.2.2=h.2.2)) (some false) (cond (decide<|m9.2.2=2) ((cond (cond (decide<|m9.1=[]) a.dO false) (D_ n)<|some default).bind λg=>some<|cond (cond (decide<|m9.1=[]) a.dO false) g false)<|(Ik n m9.1).bind λsq=>(cond (cond (cond (decide<|m9.2.2=0) (decide<|sq.2.2=0) false) (decide<|m9.2.1=(YV<|ae.Pos+(b.length:Int))) false) (OD n sq.1 ae)<|some default).bind λc=>(cond (cond (cond (cond (decide<|m9.2.2=0) (decide<|sq.2.2=0) false) (decide<|m9.2.1=(YV<|ae.Pos+(b.length:Int))) false) c false) (IX n sq.1 ae)<|some default).bind λd=>(cond (cond (cond (cond (cond (decide<|m9.2.2=0) (decide<|sq.2.2=0) false) (decide<|m9.2.1=(YV<|ae.Pos+(b.length:Int))) false) c false) d false) (Ae n sq.2.1 b)<|some default).bind λf=>(cond (cond (cond (cond (cond (cond (decide<|m9.2.2=0) (decide<|sq.2.2=0) false) (decide<|m9.2.1=(YV<|ae.Pos+(b.length:Int))) false) c false) d false) f false) (D_ n)<|some default).bind λe=>some<|cond (cond (cond (cond (cond (cond (decide<|m9.2.2=0) (decide<|sq.2.2=0) false) (decide<|m9.2.1=(YV<|ae.Pos+(b.length:Int))) false) c false) d false) f false) e false)
def YS(e:List UB)(g:bK)(f d:Int)(c:List Row)(ff:ej->Int->UM)(a:ej)(su:Int):UM:=cond (cond (decide<|su<61) (!a.dO) false) ((z7 n a ⟨f,d,c⟩ 1).bind λb=>cond (!decide (b.2=0)) (some false)<|ff b.1<|YV<|su+1) (Eo n e g a)
def I'(n:Nat)(c:List UB)(e:bK)(d b:Int)(a:List Row):Nat->ej->Int->UM
 | 0=>λ_ _=>none
 |m+1=>YS n c e d b a (I' n c e d b a m)
def Qi(f:bK)(a:ej)(e c:Int)(b:List Row)(d:List UB):UM:=I' n d f e c b n a 0
def I_(n:Nat)(f:ej->Int->Int->(List Row)->(List UB)->Int->UM)(l:List qY)(iN:Int)(g:bK)(e:ej)(b d:Int)(a:List Row)(c:List UB):UM:=f e b d a c (YV<|iN+1)
def YT(l:List qY)(e:bK)(f:ej->Int->Int->(List Row)->(List UB)->Int->UM)(b:ej)(a iM:Int)(c:List Row)(ua:List UB)(iN:Int):UM:=cond (decide<|iN<(l.length:Int)) (ao (aP iN l.length)<|cond ((yP l iN).UA) (ao (aP iN l.length)<|ao ((decide<|40<((((yP l iN).cp).length:Nat):Int))||aP iN l.length)<|(cond (!(decide<|40<((((yP l iN).cp).length:Nat):Int))) (xm n<|(yP l iN).cp)<|some default).bind λi=>cond (cond (decide<|40<((((yP l iN).cp).length:Nat):Int)) true<|!i) ((D_ n).bind λh=>some h) (ao (aP iN l.length)<|(xu n ⟨a,iM,c⟩ (YV<|iM+1)<|(yP l iN).cp).bind λd=>cond (!decide (d.2=0)) (some false) (ao (room (ua.length+([[101,110,116,114,121]]:List UB).length) 16)<|(Ii n b [101,110,116,114,121]).bind λj=>I_ n f l iN e j d.1.bu d.1.bi d.1.Rows<|ua++[[101,110,116,114,121]]))) (ao (aP iN l.length)<|cond (decide<|0<(yP l iN).N) (ao (aP iN l.length)<|(z7 n b ⟨a,iM,c⟩<|(yP l iN).N).bind λg=>cond (!decide (g.2=0)) (some false)<|I_ n f l iN e g.1 a iM c ua)<|I_ n f l iN e b a iM c ua)) (Qi n e b a iM c ua)
def Ja(n:Nat)(l:List qY)(a:bK):Nat->ej->Int->Int->(List Row)->(List UB)->Int->UM
 | 0=>λ_ _ _ _ _ _=>none
 |m+1=>YT n l a (Ja n l a m)
def YU(a:bK)(l:List qY):UM:=(It n a).bind λb=>(cond (!(cond (!b) true<|decide<|12<(l.length:Int))) (D9 n a)<|some default).bind λd=>cond (cond (cond (cond (!b) true<|decide<|12<(l.length:Int)) true<|!d) true<|decide<|1099511627756<a.Pos) ((D_ n).bind λe=>some e) ((Ic n a).bind λc=>cond (!decide (c.2=0)) (some false)<|Ja n l a n c.1 a.aq.bu a.aq.bi a.aq.Rows [] 0)
end Go.Ab.Y

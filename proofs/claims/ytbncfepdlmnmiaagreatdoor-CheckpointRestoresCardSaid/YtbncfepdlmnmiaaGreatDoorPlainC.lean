/- The plain law: what the functions compute answers as the statement says. -/
import Derived.Test.YtbncfepdlmnmiaaGreatDoorPlainB
set_option linter.all false
namespace Go.Ab.Y
open Go Go.Ab Go.Proofs
def res{α:Type}(z:α)(s:auJ):Except Int (α×auJ)→α×Int×Int
 |.ok (v,t)=>(v,((s.length-t.length:Nat):Int),0)
 |.error e=>(z,0,e)
def aS(s t:auJ):Int:=((s.length-t.length:Nat):Int)
def x1(p t:auJ):aS (p++t) t=(p.length:Int):=by unfold aS;simp
def Gf(s:auJ):aS s s=0:=by unfold aS;simp
def cY{α:Type}{z:α}{s t:auJ}{v:α}:res z s (.ok (v,t))=(v,aS s t,0):=rfl
def b7{α:Type}{z:α}{s:auJ}{e:Int}:res z s (.error e)=(z,0,e):=rfl
def Gg{α β:Type}{aet:β}{s:auJ}{f:α→β}{D:eJ α}{t:auJ}:res aet s (e' f D t)=match D t with|.ok (v,t)=>(f v,aS s t,0)|.error e=>(aet,0,e):=by
 unfold e';cases D t<;>rfl
def VU(p x:auJ)(i:Nat):(p++x).getD (p.length+i) 0=x.getD i 0:=by
 simp [List.getD_eq_getElem?_getD,List.getElem?_append_right]
def aqu:∀x:Nat,x<256→p5 .u8 (x:Int) 127=((x % 128:Nat):Int):=by decide +kernel
def aqv{a b i:Nat}(h:a<2 ^ i)(hb:a+2 ^ i*b<18446744073709551616):tH .u64 (a:Int) ((2 ^ i*b:Nat):Int)=((a+2 ^ i*b:Nat):Int):=by
 unfold tH
 have e:((BitVec.ofInt (IntKind.bits .u64) (a:Int) |||BitVec.ofInt (IntKind.bits .u64) ((2 ^ i*b:Nat):Int)).toNat)=a+2 ^ i*b:=by
  rw [BitVec.toNat_or,BitVec.toNat_ofInt,BitVec.toNat_ofInt];simp only [IntKind.bits];rw [show(((a:Int) % ((2 ^ 64:Nat):Int)).toNat)=a by omega,show((((2 ^ i*b:Nat):Int) % ((2 ^ 64:Nat):Int)).toNat)=2 ^ i*b by omega]
  rw [Nat.or_comm,←Nat.two_pow_add_eq_or_of_lt h,Nat.add_comm]
 rw [e,pO hb]
def aqw{c i:Nat}(hi:i≤63)(h:2 ^ i*c<18446744073709551616):sj .u64 (c:Int) (i:Int)=((2 ^ i*c:Nat):Int):=by
 unfold sj
 (simp only [auA];rw [show min i (IntKind.bits .u64)=i by simp only [IntKind.bits];omega,show(c:Int)*2 ^ i=((2 ^ i*c:Nat):Int)by rw [Nat.mul_comm];norm_cast,pO h])
def VV{i c:Nat}(hi:i≤9)(hc:c<128)(iI:i=9→c≤1):2 ^ (7*i)*c<18446744073709551616∧∀a,a<2 ^ (7*i)→a+2 ^ (7*i)*c<18446744073709551616:=by
 have h:i=0∨i=1∨i=2∨i=3∨i=4∨i=5∨i=6∨i=7∨i=8∨i=9:=by omega
 rcases h with h|h|h|h|h|h|h|h|h|h<;>subst h<;>simp only [Nat.reduceMul,Nat.reducePow]<;>(try have:=iI rfl)<;>exact⟨by omega,λa ha=>by omega⟩
def x2{i:Nat}(h:i≤9223372036854775807):auL (i:Int)=(i:Int):=by rw [wr]<;>omega
def aqx(n a:Nat):∀(k m i:Nat) (x pre:auJ) (acc:Nat),i+k=10→pre.length=a+i→acc<2 ^ (7*i)→k<m→(pre++x).length≤4611686018427387904→
 Dx n (pre++x) (a:Int) m (i:Int) (acc:Int)=some (match kM k x with|.ok (u,t)=>(((acc+2 ^ (7*i)*u:Nat):Int),aS (pre++x) t,0)|.error e=>(0,0,e)):=by
 intro k;induction k with
 |zero=>
  intro m i x pre acc hi hp ha hm ae;obtain⟨m,rfl⟩:∃j,m=j+1:=⟨m-1,by omega⟩
  obtain rfl:i=10:=by omega
  rfl
 |succ k aW=>
  intro m i x pre acc hi hp ha hm ae;obtain⟨m,rfl⟩:∃j,m=j+1:=⟨m-1,by omega⟩
  have aqy:(pre++x).length=pre.length+x.length:=List.length_append;have e1:auL ((a:Int)+(i:Int))=((pre.length:Nat):Int):=by rw [wr]<;>omega
  have MU:i≤9:=by omega
  simp only [Dx,QN,e1];rw [show(decide ((i:Int)<10))=true from decide_eq_true (by omega)]
  simp only [auu];cases x with
  |nil=>
   simp only [List.append_nil,Int.le_refl,aus,auu,kM]
  |cons c x=>
   have hlen:(pre++c::x).length=pre.length+(x.length+1):=by simp
   have hg:(pre++c::x).getD pre.length 0=c:=by
    have:=VU pre (c::x) 0
    simpa using this
   have hc:=c.toNat_lt;rw [show(decide ((((pre++c::x).length:Nat):Int)≤((pre.length:Nat):Int)))=false from decide_eq_false (by omega)]
   simp only [auv,cv (show pre.length<(pre++c::x).length by omega),bd,auA,hg]
   have e2:auL (7*(i:Int))=((7*i:Nat):Int):=by rw [wr]<;>omega
   have e3:auL (((pre.length:Nat):Int)+1)=((pre.length+1:Nat):Int):=dj (by omega)
   have gZ:auL ((i:Int)+1)=((i+1:Nat):Int):=dj (by omega)
   have lQ:aS (pre++c::x) x=((pre.length+1:Nat):Int):=by
    have:=x1 (pre++[c]) x
    simpa using this
   unfold kM;by_cases Gh:k=0∧1<c.toNat∨c.toNat=0∧k<9
   ·rw [if_pos Gh,show(bif (bif (decide ((i:Int)=9)) then(decide (1<((c.toNat:Nat):Int)))else false)then true else(bif (decide (((c.toNat:Nat):Int)=0)) then(decide (0<(i:Int)))else false))=true by
     rw [dL,ee,ee,←Bool.decide_and,←Bool.decide_and,←Bool.decide_or];exact decide_eq_true (by omega)]
    rfl
   ·rw [if_neg Gh,show(bif (bif (decide ((i:Int)=9)) then(decide (1<((c.toNat:Nat):Int)))else false)then true else(bif (decide (((c.toNat:Nat):Int)=0)) then(decide (0<(i:Int)))else false))=false by
     rw [dL,ee,ee,←Bool.decide_and,←Bool.decide_and,←Bool.decide_or];exact decide_eq_false (by omega)]
    have hb:=VV (c:=c.toNat % 128) MU (by omega) (by omega)
    have pJ:tH .u64 (acc:Int) (sj .u64 (IntKind.u64.wrap (p5 .u8 ((c.toNat:Nat):Int) 127)) (auL (7*(i:Int))))=((acc+2 ^ (7*i)*(c.toNat % 128):Nat):Int):=by
     rw [aqu _ hc,pO (by omega),e2,aqw (by omega) hb.1,aqv ha (hb.2 acc ha)]
    simp only [auv,pJ,e3,gZ];rw [e2,show o3 ((7*i:Nat):Int)=true by simp only [o3,decide_eq_true_eq];omega,bd]
    by_cases hs:c.toNat<128
    ·rw [if_pos hs,show(decide (((c.toNat:Nat):Int)<128))=true from decide_eq_true (by omega)]
     simp only [auu,lQ,Nat.mod_eq_of_lt hs]
    ·rw [if_neg hs,show(decide (((c.toNat:Nat):Int)<128))=false from decide_eq_false (by omega)]
     have ua:2 ^ (7*(i+1))=2 ^ (7*i)*128:=by rw [show 7*(i+1)=7*i+7 by omega,Nat.pow_add]
     have nf:=aW m (i+1) x (pre++[c]) (acc+2 ^ (7*i)*(c.toNat % 128)) (by omega) (by simp;omega) (by
      rw [ua];have Z:2 ^ (7*i)*(c.toNat % 128)≤2 ^ (7*i)*127:=Nat.mul_le_mul_left _ (by omega)
      omega) (by omega) (by simp at ae ⊢;omega)
     rw [show pre++[c]++x=pre++c::x by simp]at nf
     simp only [auv];rw [nf]
     congr 1
     cases kM k x with
     |error e=>rfl
     |ok r=>
      obtain⟨u,t⟩:=r;simp only
      rw [ua,Nat.mul_add,Nat.mul_assoc,Nat.add_assoc]
def MV{n:Nat}{s t:auJ}(h:t <:+ s):wK n s (aS s t)=some false:=by
 unfold wK aS;have:=h.length_le
 rw [decide_eq_false (by omega),decide_eq_false (by omega)];rfl
def BI{n:Nat}{s t:auJ}(ax:t <:+ s)(hs:s.length≤4611686018427387904)(hn:12≤n):sP n s (aS s t)=some (res 0 s (gI t)):=by
 unfold sP;rw [MV (n:=n) ax];obtain⟨pre,rfl⟩:=ax;rw [x1,al,auv];refine(aqx n pre.length 10 n 0 t pre 0 (by omega) (by omega) (by simp) (by omega) hs).trans (congrArg some ?_)
 unfold gI oT;rw [Gg];cases kM 10 t with
 |error e=>rfl
 |ok r=>obtain⟨u,bp⟩:=r;simp
def aqz(n a:Nat):∀(k m i:Nat) (x pre:auJ) (acc:Nat),i+k=10→pre.length=a+i→acc<2 ^ (7*i)→k<m→(pre++x).length≤4611686018427387904→
 EG n (pre++x) (a:Int) m (acc:Int) (IntKind.u64.wrap ((2 ^ (7*i):Nat):Int)) (i:Int)=some (match kM k x with|.ok (u,t)=>(((acc+2 ^ (7*i)*u:Nat):Int),aS (pre++x) t,0)|.error e=>(0,0,e)):=by
 intro k;induction k with
 |zero=>
  intro m i x pre acc hi hp ha hm ae;obtain⟨m,rfl⟩:∃j,m=j+1:=⟨m-1,by omega⟩
  obtain rfl:i=10:=by omega
  rfl
 |succ k aW=>
  intro m i x pre acc hi hp ha hm ae;obtain⟨m,rfl⟩:∃j,m=j+1:=⟨m-1,by omega⟩
  have aqy:(pre++x).length=pre.length+x.length:=List.length_append;have e1:auL ((a:Int)+(i:Int))=((pre.length:Nat):Int):=by rw [wr]<;>omega
  have MU:i≤9:=by omega
  simp only [EG,Ts,e1];rw [show(decide ((i:Int)<10))=true from decide_eq_true (by omega)]
  simp only [auu];cases x with
  |nil=>
   simp only [List.append_nil,Int.le_refl,aus,auu,kM]
  |cons c x=>
   have hlen:(pre++c::x).length=pre.length+(x.length+1):=by simp
   have hg:(pre++c::x).getD pre.length 0=c:=by
    have:=VU pre (c::x) 0
    simpa using this
   have hc:=c.toNat_lt;rw [show(decide ((((pre++c::x).length:Nat):Int)≤((pre.length:Nat):Int)))=false from decide_eq_false (by omega)]
   simp only [auv,cv (show pre.length<(pre++c::x).length by omega),bd,auA,hg]
   have e3:auL (((pre.length:Nat):Int)+1)=((pre.length+1:Nat):Int):=dj (by omega)
   have gZ:auL ((i:Int)+1)=((i+1:Nat):Int):=dj (by omega)
   have lQ:aS (pre++c::x) x=((pre.length+1:Nat):Int):=by
    have:=x1 (pre++[c]) x
    simpa using this
   unfold kM;by_cases Gh:k=0∧1<c.toNat∨c.toNat=0∧k<9
   ·rw [if_pos Gh,show(bif (bif (decide ((i:Int)=9)) then(decide (1<((c.toNat:Nat):Int)))else false)then true else(bif (decide (((c.toNat:Nat):Int)=0)) then(decide (0<(i:Int)))else false))=true by
     rw [dL,ee,ee,←Bool.decide_and,←Bool.decide_and,←Bool.decide_or];exact decide_eq_true (by omega)]
    rfl
   ·rw [if_neg Gh,show(bif (bif (decide ((i:Int)=9)) then(decide (1<((c.toNat:Nat):Int)))else false)then true else(bif (decide (((c.toNat:Nat):Int)=0)) then(decide (0<(i:Int)))else false))=false by
     rw [dL,ee,ee,←Bool.decide_and,←Bool.decide_and,←Bool.decide_or];exact decide_eq_false (by omega)]
    have hb:=VV (c:=c.toNat % 128) MU (by omega) (by omega)
    have hw:=VV (i:=i) (c:=1) MU (by omega) (by omega)
    have ua:2 ^ (7*(i+1))=2 ^ (7*i)*128:=by rw [show 7*(i+1)=7*i+7 by omega,Nat.pow_add]
    have bO:IntKind.u64.wrap ((2 ^ (7*i):Nat):Int)=((2 ^ (7*i):Nat):Int):=pO (by omega)
    have pJ:IntKind.u64.wrap ((acc:Int)+IntKind.u64.wrap (IntKind.u64.wrap (Int.tmod ((c.toNat:Nat):Int) 128)*((2 ^ (7*i):Nat):Int)))=((acc+2 ^ (7*i)*(c.toNat % 128):Nat):Int):=by
     rw [Int.tmod_eq_emod_of_nonneg (by omega),show((c.toNat:Nat):Int) % 128=((c.toNat % 128:Nat):Int)by omega,pO (by omega),show((c.toNat % 128:Nat):Int)*((2 ^ (7*i):Nat):Int)=((2 ^ (7*i)*(c.toNat % 128):Nat):Int)by rw [←Int.natCast_mul,Nat.mul_comm (c.toNat % 128)],pO hb.1]
     have:=pO (hb.2 acc ha)
     rwa [Int.natCast_add]at this
    have oP:IntKind.u64.wrap (((2 ^ (7*i):Nat):Int)*128)=IntKind.u64.wrap ((2 ^ (7*(i+1)):Nat):Int):=by rw [ua];norm_cast
    simp only [auv,bO,pJ,e3,gZ,oP];by_cases hs:c.toNat<128
    ·rw [if_pos hs,show(decide (((c.toNat:Nat):Int)<128))=true from decide_eq_true (by omega)]
     simp only [auu,lQ,Nat.mod_eq_of_lt hs]
    ·rw [if_neg hs,show(decide (((c.toNat:Nat):Int)<128))=false from decide_eq_false (by omega)]
     have nf:=aW m (i+1) x (pre++[c]) (acc+2 ^ (7*i)*(c.toNat % 128)) (by omega) (by simp;omega) (by
      rw [ua];have Z:2 ^ (7*i)*(c.toNat % 128)≤2 ^ (7*i)*127:=Nat.mul_le_mul_left _ (by omega)
      omega) (by omega) (by simp at ae ⊢;omega)
     rw [show pre++[c]++x=pre++c::x by simp]at nf
     simp only [auv];rw [nf]
     congr 1
     cases kM k x with
     |error e=>rfl
     |ok r=>
      obtain⟨u,t⟩:=r;simp only
      rw [ua,Nat.mul_add,Nat.mul_assoc,Nat.add_assoc]
def tz{n:Nat}{s t:auJ}(ax:t <:+ s)(hs:s.length≤4611686018427387904)(hn:12≤n):qA n s (aS s t)=some (res 0 s (gI t)):=by
 have aq:=MV (n:=n) ax;unfold wK at aq;unfold qA;rw [Option.some.inj aq];obtain⟨pre,rfl⟩:=ax;rw [x1,auv];refine(aqz n pre.length 10 n 0 t pre 0 (by omega) (by omega) (by simp) (by omega) hs).trans (congrArg some ?_)
 unfold gI oT;rw [Gg];cases kM 10 t with
 |error e=>rfl
 |ok r=>obtain⟨u,bp⟩:=r;simp
def dg{e:Int}(h:e≠0):(!decide (e=0))=true:=by simp [h]
def MW{t bp:auJ}{u:Nat}(h:oT t = .ok (u,bp)):gI t = .ok ((u:Int),bp):=by simp only [gI,e',h]
def MX{t:auJ}{e:Int}(h:oT t = .error e):gI t = .error e:=by simp only [gI,e',h]
def aqA{u:Nat}(h:u<18446744073709551616):p5 .u64 (u:Int) 1=((u % 2:Nat):Int):=by
 unfold p5
 have e:((BitVec.ofInt (IntKind.bits .u64) (u:Int) &&& BitVec.ofInt (IntKind.bits .u64) 1).toNat)=u % 2:=by
  rw [BitVec.toNat_and,BitVec.toNat_ofInt,BitVec.toNat_ofInt];simp only [IntKind.bits];rw [show(((u:Int) % ((2 ^ 64:Nat):Int)).toNat)=u by omega,show(((1:Int) % ((2 ^ 64:Nat):Int)).toNat)=1 by decide,Nat.and_one_is_mod]
 rw [e,pO (by omega)]
def aqB{u:Nat}:tI .u64 (u:Int) 1=((u / 2:Nat):Int):=by
 unfold tI;rw [show min (1:Int).toNat (IntKind.bits .u64)=1 by decide,Int.fdiv_eq_ediv_of_nonneg _ (by omega)]
 omega
def aqC{a:Nat}(h:a<9223372036854775808):o2 .i64 (a:Int) 0=(a:Int):=by
 unfold o2;rw [show BitVec.ofInt (IntKind.bits .i64) 0=0#_ from rfl,BitVec.xor_zero]
 rw [show((BitVec.ofInt (IntKind.bits .i64) (a:Int)).toNat:Int)=(a:Int) by
  rw [BitVec.toNat_ofInt];simp only [IntKind.bits];omega]
 exact x2 (by omega)
def aqD{a:Nat}(h:a<9223372036854775808):o2 .i64 (a:Int) (-1) = -(a:Int)-1:=by
 unfold o2;rw [show BitVec.ofInt (IntKind.bits .i64) (-1)=BitVec.allOnes _ by decide,BitVec.xor_allOnes]
 rw [show((~~~ BitVec.ofInt (IntKind.bits .i64) (a:Int)).toNat:Int)=((18446744073709551615-a:Nat):Int) by
  rw [BitVec.toNat_not,BitVec.toNat_ofInt];simp only [IntKind.bits];omega]
 (try unfold auL);rw [IntKind.wrap_i64];omega
def aqE{u:Nat}(h:u<18446744073709551616):o2 .i64 (auL (tI .u64 (u:Int) 1)) (auL (0-(auL (p5 .u64 (u:Int) 1))))=va u:=by
 rw [aqB,aqA h,x2 (i:=u / 2) (by omega),x2 (i:=u % 2) (by omega)]
 unfold va;by_cases ad:u % 2=1
 ·rw [if_pos ad,ad,show auL (0-((1:Nat):Int)) = -1 by decide,aqD (by omega)]
 ·rw [if_neg ad,show u % 2=0 by omega,show auL (0-((0:Nat):Int))=0 by decide,aqC (by omega)]
def aqF{n u:Nat}(h:u<18446744073709551616):K7 n (u:Int)=some (va u):=by
 unfold K7 va;rw [Int.tmod_eq_emod_of_nonneg (by omega),Int.tdiv_eq_ediv_of_nonneg (by omega),show IntKind.u64.wrap ((u:Int) / 2)=((u / 2:Nat):Int)by rw [IntKind.wrap_u64];omega,x2 (by omega)]
 by_cases ad:u % 2=1
 ·rw [if_pos ad,show decide (((u:Int)) % 2=1)=true from decide_eq_true (by omega),auu]
  congr 1
  rw [wr (x:=0-((u / 2:Nat):Int)) (by omega) (by omega),wr]<;>omega
 ·rw [if_neg ad,show decide (((u:Int)) % 2=1)=false from decide_eq_false (by omega),auv]
def VW{n:Nat}{s t:auJ}(ax:t <:+ s)(hs:s.length≤4611686018427387904)(hn:12≤n):zx n s (aS s t)=some (res 0 s (gD t)):=by
 unfold zx gD e';rw [BI ax hs hn,al];cases h:oT t with
 |error e=>
  rw [MX h,b7];simp only [dg (n5.cb _ _ h),auu,b7]
 |ok r=>
  obtain⟨u,bp⟩:=r;rw [MW h,cY];simp only [aus,auw,auv,aqE (n5.eF _ _ _ h).2,cY]
def vd{n:Nat}{s t:auJ}(ax:t <:+ s)(hs:s.length≤4611686018427387904)(hn:12≤n):nR n s (aS s t)=some (res 0 s (gD t)):=by
 unfold nR gD e';rw [tz ax hs hn,al];cases h:oT t with
 |error e=>
  rw [MX h,b7];simp only [dg (n5.cb _ _ h),auu,b7]
 |ok r=>
  obtain⟨u,bp⟩:=r;rw [MW h,cY];simp only [aus,auw,auv,aqF (n5.eF _ _ _ h).2,al,cY]
def pQ(most:Nat):eJ Int:=e' (λu:Nat=>(u:Int)) (gt most)
def aeu{s t:auJ}(ax:t <:+ s)(hs:s.length≤4611686018427387904):IntKind.u64.wrap (auL (((s.length:Nat):Int)-aS s t))=((t.length:Nat):Int):=by
 have:=ax.length_le
 unfold aS;rw [wr (by omega) (by omega),IntKind.wrap_u64];omega
def aev{t bp:auJ}{u:Nat}(h:oT t = .ok (u,bp)):bp <:+ t:=n5.gU h
def aew{n most:Nat}{s t:auJ}(ax:t <:+ s)(hs:s.length≤4611686018427387904)(hm:most<9223372036854775808)(r:Int×Int×Int)(ah:r=res 0 s (gI t)):
 (bif (!decide (r.2.2=0))then some ((0:Int),(0:Int),r.2.2) else(bif (bif (decide ((most:Int)<0))then true else(decide ((IntKind.u64.wrap (most:Int))<r.1)))then some (0,0,2) else(bif (decide ((IntKind.u64.wrap (auL (((s.length:Nat):Int)-r.2.1)))<r.1))then some (0,0,6)else some ((auL r.1),r.2.1,0))))=some (res 0 s (pQ most t)):=by
 subst ah;unfold pQ;rw [Gg];unfold gt;cases h:oT t with
 |error e=>
  rw [MX h,b7];simp only [dg (n5.cb _ _ h),auu]
 |ok r=>
  obtain⟨u,bp⟩:=r;have hu:=(n5.eF _ _ _ h).2;have dm:bp <:+ s:=(aev h).trans ax;have ae:=dm.length_le;rw [MW h,cY];simp only [aus,auw,auv,aeu dm hs,pO (show most<18446744073709551616 by omega),show¬ ((most:Int)<0)by omega,aut,auB]
  by_cases Z:most<u
  ·simp only [Z,aus,auu,auH]
  ·by_cases ad:bp.length<u
   ·simp only [Z,ad,aus,aut,auu,auv,auH,auI]
   ·simp only [Z,ad,aut,auv,auI,x2 (show u≤9223372036854775807 by omega)]
def tA{n most:Nat}{s t:auJ}(ax:t <:+ s)(hs:s.length≤4611686018427387904)(hm:most<9223372036854775808)(hn:12≤n):oD n s (aS s t) (most:Int)=some (res 0 s (pQ most t)):=by
 unfold oD;rw [BI ax hs hn,al];exact aew (n:=n) ax hs hm _ rfl
def r4{n most:Nat}{s t:auJ}(ax:t <:+ s)(hs:s.length≤4611686018427387904)(hm:most<9223372036854775808)(hn:12≤n):nQ n s (aS s t) (most:Int)=some (res 0 s (pQ most t)):=by
 unfold nQ;rw [tz ax hs hn,al];exact aew (n:=n) ax hs hm _ rfl
def kN{most u:Nat}{t bp:auJ}(h:gt most t = .ok (u,bp)):pQ most t = .ok ((u:Int),bp):=by simp only [pQ,e',h]
def kO{most:Nat}{t:auJ}{e:Int}(h:gt most t = .error e):pQ most t = .error e:=by simp only [pQ,e',h]
def aex{s t:auJ}{u:Nat}(ax:t <:+ s)(hs:s.length≤4611686018427387904)(hu:u≤t.length):
 auL (aS s t+(u:Int))=aS s (t.drop u)∧lF (aS s t) (aS s (t.drop u)) s.length=true∧(s.take (aS s (t.drop u)).toNat).drop (aS s t).toNat=t.take u:=by
 have ae:=ax.length_le;have e:aS s (t.drop u)=aS s t+(u:Int):=by unfold aS;simp;omega
 refine⟨?_,?_,?_⟩
 ·rw [e];unfold aS;rw [wr]<;>omega
 ·rw [e];unfold aS lF;simp;omega
 ·rw [e];obtain⟨pre,rfl⟩:=ax
  (rw [x1,show(((pre.length:Nat):Int)+(u:Int)).toNat=pre.length+u by omega];simp only [auA];rw [List.drop_take])
  simp
def BJ{n most:Nat}{s t:auJ}(ax:t <:+ s)(hs:s.length≤4611686018427387904)(hm:most<9223372036854775808)(hn:12≤n):sQ n s (aS s t) (most:Int)=some (res [] s (dR most t)):=by
 unfold sQ dR;rw [tA ax hs hm hn,al];cases h:gt most t with
 |error e=>
  rw [kO h,b7];simp only [dg (kp h),auu,b7]
 |ok r=>
  obtain⟨u,bp⟩:=r;obtain⟨Z,ad,am⟩:=jD h;have dm:bp <:+ s:=List.IsSuffix.trans ⟨gi u,Z.symm⟩ ax;obtain⟨g1,g2,g3⟩:=aex dm hs am;rw [kN h,cY];simp only [aus,auw,auv,g1,g2,g3,bd,cY]
def r5{n most:Nat}{s t:auJ}(ax:t <:+ s)(hs:s.length≤4611686018427387904)(hm:most<9223372036854775808)(hn:12≤n):nb n s (aS s t) (most:Int)=some (res [] s (dR most t)):=by
 unfold nb dR gt;rw [tz ax hs hn,al];cases h:oT t with
 |error e=>
  rw [MX h,b7];simp only [dg (n5.cb _ _ h),auu,b7]
 |ok r=>
  obtain⟨u,bp⟩:=r;have hu:=(n5.eF _ _ _ h).2;have dm:bp <:+ s:=(aev h).trans ax;have ae:=dm.length_le;rw [MW h,cY];simp only [aus,auw,auv,aeu dm hs,pO (show most<18446744073709551616 by omega),show¬ ((most:Int)<0)by omega,aut,auB]
  by_cases Z:most<u
  ·simp only [Z,aus,auu,auH,b7]
  ·by_cases ad:bp.length<u
   ·simp only [Z,ad,aus,aut,auu,auv,auH,auI,b7]
   ·obtain⟨g1,g2,g3⟩:=aex (u:=u) dm hs (by omega)
    simp only [Z,ad,aut,auv,auI,x2 (show u≤9223372036854775807 by omega),g1,g2,g3,bd,cY]
def aey{n:Nat}{s t:auJ}(ax:t <:+ s)(hs:s.length≤4611686018427387904):
 (bif (decide (aS s t=((s.length:Nat):Int)))then some (false,(0:Int),(6:Int)) else(ar (aN (aS s t) s.length)<|bif (decide (1<(((s.getD (aS s t).toNat 0).toNat:Nat):Int)))then some (false,0,5) else(ar (aN (aS s t) s.length)<|some ((decide ((((s.getD (aS s t).toNat 0).toNat:Nat):Int)=1)),(auL (aS s t+1)),0))))=some (res false s (pP t)):=by
 obtain⟨pre,rfl⟩:=ax;rw [x1];cases t with
 |nil=>simp [pP,res]
 |cons c t=>
  have hg:(pre++c::t).getD pre.length 0=c:=by
   have:=VU pre (c::t) 0
   simpa using this
  have hlen:(pre++c::t).length=pre.length+(t.length+1):=by simp
  have e3:auL (((pre.length:Nat):Int)+1)=((pre.length+1:Nat):Int):=dj (by omega)
  have lQ:aS (pre++c::t) t=((pre.length+1:Nat):Int):=by
   have:=x1 (pre++[c]) t
   simpa using this
  rw [show decide (((pre.length:Nat):Int)=(((pre++c::t).length:Nat):Int))=false from decide_eq_false (by omega)]
  simp only [auv,cv (show pre.length<(pre++c::t).length by omega),bd,auA,hg,e3,gc,fv,pP]
  by_cases h:1<c.toNat
  ·simp only [h,aus,auu,auH,b7]
  ·simp only [h,aut,auv,auI,cY,lQ]
def aqG{n:Nat}{s t:auJ}(ax:t <:+ s)(hs:s.length≤4611686018427387904):I9 n s (aS s t)=some (res false s (pP t)):=by
 unfold I9;rw [MV ax,al,auv];exact aey (n:=n) ax hs
def aqH{n:Nat}{s t:auJ}(ax:t <:+ s)(hs:s.length≤4611686018427387904):Ld n s (aS s t)=some (res false s (pP t)):=by
 have aq:=MV (n:=n) ax;unfold wK at aq;unfold Ld;rw [Option.some.inj aq,auv];exact aey (n:=n) ax hs
def aez(t:auJ):iY t=match gI t with|.ok (k,bp)=>xZ k bp|.error e=>.error e:=by
 unfold iY e' dM;cases gI t with
 |error e=>rfl
 |ok r=>
  obtain⟨k,bp⟩:=r;simp only
  cases xZ k bp with
  |error e=>rfl
  |ok r=>rfl
def eT{α:Type}{D:eJ α}{E:α→auJ}{ok:α→Prop}(h:eh D E ok){s x:auJ}{v:α}{t:auJ}(hx:D x = .ok (v,t))(hs:x <:+ s):t <:+ s:=(h.gU hx).trans hs
def MY:eh (dR 64) hC (λs=>s.length≤64):=tx 64 (by omega)
def jV:eh (dR 24) hC (λs=>s.length≤24):=tx 24 (by omega)
def VX{n:Nat}{s t:auJ}(ax:t <:+ s)(hs:s.length≤4611686018427387904)(hn:70≤n):zy n s (aS s t)=some (res ⟨0,0,[]⟩ s (iY t)):=by
 unfold zy;rw [BI ax hs (by omega),al,aez]
 cases h:gI t with
 |error e=>rw [b7];simp only [dg (ix.cb _ _ h),auu,b7]
 |ok r=>
  obtain⟨k,bp⟩:=r;have dm:=eT ix h ax;rw [cY];simp only [aus,auw,auv];unfold xZ;by_cases h0:k=0
  ·subst h0;rfl
  ·by_cases Z:k=1
   ·subst Z;simp only [show¬ (1:Int)=0 by omega,aut,auv,aus,auu,auI,auH]
    rw [VW dm hs (by omega),al,Gg]
    cases ad:gD bp with
    |error e=>rw [b7];simp only [dg (hD.cb _ _ ad),auu]
    |ok r=>obtain⟨x,jW⟩:=r;rw [cY];simp only [aus,auw,auv,QM,al]
   ·by_cases ad:k=2
    ·subst ad;simp only [show¬ (2:Int)=0 by omega,show¬ (2:Int)=1 by omega,aut,auv,aus,auu,auI,auH]
     rw [show(64:Int)=((64:Nat):Int)from rfl,BJ dm hs (by omega) (by omega),al]
     unfold jU e';cases am:dR 64 bp with
     |error e=>rw [b7];simp only [show¬ e=0 from MY.cb _ _ am,aut,auv,al,Dy,aux,auu,b7]
     |ok r=>
      obtain⟨x,jW⟩:=r;have hx:=(MY.eF _ _ _ am).2;rw [cY];simp only [aus,auu,aek (show x.length<n by omega) (by omega),al,Dy]
      cases jP x<;>rfl
    ·simp only [h0,Z,ad,aut,auv,auI,b7]
def VY{n:Nat}{s t:auJ}(ax:t <:+ s)(hs:s.length≤4611686018427387904)(hn:70≤n):AN n s (aS s t)=some (res ⟨0,0,[]⟩ s (iY t)):=by
 unfold AN;rw [tz ax hs (by omega),al,aez]
 cases h:gI t with
 |error e=>rw [b7];simp only [dg (ix.cb _ _ h),auu,b7]
 |ok r=>
  obtain⟨k,bp⟩:=r;have dm:=eT ix h ax;rw [cY];simp only [aus,auw,auv];unfold xZ;by_cases h0:k=0
  ·subst h0;rfl
  ·by_cases Z:k=1
   ·subst Z;simp only [show¬ (1:Int)=0 by omega,aut,auv,aus,auu,auI,auH]
    rw [vd dm hs (by omega),al,Gg]
    cases ad:gD bp with
    |error e=>rw [b7];simp only [dg (hD.cb _ _ ad),auu]
    |ok r=>obtain⟨x,jW⟩:=r;rw [cY];simp only [aus,auw,auv,Tt,al]
   ·by_cases ad:k=2
    ·subst ad;simp only [show¬ (2:Int)=0 by omega,show¬ (2:Int)=1 by omega,aut,auv,aus,auu,auI,auH,auw]
     rw [show(64:Int)=((64:Nat):Int)from rfl,r5 dm hs (by omega) (by omega),al]
     unfold jU e';cases am:dR 64 bp with
     |error e=>rw [b7];simp only [dg (MY.cb _ _ am),auu,b7]
     |ok r=>
      obtain⟨x,jW⟩:=r;have hx:=(MY.eF _ _ _ am).2;rw [cY];simp only [aus,auw,auv,aem (show x.length<n by omega) (by omega),al]
      cases jP x<;>rfl
    ·simp only [h0,Z,ad,aut,auv,auI,b7,aux,auu]
def aeA{α β R:Type}{D:eJ α}{s:auJ}{u:Nat}{f:Nat→α→β}{L:Nat→Nat→auJ→List β→Option R}{fin:List β→auJ→Option R}{bad:Int→Option R}
 (gU:∀x v t,D x = .ok (v,t)→t <:+ x)
 (step:∀m i t acc,i<u→acc.length=i→t <:+ s→L (m+1) i t acc=match D t with|.ok (v,bp)=>L m (i+1) bp (acc++[f i v])|.error e=>bad e)
 (stop:∀m t acc,acc.length=u→t <:+ s→L (m+1) u t acc=fin acc t):
 ∀k m i t acc,i+k=u→k<m→acc.length=i→t <:+ s→L m i t acc=match e5 D k t with|.ok (l,bp)=>fin (acc++(l.zipIdx i).map λp=>f p.2 p.1) bp|.error e=>bad e:=by
 intro k;induction k with
 |zero=>
  intro m i t acc hi hm ha ax;obtain⟨m,rfl⟩:∃j,m=j+1:=⟨m-1,by omega⟩
  obtain rfl:i=u:=by omega
  rw [stop m t acc ha ax];simp [e5]
 |succ k aW=>
  intro m i t acc hi hm ha ax;obtain⟨m,rfl⟩:∃j,m=j+1:=⟨m-1,by omega⟩
  rw [step m i t acc (by omega) ha ax]
  unfold e5;cases h:D t with
  |error e=>rfl
  |ok r=>
   obtain⟨v,bp⟩:=r;simp only
   rw [aW m (i+1) bp (acc++[f i v]) (by omega) (by omega) (by simp [ha]) ((gU _ _ _ h).trans ax)]
   cases e5 D k bp with
   |error e=>rfl
   |ok r=>obtain⟨l,jW⟩:=r;simp
def tB{α R:Type}{D:eJ α}{s:auJ}{u:Nat}{L:Nat→Nat→auJ→List α→Option R}{fin:List α→auJ→Option R}{bad:Int→Option R}
 (gU:∀x v t,D x = .ok (v,t)→t <:+ x)
 (step:∀m i t acc,i<u→acc.length=i→t <:+ s→L (m+1) i t acc=match D t with|.ok (v,bp)=>L m (i+1) bp (acc++[v])|.error e=>bad e)
 (stop:∀m t acc,acc.length=u→t <:+ s→L (m+1) u t acc=fin acc t) {m:Nat} (hm:u<m) {t:auJ} (ax:t <:+ s):
 L m 0 t []=match e5 D u t with|.ok (l,bp)=>fin l bp|.error e=>bad e:=by
 have:=aeA (f:=λ_ v=>v) (L:=L) gU step stop u m 0 t [] (by omega) hm rfl ax
 rw [this];cases e5 D u t with
 |error e=>rfl
 |ok r=>
  obtain⟨l,bp⟩:=r;have e:((l.zipIdx 0).map λp:α×Nat=>p.1)=l:=by rw [List.zipIdx_map_fst]
  simp only [List.nil_append];rw [e]
def ve:∀a b:auJ,(!Op.bytesLess a b)=(Op.bytesLess b a||decide (b=a))
 |[],[]=>rfl
 |[],b::y=>rfl
 |a::x,[]=>rfl
 |a::x,b::y=>by
  simp only [Op.bytesLess,ve x y,Bool.not_or,Bool.not_and];rcases Nat.lt_trichotomy a.toNat b.toNat with h|h|h
  ·have Z:a<b:=h;have ad:¬ b<a:=by show¬ b.toNat<a.toNat;omega
   have am:a≠b:=by intro e;subst e;omega
   simp [Z,ad,Ne.symm am]
  ·obtain rfl:a=b:=UInt8.toNat_inj.1 h;simp
  ·have Z:b<a:=h;have ad:¬ a<b:=by show¬ a.toNat<b.toNat;omega
   have am:a≠b:=by intro e;subst e;omega
   simp [Z,ad,am]
def iZ{β:Type}{c k:Bool}{x y:β}(h:c = !k):(bif c then x else y)=if k then y else x:=by subst h;cases k<;>rfl
def mq{i len:Nat}{b:Bool}(hi:i<len)(ae:len≤9223372036854775807):(b||(!(decide (0<(i:Int)))||aN (auL ((i:Int)-1)) len))=true:=by
 cases i with
 |zero=>simp
 |succ i=>
  rw [show((i+1:Nat):Int)-1=(i:Int)by omega,x2 (by omega),cv (by omega)];simp
def BK{i len:Nat}{b c:Bool}(hi:i<len):(b||(c||aN (i:Int) len))=true:=by rw [cv hi];simp
def aqI{i len:Nat}{b:Bool}(hi:i<len):(b||aN (i:Int) len)=true:=by rw [cv hi];simp
def allI(len:Nat)(chk:Nat→Bool):Bool:=(List.range len).all chk
def Gi{len:Nat}{chk:Nat→Bool}:allI len chk=true↔∀i,i<len→chk i=true:=by
 unfold allI;simp
def mr(b:Bool):(if b then true else false)=b:=by cases b<;>rfl
def r6(b c:Bool):(if b then c else false)=(b&&c):=by cases b<;>rfl
def iy{β:Type}{L:Nat→Int→Option β}{len:Nat}{chk:Nat→Bool}{no yes:β}{m:Nat}(hm:len<m)
 (step:∀m i,i<len→L (m+1) (i:Int)=if chk i then L m ((i+1:Nat):Int)else some no) (stop:∀m,L (m+1) (len:Int)=some yes):
 L m 0=some (if allI len chk then yes else no):=VO hm step stop
abbrev pv(i:Nat):Nat:=(auL ((i:Int)-1)).toNat
def aqJ(len:Nat)(a b:Nat→Bool):(allI len λi=>a i&&b i)=(allI len a&&allI len b):=by
 rw [Bool.eq_iff_iff];simp only [Gi,Bool.and_eq_true];exact⟨λh=>⟨λi hi=>(h i hi).1,λi hi=>(h i hi).2⟩,λh i hi=>⟨h.1 i hi,h.2 i hi⟩⟩
def aqK{L:Nat→Int→auO}{len:Nat}{p:Nat→Bool}
 (step:∀m i,i<len→L (m+1) (i:Int)=if p i then some (i:Int)else L m ((i+1:Nat):Int)) (stop:∀m,L (m+1) (len:Int)=some (-1)):
 ∀m i,len<i+m→i≤len→∃r,L m (i:Int)=some r∧decide (0≤r)=(List.range' i (len-i)).any p:=by
 intro m;induction m with
 |zero=>intro i h ad;omega
 |succ m aW=>
  intro i h ad;by_cases hi:i<len
  ·rw [step m i hi,show len-i=(len-(i+1))+1 by omega,List.range'_succ,List.any_cons]
   cases hp:p i
   ·obtain⟨r,am,aR⟩:=aW (i+1) (by omega) (by omega)
    exact⟨r,by rw [if_neg (by simp)];exact am,by rw [aR];simp⟩
   ·exact⟨(i:Int),by simp,by simp⟩
  ·obtain rfl:i=len:=by omega
   exact⟨-1,stop m,by simp⟩
def VZ{L:Nat→Int→auO}{len:Nat}{p:Nat→Bool}{m:Nat}(hm:len<m)
 (step:∀m i,i<len→L (m+1) (i:Int)=if p i then some (i:Int)else L m ((i+1:Nat):Int)) (stop:∀m,L (m+1) (len:Int)=some (-1)):
 ∃r,L m 0=some r∧decide (0≤r) = !allI len λi=>!p i:=by
 obtain⟨r,Z,ad⟩:=aqK step stop m 0 (by omega) (by omega)
 refine⟨r,Z,?_⟩
 rw [ad,Nat.sub_zero,←List.range_eq_range'];unfold allI;rw [List.not_all_eq_any_not];simp
section
variable {n:Nat} (hn:2000≤n) (aQ:n≤9223372036854775808)
include hn aQ
def Gj(l:List aY):Bool:=allI l.length λi=>ld (l.getD i default).Key&&ko (l.getD i default).bx&&(!decide (0<(i:Int))||Op.bytesLess (l.getD (pv i) default).Key (l.getD i default).Key)
def pR(l:List aY):Bool:=Gj l&&allI l.length λi=>!decide ((l.getD i default).bx.Kind=0)
def vf(n:Nat)(p:aY):Prop:=p.Key.length<n∧p.bx.S.length<n
theorem aqL{l:List aY}(ae:l.length<n)(h:∀i,vf n (l.getD i default)):IZ n l=some (Gj l):=by
 unfold IZ Gj;rw [iy (L:=zw n l) (no:=false) (yes:=true) ae,mr]
 ·intro m i hi;have Z:=h i;simp only [zw,IY,auB,hi,aus,auu,cv hi,bd,al,auA,dj (show i≤9223372036854775806 by omega),MP (show 24<n by omega),mq hi (show l.length≤9223372036854775807 by omega)]
  rw [show sN n (⟨((l.getD i default).bx).Kind,((l.getD i default).bx).N,((l.getD i default).bx).S⟩:bn)=_ from MR (v:=(l.getD i default).bx) (by have:=Z.2;omega) (by have:=Z.2;omega)]
  cases hk:ld (l.getD i default).Key
  ·simp only [aux,auw,auv,auu,al,Bool.true_or,bd,Bool.false_and];rfl
  ·simp only [aux,auw,auv,auu,al,mq hi (show l.length≤9223372036854775807 by omega),bd,Bool.true_and]
   exact iZ (by simp only [dL,ee,Bool.not_and,Bool.not_or,Bool.not_not])
 ·intro m;simp only [zw,IY,QL,auF,aut,auv]
theorem aeB{l:List aY}(ae:l.length<n)(h:∀i,vf n (l.getD i default)):Dw n l=some (pR l):=by
 unfold Dw QK QJ pR;rw [aqL hn aQ ae h,al]
 obtain⟨r,Z,ad⟩:=VZ (L:=zv n l) (len:=l.length) (p:=λi=>decide ((l.getD i default).bx.Kind=0)) ae (by
  intro m i hi;simp only [zv,IX,QH,auB,hi,aus,auu,cv hi,bd,al,auA,dj (show i≤9223372036854775806 by omega),auE,auH]) (by
  intro m;simp only [zv,IX,QI,auF,aut,auv])
 rw [Z];simp only [al,ad];cases Gj l<;>simp
theorem aeC{l:List aY}(ae:l.length<n)(h:∀i,vf n (l.getD i default)):Ea n l=some (pR l):=by
 have e1:J2 n l=some (allI l.length λi=>ld (l.getD i default).Key&&(!decide (0<(i:Int))||Op.bytesLess (l.getD (pv i) default).Key (l.getD i default).Key)):=by
  unfold J2;rw [iy (L:=Aa n l) (no:=false) (yes:=true) ae,mr]
  ·intro m i hi;have Z:=h i;simp only [Aa,J1,auB,hi,aus,auu,cv hi,bd,al,auA,dj (show i≤9223372036854775806 by omega),MQ (show(l.getD i default).Key.length<n by have:=Z.1;omega) (by have:=Z.1;omega),BK hi,mq hi (show l.length≤9223372036854775807 by omega),auG]
   exact iZ (by simp only [dL,ee,Bool.not_and,Bool.not_or,Bool.not_not,←ve])
  ·intro m;simp only [Aa,J1,RY,auF,aut,auv]
 have e2:D_ n l=some ((allI l.length λi=>ko (l.getD i default).bx)&&allI l.length λi=>ld (l.getD i default).Key&&(!decide (0<(i:Int))||Op.bytesLess (l.getD (pv i) default).Key (l.getD i default).Key)):=by
  unfold D_;rw [iy (L:=Ac n l) (chk:=λi=>ko (l.getD i default).bx) (no:=false) (yes:=allI l.length λi=>ld (l.getD i default).Key&&(!decide (0<(i:Int))||Op.bytesLess (l.getD (pv i) default).Key (l.getD i default).Key)) ae,r6]
  ·intro m i hi;have Z:=h i;simp only [Ac,J3,auB,hi,aus,auu,cv hi,bd,al,auA,dj (show i≤9223372036854775806 by omega),MS (show(l.getD i default).bx.S.length<n by have:=Z.2;omega) (by have:=Z.2;omega)]
   exact iZ rfl
  ·intro m;simp only [Ac,J3,RZ,auF,aut,auv,e1,al]
 unfold Ea;rw [iy (L:=Ad n l) (chk:=λi=>!decide ((l.getD i default).bx.Kind=0)) (no:=false) (yes:=(allI l.length λi=>ko (l.getD i default).bx)&&allI l.length λi=>ld (l.getD i default).Key&&(!decide (0<(i:Int))||Op.bytesLess (l.getD (pv i) default).Key (l.getD i default).Key)) ae,r6]
 ·unfold pR Gj;simp only [aqJ]
  congr 1
  generalize (allI l.length λi=>ld (l.getD i default).Key)=a
  generalize (allI l.length λi=>ko (l.getD i default).bx)=b
  cases a<;>cases b<;>simp [Bool.and_comm]
 ·intro m i hi;simp only [Ad,J4,auB,hi,aus,auu,cv hi,bd,al,auA,dj (show i≤9223372036854775806 by omega)]
  exact iZ (by simp)
 ·intro m;simp only [Ad,J4,R0,auF,aut,auv,e2,al]
def vg(l:List bh):Bool:=(allI l.length λi=>ld (l.getD i default).Key && !decide ((l.getD i default).Count<1) && !decide (1099511627776<(l.getD i default).Count)&&(!decide (0<(i:Int))||Op.bytesLess (l.getD (pv i) default).Key (l.getD i default).Key))&&decide (((l.length:Nat):Int)≤32)
theorem aqM{l:List bh}(ae:l.length<n):JR n l=some (vg l):=by
 unfold JR vg;rw [iy (L:=z1 n l) (no:=false) (yes:=decide (((l.length:Nat):Int)≤32)) ae,r6]
 ·intro m i hi;simp only [z1,JQ,auB,hi,aus,auu,cv hi,bd,al,auA,dj (show i≤9223372036854775806 by omega),MP (show 24<n by omega),mq hi (show l.length≤9223372036854775807 by omega)]
  exact iZ (by simp only [dL,ee,Bool.not_and,Bool.not_or,Bool.not_not])
 ·intro m;simp only [z1,JQ,RG,auF,aut,auv]
theorem aqN{l:List bh}(ae:l.length<n)(h:∀i,(l.getD i default).Key.length<n):Ky n l=some (vg l):=by
 unfold Ky vg;rw [iy (L:=Ax n l) (no:=false) (yes:=decide (((l.length:Nat):Int)≤32)) ae,r6]
 ·intro m i hi;have Z:=h i;simp only [Ax,Kx,auB,hi,aus,auu,cv hi,bd,al,auA,dj (show i≤9223372036854775806 by omega),MQ (show(l.getD i default).Key.length<n by omega) (by omega),BK hi,aqI hi,mq hi (show l.length≤9223372036854775807 by omega),auG]
  exact iZ (by simp only [dL,ee,Bool.not_and,Bool.not_or,Bool.not_not,←ve])
 ·intro m;simp only [Ax,Kx,SB,auF,aut,auv]
def tC(l:List auJ):Bool:=(allI l.length λi=>ld (l.getD i default)&&(!decide (0<(i:Int))||Op.bytesLess (l.getD (pv i) default) (l.getD i default)))
theorem aeD{l:List auJ}(ae:l.length<n):C8 n l=some (tC l&&decide (((l.length:Nat):Int)≤64)):=by
 unfold C8 tC;rw [iy (L:=zb n l) (no:=false) (yes:=decide (((l.length:Nat):Int)≤64)) ae,r6]
 ·intro m i hi;simp only [zb,Ii,auB,hi,aus,auu,cv hi,bd,al,auA,dj (show i≤9223372036854775806 by omega),MP (show 24<n by omega),mq hi (show l.length≤9223372036854775807 by omega)]
  exact iZ (by simp only [dL,ee,Bool.not_and,Bool.not_or,Bool.not_not,←ve])
 ·intro m;simp only [zb,Ii,PH,auF,aut,auv]
theorem aeE{l:List auJ}(ae:l.length<n)(h:∀i,(l.getD i default).length<n):EE n l=some (tC l):=by
 unfold EE tC;rw [iy (L:=AJ n l) (no:=false) (yes:=true) ae,mr]
 ·intro m i hi;have Z:=h i;simp only [AJ,K2,auB,hi,aus,auu,cv hi,bd,al,auA,dj (show i≤9223372036854775806 by omega),MQ (show(l.getD i default).length<n by omega) (by omega),BK hi,mq hi (show l.length≤9223372036854775807 by omega),auG]
  exact iZ (by simp only [dL,ee,Bool.not_and,Bool.not_or,Bool.not_not])
 ·intro m;simp only [AJ,K2,To,auF,aut,auv]
def vh(f:ff):Bool:=bif f.eN then decide (f.Reads.length=0)&&decide (f.dz.length=0) else(tC f.Reads&&decide (f.Reads.length≤64))&&(tC f.dz&&decide (f.dz.length≤64))
theorem aqO{f:ff}(Z:f.Reads.length<n)(ad:f.dz.length<n):C9 n f=some (vh f):=by
 unfold C9 vh;rw [aeD hn aQ Z,aeD hn aQ ad];simp only [al,fv,l1,ee];cases f.eN
 ·simp only [auv];cases tC f.Reads&&decide (f.Reads.length≤64)<;>rfl
 ·rfl
theorem aqP{f:ff}(Z:f.Reads.length<n)(ad:f.dz.length<n)(am:∀i,(f.Reads.getD i default).length<n)(aR:∀i,(f.dz.getD i default).length<n):EF n f=some (vh f):=by
 unfold EF vh;rw [aeE hn aQ Z am,aeE hn aQ ad aR];simp only [fv,l1,ee];cases f.eN
 ·simp only [auv];cases decide (f.Reads.length≤64)<;>cases decide (f.dz.length≤64)<;>cases tC f.Reads<;>cases tC f.dz<;>rfl
 ·rfl
end
def oU(c b:Bool):(bif c then some b else some default)=some (c&&b):=by cases c<;>rfl
def aeF{l:Nat}{b:Bool}:(b||decide (l<1)||decide (16<l)||aN 0 l)=true:=by
 by_cases h:l<1
 ·rw [decide_eq_true h];simp
 ·rw [mo (by omega)];simp
def aeG{α:Type}(l:List α)(d:α){i k:Nat}(h:k<i):(l.take i).getD k d=l.getD k d:=by
 simp [List.getD_eq_getElem?_getD,List.getElem?_take,h]
section
variable {n:Nat} (hn:2000≤n) (aQ:n≤9223372036854775808)
include hn aQ
def tD(l:List bn):Bool:=allI l.length λi=>ko (l.getD i default) && !decide ((l.getD i default).Kind=0)
def pS(r:Request):Int:=
 bif (((decide (r.Client<1)||decide (32<r.Client))||decide (r.Seq<1))||decide (1099511627776<r.Seq))then 1 else
 bif !hh r.be then 7 else
 bif decide (6<r.an.length)then 2 else
 bif !tD r.an then 1 else
 bif ((!vh r.bP||r.bP.eN)||(!r.f_&&decide (0<r.bP.Reads.length+r.bP.dz.length)))then 1 else 0
structure pT(n:Nat)(r:Request):Prop where
 proc:r.be.length≤1000
 args:r.an.length<n
 vals:∀i,(r.an.getD i default).S.length<n
 Gk:r.bP.Reads.length<n
 Gl:r.bP.dz.length<n
 BL:r.bP.Reads.length≤1000000
 wl:r.bP.dz.length≤1000000
 rd:∀i,(r.bP.Reads.getD i default).length<n
 wr:∀i,(r.bP.dz.getD i default).length<n
theorem aeH{r:Request}(h:pT n r):zd n r=some (pS r):=by
 have Z:=h.proc;have ad:=h.args
 obtain⟨c,e1,e2⟩:=VZ (L:=zc n r.an) (len:=r.an.length) (p:=λi=>!(ko (r.an.getD i default) && !decide ((r.an.getD i default).Kind=0))) ad (by
  intro m i hi;have:=h.vals i
  simp only [zc,Ij,PK,auB,hi,aus,auu,cv hi,bd,auA,dj (show i≤9223372036854775806 by omega),MR (show(r.an.getD i default).S.length<n by omega) (by omega),oU,al]
  cases ko (r.an.getD i default)<;>cases decide ((r.an.getD i default).Kind=0)<;>rfl) (by
  intro m;simp only [zc,Ij,PL,auF,aut,auv])
 have e3:(allI r.an.length λi=>!!(ko (r.an.getD i default) && !decide ((r.an.getD i default).Kind=0)))=tD r.an:=by simp only [Bool.not_not];rfl
 rw [e3]at e2;unfold zd PN PM pS;rw [Bm n _ (by omega),e1,show C9 n ⟨r.bP.eN,r.bP.Reads,r.bP.dz⟩=_ from aqO hn aQ (f:=r.bP) h.Gk h.Gl]
 have am:=h.Gk;have aR:=h.Gl;have yu:=h.BL;have aqQ:=h.wl;have gZ:auL (((r.bP.Reads.length:Nat):Int)+((r.bP.dz.length:Nat):Int))=((r.bP.Reads.length+r.bP.dz.length:Nat):Int):=by rw [wr]<;>omega
 simp only [al,e2,gZ,dL,ee,gc];cases ((decide (r.Client<1)||decide (32<r.Client))||decide (r.Seq<1))||decide (1099511627776<r.Seq)<;>cases hh r.be<;>cases decide (6<r.an.length)<;>cases tD r.an<;>cases ((!vh r.bP||r.bP.eN)||(!r.f_&&decide (0<r.bP.Reads.length+r.bP.dz.length)))<;>rfl
theorem aeI{r:Request}(h:pT n r):AK n r=some (pS r):=by
 have Z:=h.proc;have ad:=h.args;have am:=h.Gk;have aR:=h.Gl;have yu:=h.BL;have aqQ:=h.wl;have gZ:auL (((r.bP.Reads.length:Nat):Int)+((r.bP.dz.length:Nat):Int))=((r.bP.Reads.length+r.bP.dz.length:Nat):Int):=by rw [wr]<;>omega
 have e1:xi n r n 0=some (if tD r.an then(bif ((!vh r.bP||r.bP.eN)||(!r.f_&&decide (0<r.bP.Reads.length+r.bP.dz.length)))then 1 else 0)else 1):=by
  refine iy (L:=xi n r) ad ?_ ?_
  ·intro m i hi;have:=h.vals i
   simp only [xi,K3,auB,hi,aus,auu,cv hi,bd,auA,dj (show i≤9223372036854775806 by omega),MS (show(r.an.getD i default).S.length<n by omega) (by omega),al,auG]
   exact iZ (by simp only [dL,ee,Bool.not_and,Bool.not_or,Bool.not_not])
  ·intro m;simp only [xi,K3,Tp,auF,aut,auv];rw [show EF n ⟨r.bP.eN,r.bP.Reads,r.bP.dz⟩=_ from aqP hn aQ (f:=r.bP) h.Gk h.Gl h.rd h.wr]
   simp only [al,gZ,dL,ee,gc];cases ((!vh r.bP||r.bP.eN)||(!r.f_&&decide (0<r.bP.Reads.length+r.bP.dz.length)))<;>rfl
 unfold AK pS;rw [Bl _ (by omega) (by omega) (by omega),e1]
 simp only [al,dL,ee,gc];cases ((decide (r.Client<1)||decide (32<r.Client))||decide (r.Seq<1))||decide (1099511627776<r.Seq)<;>cases hh r.be<;>cases decide (6<r.an.length)<;>cases tD r.an<;>rfl
def MZ(c:UInt8):Bool:=!(decide (c.toNat<33)||decide (126<c.toNat))
def oV(s:auJ):Bool:=(allI s.length λi=>MZ (s.getD i 0))&&decide (s.length≤24)
theorem aeJ{s:auJ}(hs:s.length<n):Dz n s=some (oV s):=by
 unfold Dz oV;rw [iy (L:=zA n s) (no:=false) (yes:=decide (s.length≤24)) hs,r6]
 ·intro m i hi;simp only [zA,I3,auB,hi,aus,auu,cv hi,bd,auA,dj (show i≤9223372036854775806 by omega),auG,pF,gc]
  exact iZ (by simp only [dL,MZ,Bool.not_not])
 ·intro m;simp only [zA,I3,QO,auF,aut,auv,l1]
theorem aeK{s:auJ}(hs:s.length<n):Ef n s=some (oV s):=by
 unfold Ef oV;rw [iy (L:=Av n s) (chk:=λi=>MZ (s.getD i 0)) (no:=false) (yes:=true) hs,mr]
 ·simp only [gc];by_cases h:s.length≤24
  ·simp only [h,show¬ 24<s.length by omega,aus,aut,auv,Bool.and_true]
  ·simp only [h,show 24<s.length by omega,aus,aut,auu,Bool.and_false]
 ·intro m i hi;simp only [Av,Kt,auB,hi,aus,auu,cv hi,bd,auA,dj (show i≤9223372036854775806 by omega),auG,pF,gc]
  exact iZ (by simp only [dL,MZ,Bool.not_not])
 ·intro m;simp only [Av,Kt,Sy,auF,aut,auv]
def r7(n:Int):Bool:=decide (1≤n)&&decide (n≤16)
def V0(n:Int):Bool:=decide (1≤n)&&decide (n≤1099511627776)
def tE(l:List Part)(i:Nat):Bool:=
 let x:=l.getD i default
 bif decide (x.fQ=0)then decide (x.eH=[]) else((((r7 x.fQ && !decide (x.fQ=x.Node))&&oV x.eH) && !Op.bytesLess x.eH x.ed)&&(decide (i+1=l.length)||Op.bytesLess x.eH (l.getD (i+1) default).ed))
def x3(l:List Part)(i:Nat):Bool:=
 let x:=l.getD i default
 (!decide (0<(i:Int))||(oV x.ed&&Op.bytesLess (l.getD (pv i) default).ed x.ed))&&(((V0 x.Id&&r7 x.Node)&&tE l i)&&allI i λk=>!decide ((l.getD k default).Id=x.Id))
def n7(p:b1):Bool:=!((((decide (p.Version<0)||decide (1099511627776<p.Version))||decide (p.aL.length<1))||decide (16<p.aL.length)) || !decide ((p.aL.getD 0 default).ed=[]))&&allI p.aL.length (x3 p.aL)
def r8(n:Nat)(x:Part):Prop:=x.ed.length<n∧x.eH.length<n
theorem aqR{l:List Part}(ae:l.length<n){i:Nat}(hi:i<l.length)(h:∀i,r8 n (l.getD i default)):I5 n l (i:Int)=some (tE l i):=by
 unfold I5 DA tE;have Z:=(h i).2
 (rw [cv hi,bd];simp only [auA];rw [aeJ hn aQ (by omega),dj (by omega)])
 simp only [al,ee,dL,oU,Int.ofNat_inj,show(decide (1≤(l.getD i default).fQ)&&decide ((l.getD i default).fQ≤16))=r7 (l.getD i default).fQ from rfl]
 cases decide ((l.getD i default).fQ=0)
 ·simp only [auv];by_cases e:i+1=l.length
  ·simp only [e,aus,Bool.true_or,auG,bd];cases r7 (l.getD i default).fQ<;>cases decide ((l.getD i default).fQ=(l.getD i default).Node)<;>rfl
  ·rw [cv (show i+1<l.length by omega)]
   simp only [e,auA,aut,Bool.false_or,auG,bd];cases r7 (l.getD i default).fQ<;>cases decide ((l.getD i default).fQ=(l.getD i default).Node)<;>rfl
 ·rfl
theorem aeL{p:b1}(ae:p.aL.length<n)(h:∀i,r8 n (p.aL.getD i default)):DB n p=some (n7 p):=by
 have e1:wM n p n 0=some (allI p.aL.length (x3 p.aL)):=by
  rw [iy (L:=wM n p) (chk:=x3 p.aL) (no:=false) (yes:=true) ae,mr]
  ·intro m i hi;have Z:=h i;have ad:=Z.1;have b2:(p.aL.take i).length<n:=by simp;omega
   obtain⟨c,f1,f2⟩:=VZ (L:=zB n (p.aL.take i) (p.aL.getD i default).Id) (len:=(p.aL.take i).length) (p:=λk=>decide (((p.aL.take i).getD k default).Id=(p.aL.getD i default).Id)) b2 (by
    intro m k hk;have fx:k≤9223372036854775806:=by omega
    simp only [zB,I4,QP,auB,hk,aus,auu,cv hk,bd,al,auA,dj fx];cases decide (((p.aL.take i).getD k default).Id=(p.aL.getD i default).Id)<;>rfl) (by
    intro m;simp only [zB,I4,QQ,auF,aut,auv])
   have f3:(allI (p.aL.take i).length λk=>!decide (((p.aL.take i).getD k default).Id=(p.aL.getD i default).Id))=allI i λk=>!decide ((p.aL.getD k default).Id=(p.aL.getD i default).Id):=by
    rw [show(p.aL.take i).length=i by simp;omega,Bool.eq_iff_iff,Gi,Gi]
    constructor
    ·intro g k hk;have:=g k hk;rwa [aeG _ _ hk]at this
    ·intro g k hk;have:=g k hk;rwa [aeG _ _ hk]
   rw [f3]at f2;simp only [wM,I6,QS,QR,QT,DA,auB,hi,aus,auu,cv hi,bd,al,auA,dj (show i≤9223372036854775806 by omega),aeJ hn aQ (show(p.aL.getD i default).ed.length<n by omega),oU,f1,aqR hn aQ ae hi h,Bi (Nat.le_of_lt hi),auG]
   have g1:(!decide (0<(i:Int))||(!(decide (0<(i:Int))&&oV (p.aL.getD i default).ed)||aN (auL ((i:Int)-1)) p.aL.length))=true:=by
    have:=mq (b:=!(decide (0<(i:Int))&&oV (p.aL.getD i default).ed)) hi (show p.aL.length≤9223372036854775807 by omega)
    rw [←this];cases decide (0<(i:Int))<;>simp
   simp only [g1,bd,←ve,dL,ee];unfold x3 V0 r7;simp only
   cases hd:decide (0<(i:Int))
   ·simp only [Bool.false_and,auv,aux,Bool.true_or,Bool.true_and];cases (decide (1≤(p.aL.getD i default).Id)&&decide ((p.aL.getD i default).Id≤1099511627776))
    ·rfl
    ·cases (decide (1≤(p.aL.getD i default).Node)&&decide ((p.aL.getD i default).Node≤16))
     ·rfl
     ·cases tE p.aL i
      ·rfl
      ·simp only [auw,Bool.or_self,aux,auu,al,f2,Bool.false_or,Bool.true_and];exact iZ rfl
   ·simp only [Bool.true_and,auu,auw,Bool.false_or];cases oV (p.aL.getD i default).ed
    ·rfl
    ·cases Op.bytesLess (p.aL.getD (pv i) default).ed (p.aL.getD i default).ed
     ·rfl
     ·cases (decide (1≤(p.aL.getD i default).Id)&&decide ((p.aL.getD i default).Id≤1099511627776))
      ·rfl
      ·cases (decide (1≤(p.aL.getD i default).Node)&&decide ((p.aL.getD i default).Node≤16))
       ·rfl
       ·cases tE p.aL i
        ·rfl
        ·simp only [auw,Bool.or_self,aux,auu,auv,al,f2,Bool.false_or,Bool.true_and];exact iZ rfl
  ·intro m;simp only [wM,I6,QU,auF,aut,auv]
 unfold DB n7;rw [e1];simp only [dL,pF,gc,aeF,bd];cases (((decide (p.Version<0)||decide (1099511627776<p.Version))||decide (p.aL.length<1))||decide (16<p.aL.length)) || !decide ((p.aL.getD 0 default).ed=[])<;>rfl
end
def aqS{β:Type}{L:Nat→Int→Option β}{len:Nat}{chk:Nat→Bool}{no:β}{yes:Option β}
 (step:∀m i,i<len→L (m+1) (i:Int)=if chk i then L m ((i+1:Nat):Int)else some no) (stop:∀m,L (m+1) (len:Int)=yes):
 ∀m i,len<i+m→i≤len→L m (i:Int)=if(List.range' i (len-i)).all chk then yes else some no:=by
 intro m;induction m with
 |zero=>intro i h ad;omega
 |succ m aW=>
  intro i h ad;by_cases hi:i<len
  ·rw [step m i hi,aW (i+1) (by omega) (by omega),show len-i=(len-(i+1))+1 by omega,List.range'_succ,List.all_cons]
   cases chk i
   ·rfl
   ·rw [if_pos rfl,Bool.true_and]
  ·obtain rfl:i=len:=by omega
   rw [stop m];simp
def aeM{β:Type}{L:Nat→Int→Option β}{len:Nat}{chk:Nat→Bool}{no:β}{yes:Option β}{m:Nat}(hm:len<m)
 (step:∀m i,i<len→L (m+1) (i:Int)=if chk i then L m ((i+1:Nat):Int)else some no) (stop:∀m,L (m+1) (len:Int)=yes):
 L m 0=if allI len chk then yes else some no:=by
 have:=aqS step stop m 0 (by omega) (by omega)
 rwa [Nat.sub_zero,←List.range_eq_range']at this
section
variable {n:Nat} (hn:2000≤n) (aQ:n≤9223372036854775808)
include hn aQ
theorem aqT{l:List Part}{i:Nat}(hi:i<l.length)(h:∀i,r8 n (l.getD i default))(nx:auJ)(hnx:i+1<l.length→nx=(l.getD (i+1) default).ed):
 Ku n (l.getD i default) nx (decide (((i+1:Nat):Int)=((l.length:Nat):Int)))=some (tE l i):=by
 unfold Ku tE;have Z:=(h i).2;rw [aeK hn aQ (by omega)]
 simp only [oU,al,ee,dL,Int.ofNat_inj,show(decide (1≤(l.getD i default).fQ)&&decide ((l.getD i default).fQ≤16))=r7 (l.getD i default).fQ from rfl]
 cases decide ((l.getD i default).fQ=0)
 ·simp only [auv];by_cases e:i+1=l.length
  ·simp only [e,aus,Bool.true_or];cases r7 (l.getD i default).fQ<;>cases decide ((l.getD i default).fQ=(l.getD i default).Node)<;>cases oV (l.getD i default).eH<;>rfl
  ·rw [hnx (by omega)]
   simp only [e,aut,Bool.false_or];cases r7 (l.getD i default).fQ<;>cases decide ((l.getD i default).fQ=(l.getD i default).Node)<;>cases oV (l.getD i default).eH<;>rfl
 ·rfl
theorem aeN{p:b1}(ae:p.aL.length<n)(h:∀i,r8 n (p.aL.getD i default))(h0:(p.aL.getD 0 default).ed=[])(aj:Int→auN){i:Nat}(hi:i<p.aL.length)(nx:auJ)(hnx:i+1<p.aL.length→nx=(p.aL.getD (i+1) default).ed):
 Eg n aj p (i:Int) nx=if x3 p.aL i then aj ((i+1:Nat):Int)else some false:=by
 have Z:=(h i).1
 have lQ:xc n aj p (i:Int) n 0=if(allI i λk=>!decide ((p.aL.getD k default).Id=(p.aL.getD i default).Id))then aj ((i+1:Nat):Int)else some false:=by
  refine aeM (L:=xc n aj p (i:Int)) (by omega) ?_ ?_
  ·intro m k hk;have fx:k<p.aL.length:=by omega
   simp only [xc,Kv,auB,hk,aus,auu,cv fx,bd,auA,dj (show k≤9223372036854775806 by omega)]
   exact iZ (by rw [Bool.not_not])
  ·intro m;simp only [xc,Kv,SA,auF,aut,auv,dj (show i≤9223372036854775806 by omega)]
 unfold Eg
 (simp only [auA];rw [aeK hn aQ (by omega),al,mq hi (by omega),bd,dj (by omega),aqT hn aQ hi h nx hnx,oU,al,lQ])
 simp only [dL,ee,←ve];unfold x3 V0 r7;simp only
 have g0:(decide (0<(i:Int)))=false→oV (p.aL.getD i default).ed=true:=by
  intro e;obtain rfl:i=0:=by have:=of_decide_eq_false e;omega
  rw [h0];rfl
 have c1:decide ((p.aL.getD i default).Id<1) = !decide (1≤(p.aL.getD i default).Id):=by
  by_cases g:(p.aL.getD i default).Id<1
  ·rw [decide_eq_true g,decide_eq_false (by omega)];rfl
  ·rw [decide_eq_false g,decide_eq_true (by omega)];rfl
 have c2:decide (1099511627776<(p.aL.getD i default).Id) = !decide ((p.aL.getD i default).Id≤1099511627776):=by
  by_cases g:(1099511627776<(p.aL.getD i default).Id)
  ·rw [decide_eq_true g,decide_eq_false (by omega)];rfl
  ·rw [decide_eq_false g,decide_eq_true (by omega)];rfl
 have c3:decide ((p.aL.getD i default).Node<1) = !decide (1≤(p.aL.getD i default).Node):=by
  by_cases g:(p.aL.getD i default).Node<1
  ·rw [decide_eq_true g,decide_eq_false (by omega)];rfl
  ·rw [decide_eq_false g,decide_eq_true (by omega)];rfl
 have c4:decide (16<(p.aL.getD i default).Node) = !decide ((p.aL.getD i default).Node≤16):=by
  by_cases g:(16<(p.aL.getD i default).Node)
  ·rw [decide_eq_true g,decide_eq_false (by omega)];rfl
  ·rw [decide_eq_false g,decide_eq_true (by omega)];rfl
 rw [c1,c2,c3,c4,←auE,←auE];generalize (allI i λk=>!decide ((p.aL.getD k default).Id=(p.aL.getD i default).Id))=z
 cases hd:decide (0<(i:Int))
 ·rw [g0 hd];cases decide (1≤(p.aL.getD i default).Id)<;>cases decide ((p.aL.getD i default).Id≤1099511627776)<;>cases decide (1≤(p.aL.getD i default).Node)<;>cases decide ((p.aL.getD i default).Node≤16)<;>cases tE p.aL i<;>cases z<;>rfl
 ·cases oV (p.aL.getD i default).ed<;>cases Op.bytesLess (p.aL.getD (pv i) default).ed (p.aL.getD i default).ed<;>cases decide (1≤(p.aL.getD i default).Id)<;>cases decide ((p.aL.getD i default).Id≤1099511627776)<;>cases decide (1≤(p.aL.getD i default).Node)<;>cases decide ((p.aL.getD i default).Node≤16)<;>cases tE p.aL i<;>cases z<;>rfl
theorem aeO{p:b1}(ae:p.aL.length<n)(h:∀i,r8 n (p.aL.getD i default)):Eh n p=some (n7 p):=by
 unfold Eh n7;simp only [dL,pF,gc,aeF,bd];cases h0:(((decide (p.Version<0)||decide (1099511627776<p.Version))||decide (p.aL.length<1))||decide (16<p.aL.length)) || !decide ((p.aL.getD 0 default).ed=[])
 ·have aeP:(p.aL.getD 0 default).ed=[]:=by
   simp only [Bool.or_eq_false_iff,Bool.not_eq_false',decide_eq_true_eq]at h0;exact h0.2
  rw [auv];rw [iy (L:=Aw n p) (chk:=x3 p.aL) (no:=false) (yes:=true) ae,mr]
  ·rfl
  ·intro m i hi;simp only [Aw,Kw,auB,hi,aus,auu,cv hi,bd,dj (show i≤9223372036854775806 by omega)]
   by_cases e:i+1<p.aL.length
   ·rw [cv e];simp only [e,aus,auu,bd,auA];exact aeN hn aQ ae h aeP _ hi _ (λ_=>rfl)
   ·simp only [e,aut,auv];exact aeN hn aQ ae h aeP _ hi _ (λg=>absurd g e)
  ·intro m;simp only [Aw,Kw,Sz,auF,aut,auv]
 ·rfl
def Gm(o:Outcome):Bool:=bif decide (o.Status=1) then(decide (o.Code=0)&&decide (o.Out.length≤16))&&tD o.Out else((decide (o.Status=2)&&decide (0≤o.Code))&&decide (o.Code≤1009))&&decide (o.Out.length=0)
structure x4(n:Nat)(o:Outcome):Prop where
 out:o.Out.length<n
 vals:∀i,(o.Out.getD i default).S.length<n
theorem aqU{o:Outcome}(h:x4 n o):Dt n o=some (Gm o):=by
 have Z:=h.out
 have e1:wJ n o n 0=some (tD o.Out):=by
  rw [iy (L:=wJ n o) (no:=false) (yes:=true) Z,mr]
  ·rfl
  ·intro m i hi;have:=h.vals i
   simp only [wJ,IN,auB,hi,aus,auu,cv hi,bd,auA,dj (show i≤9223372036854775806 by omega),MR (show(o.Out.getD i default).S.length<n by omega) (by omega),al]
   exact iZ (by simp only [dL,Bool.not_and,Bool.not_not])
  ·intro m;simp only [wJ,IN,Qz,auF,aut,auv]
 unfold Dt Qy Gm;rw [e1];simp only [dL,ee,gc,fv];cases decide (o.Status=1)
 ·simp only [auv];cases decide (o.Status=2)<;>rfl
 ·simp only [auu];by_cases g:o.Out.length≤16
  ·simp only [show¬ 16<o.Out.length by omega,g,aus,aut]
   cases decide (o.Code=0)<;>rfl
  ·simp only [show 16<o.Out.length by omega,g,aus,aut,auG,auu,Bool.and_false,Bool.false_and]
theorem aqV{o:Outcome}(h:x4 n o):Ei n o=some (Gm o):=by
 have Z:=h.out
 have e1:xd n o.Out n 0=some (tD o.Out&&decide (o.Out.length≤16)):=by
  rw [iy (L:=xd n o.Out) (chk:=λi=>ko (o.Out.getD i default) && !decide ((o.Out.getD i default).Kind=0)) (no:=false) (yes:=decide (o.Out.length≤16)) Z,r6]
  ·rfl
  ·intro m i hi;have:=h.vals i
   simp only [xd,Kz,auB,hi,aus,auu,cv hi,bd,auA,dj (show i≤9223372036854775806 by omega),MS (show(o.Out.getD i default).S.length<n by omega) (by omega),al,auG]
   exact iZ (by simp only [dL,Bool.not_and,Bool.not_not])
  ·intro m;simp only [xd,Kz,SC,auF,aut,auv,l1]
 unfold Ei SD Gm;rw [e1,oU,al];simp only [ee,fv];cases decide (o.Status=1)
 ·rfl
 ·simp only [auu];cases decide (o.Code=0)<;>cases decide (o.Out.length≤16)<;>cases tD o.Out<;>rfl
def l6(nx:Int):Int:=bif (decide ((auL (nx-1))<8)) then(auL (nx-1))else 8
def x5(s:bG):Bool:=((decide (s.Client<1)||decide (32<s.Client))||decide (s.Next<1))||decide (1099511627776<s.Next)
omit hn aQ in
theorem aeQ{s:bG}(h:x5 s=false):1≤s.Client∧s.Client≤32∧1≤s.Next∧s.Next≤1099511627776:=by
 simp only [x5,Bool.or_eq_false_iff,decide_eq_false_iff_not]at h;omega
def Gn(s:bG)(i:Nat):Bool:=(decide ((s.dn.getD i default).Client=s.Client)&&decide ((s.dn.getD i default).Seq=s.Next-(s.dn.length:Int)+(i:Int)))&&Gm (s.dn.getD i default).Outcome
def Gp(s:bG):Bool:=(!x5 s&&decide ((s.dn.length:Int)=l6 s.Next))&&allI s.dn.length (Gn s)
structure qU(n:Nat)(s:bG):Prop where
 rep:s.dn.length<n
 out:∀i,x4 n (s.dn.getD i default).Outcome
theorem aqW{s:bG}(h:qU n s):IQ n s=some (Gp s):=by
 have Z:=h.rep;unfold IQ Ds Gp;simp only [dL];rw [show(((decide (s.Client<1)||decide (32<s.Client))||decide (s.Next<1))||decide (1099511627776<s.Next))=x5 s from rfl]
 cases e4:x5 s
 ·have hb:=aeQ e4;simp only [aux,auu,al,Bool.false_or,Bool.true_and];rw [show(bif (decide ((auL (s.Next-1))<8)) then(auL (s.Next-1))else 8)=l6 s.Next from rfl]
  rw [iy (L:=zq n s) (chk:=Gn s) (no:=false) (yes:=true) Z,mr]
  ·cases decide ((s.dn.length:Int)=l6 s.Next)<;>rfl
  ·intro m i hi;simp only [zq,IP,auB,hi,aus,auu,cv hi,bd,auA,dj (show i≤9223372036854775806 by omega)]
   rw [show Dt n (⟨((s.dn.getD i default).Outcome).Status,((s.dn.getD i default).Outcome).Code,((s.dn.getD i default).Outcome).Out⟩:Outcome)=_ from aqU hn aQ (h.out i),oU,al,wr (x:=s.Next-((s.dn.length:Nat):Int)) (by omega) (by omega),wr (x:=s.Next-((s.dn.length:Nat):Int)+(i:Int)) (by omega) (by omega)]
   refine iZ ?_;unfold Gn;simp only [dL,Bool.and_true,Bool.not_not];cases decide ((s.dn.getD i default).Client=s.Client)<;>cases decide ((s.dn.getD i default).Seq=s.Next-(s.dn.length:Int)+(i:Int))<;>rfl
  ·intro m;simp only [zq,IP,QA,auF,aut,auv]
 ·rfl
theorem aqX{s:bG}(h:qU n s):KB n s=some (Gp s):=by
 have Z:=h.rep;unfold KB Ej Gp;simp only [dL];rw [show(((decide (s.Client<1)||decide (32<s.Client))||decide (s.Next<1))||decide (1099511627776<s.Next))=x5 s from rfl]
 cases e4:x5 s
 ·have hb:=aeQ e4;simp only [aux,auu,al,Bool.false_or,Bool.true_and];rw [show(bif (decide ((auL (s.Next-1))<8)) then(auL (s.Next-1))else 8)=l6 s.Next from rfl]
  rw [iy (L:=Ay n s) (chk:=Gn s) (no:=false) (yes:=true) Z,mr]
  ·cases decide ((s.dn.length:Int)=l6 s.Next)<;>rfl
  ·intro m i hi;simp only [Ay,KA,auB,hi,aus,auu,cv hi,bd,auA,dj (show i≤9223372036854775806 by omega)]
   rw [show Ei n (⟨((s.dn.getD i default).Outcome).Status,((s.dn.getD i default).Outcome).Code,((s.dn.getD i default).Outcome).Out⟩:Outcome)=_ from aqV hn aQ (h.out i),oU,al,wr (x:=((s.dn.length:Nat):Int)-(i:Int)) (by omega) (by omega),show s.Next-(((s.dn.length:Nat):Int)-(i:Int))=s.Next-((s.dn.length:Nat):Int)+(i:Int)by omega,wr (x:=s.Next-((s.dn.length:Nat):Int)+(i:Int)) (by omega) (by omega)]
   refine iZ ?_;unfold Gn;simp only [dL,Bool.and_true,Bool.not_not];cases decide ((s.dn.getD i default).Client=s.Client)<;>cases decide ((s.dn.getD i default).Seq=s.Next-(s.dn.length:Int)+(i:Int))<;>rfl
  ·intro m;simp only [Ay,KA,SE,auF,aut,auv]
 ·rfl
def n8(l:List bG):Bool:=allI l.length λi=>Gp (l.getD i default)&&(!decide (0<(i:Int)) || !decide ((l.getD i default).Client≤(l.getD (pv i) default).Client))
theorem aeR{l:List bG}(ae:l.length<n)(h:∀i,qU n (l.getD i default)):zt n l=some (n8 l):=by
 unfold zt n8;rw [iy (L:=zr n l) (no:=false) (yes:=true) ae,mr]
 ·intro m i hi;simp only [zr,IR,auB,hi,aus,auu,cv hi,bd,auA,dj (show i≤9223372036854775806 by omega),aqW hn aQ (h i),al,mq hi (show l.length≤9223372036854775807 by omega)]
  exact iZ (by simp only [dL,ee,Bool.not_and,Bool.not_or,Bool.not_not])
 ·intro m;simp only [zr,IR,QB,auF,aut,auv]
theorem aeS{l:List bG}(ae:l.length<n)(h:∀i,qU n (l.getD i default)):Ek n l=some (n8 l):=by
 unfold Ek n8;rw [iy (L:=Az n l) (no:=false) (yes:=true) ae,mr]
 ·intro m i hi;simp only [Az,KC,auB,hi,aus,auu,cv hi,bd,auA,dj (show i≤9223372036854775806 by omega),aqX hn aQ (h i),al,BK hi,mq hi (show l.length≤9223372036854775807 by omega),auG]
  exact iZ (by simp only [dL,ee,Bool.not_and,Bool.not_or,Bool.not_not])
 ·intro m;simp only [Az,KC,SF,auF,aut,auv]
end
def aeT{β:Type}{c d k:Bool}{x y:β}(h:k=(!c && !d)):(bif c then x else(bif d then x else y))=if k then y else x:=by subst h;cases c<;>cases d<;>rfl
def aqY{α σ R:Type}[Inhabited α]{l:List α}{g:σ→α→σ}{I:Nat→σ→Prop}{L:Nat→σ→Int→Option R}{fin:σ→Option R}
 (step:∀m acc i,i<l.length→I i acc→L (m+1) acc (i:Int)=L m (g acc (l.getD i default)) ((i+1:Nat):Int)∧I (i+1) (g acc (l.getD i default)))
 (stop:∀m acc,I l.length acc→L (m+1) acc (l.length:Int)=fin acc):
 ∀m i acc,l.length<i+m→i≤l.length→I i acc→L m acc (i:Int)=fin ((l.drop i).foldl g acc):=by
 intro m;induction m with
 |zero=>intro i acc h ad;omega
 |succ m aW=>
  intro i acc h ad mf;by_cases hi:i<l.length
  ·obtain⟨am,aR⟩:=step m acc i hi mf;rw [am,aW (i+1) _ (by omega) (by omega) aR,fH l i default hi,List.foldl_cons]
  ·obtain rfl:i=l.length:=by omega
   rw [stop m acc mf,List.drop_of_length_le (Nat.le_refl _)];rfl
def aeU{α σ R:Type}[Inhabited α]{l:List α}{g:σ→α→σ}{I:Nat→σ→Prop}{L:Nat→σ→Int→Option R}{fin:σ→Option R}{m:Nat}(hm:l.length<m){acc:σ}(h0:I 0 acc)
 (step:∀m acc i,i<l.length→I i acc→L (m+1) acc (i:Int)=L m (g acc (l.getD i default)) ((i+1:Nat):Int)∧I (i+1) (g acc (l.getD i default)))
 (stop:∀m acc,I l.length acc→L (m+1) acc (l.length:Int)=fin acc):L m acc 0=fin (l.foldl g acc):=
 aqY step stop m 0 acc (by omega) (by omega) h0
def fold_map{α β:Type}(f:α→β):∀(l:List α) (acc:List β),l.foldl (λa x=>a++[f x]) acc=acc++l.map f
 |[],acc=>by simp
 |x::l,acc=>by rw [List.foldl_cons,fold_map f l];simp
def iz{m k:Nat}(h:m*k≤140737488355328):room m k=true:=by simp [room];exact h
def V1{α:Type}[Inhabited α]{l:List α}{i:Nat}(h:i<l.length):l.getD i default∈l:=by
 rw [List.getD_eq_getElem?_getD,List.getElem?_eq_getElem h];exact List.getElem_mem h
section
variable {n:Nat} (hn:2000≤n) (aQ:n≤9223372036854775808)
include hn aQ
def V2(a b:bn):Bool:=decide (a.Kind=b.Kind)&&(decide (a.N=b.N)&&(decide (a.S=b.S)&&true))
def Gq(r:Row)(floor last:Int)(i:Nat):Bool:=
 ((!decide ((r.bZ.getD i default).dD<floor) && !decide (last<(r.bZ.getD i default).dD))&&ko (r.bZ.getD i default).bx) &&
 !(decide (0<(i:Int))&&(decide ((r.bZ.getD i default).dD≤(r.bZ.getD (pv i) default).dD)||V2 (r.bZ.getD i default).bx (r.bZ.getD (pv i) default).bx))
def vi(r:Row)(floor last:Int):Bool:=!(decide (r.bZ.length=0)||decide ((r.bZ.getD 0 default).bx.Kind=0))&&allI r.bZ.length (Gq r floor last)
structure Gr(n:Nat)(r:Row):Prop where
 key:r.Key.length<n
 V3:r.bZ.length<n
 val:∀i,(r.bZ.getD i default).bx.S.length<n
omit hn aQ in
theorem aeV{i len:Nat}{b:Bool}(hi:i<len)(ae:len≤9223372036854775807):(!(decide (0<(i:Int)))||(b||aN (auL ((i:Int)-1)) len))=true:=by
 have:=mq (b:=b) hi ae
 rw [←this];cases decide (0<(i:Int))<;>cases b<;>simp
omit hn aQ in
theorem aeW{i len:Nat}(hi:i<len)(ae:len≤9223372036854775807):(!(decide (0<(i:Int)))||aN (auL ((i:Int)-1)) len)=true:=by
 have:=mq (b:=false) hi ae
 rw [Bool.false_or]at this;exact this
omit hn aQ in
theorem aeX{l:Nat}:(decide (l=0)||aN 0 l)=true:=by
 by_cases h:l=0
 ·rw [decide_eq_true h];rfl
 ·rw [mo (by omega)];simp
theorem aqZ{r:Row}(h:Gr n r)(floor last:Int):Il n r floor last=some (vi r floor last):=by
 have Z:=h.V3;unfold Il vi;rw [iy (L:=zf n floor last r) (chk:=Gq r floor last) (no:=false) (yes:=true) Z,mr]
 ·simp only [fv,aeX,bd,dL];cases decide (r.bZ.length=0)||decide ((r.bZ.getD 0 default).bx.Kind=0)<;>rfl
 ·intro m i hi;have ad:=h.val i;simp only [zf,Ik,auB,hi,aus,auu,cv hi,bd,auA,dj (show i≤9223372036854775806 by omega),aeV hi (show r.bZ.length≤9223372036854775807 by omega),aeW hi (show r.bZ.length≤9223372036854775807 by omega)]
  rw [show sN n (⟨((r.bZ.getD i default).bx).Kind,((r.bZ.getD i default).bx).N,((r.bZ.getD i default).bx).S⟩:bn)=_ from MR (v:=(r.bZ.getD i default).bx) (by omega) (by omega),oU,al]
  refine aeT ?_;unfold Gq;simp only [V2,dL,ee,Bool.not_and,Bool.not_or,Bool.not_not];cases decide ((r.bZ.getD i default).dD<floor)<;>cases decide (last<(r.bZ.getD i default).dD)<;>cases ko (r.bZ.getD i default).bx<;>rfl
 ·intro m;simp only [zf,Ik,PQ,auF,aut,auv]
theorem aq0{r:Row}(h:Gr n r)(floor last:Int):J8 n r floor last=some (ld r.Key&&vi r floor last):=by
 have Z:=h.V3;have h0:=h.key;unfold J8 vi;rw [MQ (by omega) (by omega),al]
 rw [iy (L:=Ag n floor last r) (chk:=Gq r floor last) (no:=false) (yes:=true) Z,mr]
 ·have g:∀b:Bool,(b||decide (r.bZ.length=0)||aN 0 r.bZ.length)=true:=λb=>by rw [Bool.or_assoc,aeX];simp
  simp only [fv,dL,g,bd];cases ld r.Key<;>cases decide (r.bZ.length=0)<;>cases decide ((r.bZ.getD 0 default).bx.Kind=0)<;>rfl
 ·intro m i hi;have ad:=h.val i;simp only [Ag,J7,R4,auB,hi,aus,auu,cv hi,bd,auA,dj (show i≤9223372036854775806 by omega),aeV hi (show r.bZ.length≤9223372036854775807 by omega),aeW hi (show r.bZ.length≤9223372036854775807 by omega)]
  rw [show uE n (⟨((r.bZ.getD i default).bx).Kind,((r.bZ.getD i default).bx).N,((r.bZ.getD i default).bx).S⟩:bn)=_ from MS (v:=(r.bZ.getD i default).bx) (by omega) (by omega),al,al]
  refine aeT ?_;unfold Gq;simp only [V2,dL,ee,Bool.not_and,Bool.not_or,Bool.not_not];cases decide ((r.bZ.getD i default).dD<floor)<;>cases decide (last<(r.bZ.getD i default).dD)<;>cases ko (r.bZ.getD i default).bx<;>rfl
 ·intro m;simp only [Ag,J7,R5,auF,aut,auv]
def x6(s:au):Bool:=!((decide (s.bX<0)||decide (s.bN<s.bX))||decide (1099511627776<s.bN)) &&
 allI s.Rows.length λi=>(ld (s.Rows.getD i default).Key&&(!decide (0<(i:Int))||Op.bytesLess (s.Rows.getD (pv i) default).Key (s.Rows.getD i default).Key))&&vi (s.Rows.getD i default) s.bX s.bN
structure vj(n:Nat)(s:au):Prop where
 rows:s.Rows.length<n
 row:∀i,Gr n (s.Rows.getD i default)
theorem aq1{s:au}(h:vj n s):zh n s=some (x6 s):=by
 have Z:=h.rows;unfold zh x6;rw [iy (L:=zg n s) (chk:=λi=>(ld (s.Rows.getD i default).Key&&(!decide (0<(i:Int))||Op.bytesLess (s.Rows.getD (pv i) default).Key (s.Rows.getD i default).Key))&&vi (s.Rows.getD i default) s.bX s.bN) (no:=false) (yes:=true) Z,mr]
 ·simp only [dL];cases (decide (s.bX<0)||decide (s.bN<s.bX))||decide (1099511627776<s.bN)<;>rfl
 ·intro m i hi;have ad:=(h.row i).key;simp only [zg,Im,auB,hi,aus,auu,cv hi,bd,al,auA,dj (show i≤9223372036854775806 by omega),MP (show 24<n by omega),mq hi (show s.Rows.length≤9223372036854775807 by omega),aqZ hn aQ (h.row i),oU,←ve]
  refine iZ ?_;simp only [dL,ee];cases ld (s.Rows.getD i default).Key<;>cases decide (0<(i:Int))<;>cases Op.bytesLess (s.Rows.getD (pv i) default).Key (s.Rows.getD i default).Key<;>rfl
 ·intro m;simp only [zg,Im,PR,auF,aut,auv]
theorem aq2{s:au}(h:vj n s):Ai n s=some (x6 s):=by
 have Z:=h.rows;unfold Ai x6;rw [iy (L:=Ah n s) (chk:=λi=>(ld (s.Rows.getD i default).Key&&(!decide (0<(i:Int))||Op.bytesLess (s.Rows.getD (pv i) default).Key (s.Rows.getD i default).Key))&&vi (s.Rows.getD i default) s.bX s.bN) (no:=false) (yes:=true) Z,mr]
 ·simp only [dL];cases (decide (s.bX<0)||decide (s.bN<s.bX))||decide (1099511627776<s.bN)<;>rfl
 ·intro m i hi;simp only [Ah,J9,auB,hi,aus,auu,cv hi,bd,al,auA,dj (show i≤9223372036854775806 by omega),aq0 hn aQ (h.row i),BK hi,mq hi (show s.Rows.length≤9223372036854775807 by omega),auG]
  refine iZ ?_;simp only [dL,ee];cases ld (s.Rows.getD i default).Key<;>cases decide (0<(i:Int))<;>cases Op.bytesLess (s.Rows.getD (pv i) default).Key (s.Rows.getD i default).Key<;>cases vi (s.Rows.getD i default) s.bX s.bN<;>rfl
 ·intro m;simp only [Ah,J9,R6,auF,aut,auv]
def pU(l:List aY)(at_:Int):au:=⟨at_,at_,l.map λp=>⟨p.Key,[⟨at_,p.bx⟩]⟩⟩
def BM(l:List aY)(at_:Int):au×Int:=bif ((!pR l||decide (at_<0))||decide (1099511627776<at_)) then(⟨0,0,[]⟩,1) else(pU l at_,0)
theorem aq3{l:List aY}(ae:l.length<n)(eQ:l.length≤1000000000)(h:∀i,vf n (l.getD i default))(at_:Int):z' n l at_=some (BM l at_):=by
 unfold z' BM;rw [aeB hn aQ ae h,al,aeU (L:=z8 n at_ l) (g:=λa p=>a++[⟨p.Key,[⟨at_,p.bx⟩]⟩]) (I:=λi acc=>acc.length=i) (fin:=λv=>some (⟨at_,at_,v⟩,0)) ae rfl,fold_map]
 ·simp only [dL,List.nil_append];cases (!pR l||decide (at_<0))||decide (1099511627776<at_)<;>rfl
 ·intro m acc i hi mf;have:room (acc.length+1) 40=true:=iz (by omega)
  simp only [z8,JV,auB,hi,aus,auu,cv hi,bd,auA,dj (show i≤9223372036854775806 by omega),auD,this]
  exact⟨trivial,by simp [mf]⟩
 ·intro m acc mf;simp only [z8,JV,RJ,auF,aut,auv]
theorem aq4{l:List aY}(ae:l.length<n)(eQ:l.length≤1000000000)(h:∀i,vf n (l.getD i default))(at_:Int):w_ n l at_=some (BM l at_):=by
 unfold w_ BM;rw [aeC hn aQ ae h,al,aeU (L:=Ae n l at_) (g:=λa p=>a++[⟨p.Key,[⟨at_,p.bx⟩]⟩]) (I:=λi acc=>acc.length=i) (fin:=λv=>some (⟨at_,at_,v⟩,0)) ae rfl,fold_map]
 ·simp only [dL,List.nil_append];cases (!pR l||decide (at_<0))||decide (1099511627776<at_)<;>rfl
 ·intro m acc i hi mf;have:room (acc.length+1) 40=true:=iz (by omega)
  simp only [Ae,J5,auB,hi,aus,auu,cv hi,bd,auA,dj (show i≤9223372036854775806 by omega),auD,this]
  exact⟨trivial,by simp [mf]⟩
 ·intro m acc mf;simp only [Ae,J5,R1,auF,aut,auv]
end
def oW{α:Type}[Inhabited α]{P:α→Prop}{l:List α}(h:∀x∈l,P x)(h0:P default)(i:Nat):P (l.getD i default):=by
 by_cases hi:i<l.length
 ·exact h _ (V1 hi)
 ·rw [List.getD_eq_getElem?_getD,List.getElem?_eq_none (by omega)];exact h0
def V4{v:bn}(h:vc v):v.S.length≤64:=by
 rcases x0 h.1 with h|h|h
 ·rw [h];simp
 ·rw [h.2];simp
 ·exact aes h.2.2
def tF:eJ aY:=e' (λp=>⟨p.1,p.2⟩) (dM (dR 24) λ_=>iY)
def r9(p:aY):auJ:=hC p.Key++cf p.bx
def vk(p:aY):Prop:=p.Key.length≤24∧vc p.bx
def Gs:eh tF r9 vk:=
 (jV.dep λ_ _=>n6).map _ (λp=>(p.Key,p.bx)) vk r9 (λb h=>⟨rfl,⟨h.1,h.2⟩,rfl⟩) (λa h=>⟨rfl,⟨h.1,h.2⟩⟩)
def r':eJ (List aY):=jU pR 5 (gV 2147483647 tF)
def aq5:eh (gV 2147483647 tF) (jl r9) (λl=>l.length≤2147483647∧∀v∈l,vk v):=Gs.vb _ (by omega) (λv _=>by unfold r9 hC;simp [r0])
def x7:eh r' (jl r9) (λl=>(l.length≤2147483647∧∀v∈l,vk v)∧pR l=true):=aq5.chk _ _ (by omega)
def aeY{n:Nat}(hn:2000≤n){p:aY}(h:vk p):vf n p:=⟨by have:=h.1;omega,by have:=V4 h.2;omega⟩
def M0{n:Nat}(hn:2000≤n){l:List aY}(h:∀p∈l,vk p)(i:Nat):vf n (l.getD i default):=oW (P:=vf n) (λx hx=>aeY hn (h x hx)) ⟨by show 0<n;omega,by show 0<n;omega⟩ i
section
variable {n:Nat} (hn:2000≤n) (aQ:n≤9223372036854775808) {s:auJ} (hs:s.length<min n 1000000000)
include hn aQ hs
theorem aq6{t:auJ}(ax:t <:+ s):I2 n s (aS s t)=some (res [] s (r' t)):=by
 unfold I2 r' jU gV;rw [show(2147483647:Int)=((2147483647:Nat):Int)from rfl,tA ax (by omega) (by omega) (by omega),al]
 cases h:gt 2147483647 t with
 |error e=>rw [kO h,b7];simp only [dg (kp h),auu,b7]
 |ok r=>
  obtain⟨u,bp⟩:=r;obtain⟨Z,ad,am⟩:=jD h;have dm:bp <:+ s:=List.IsSuffix.trans ⟨gi u,Z.symm⟩ ax;have hu:=dm.length_le;rw [kN h,cY];simp only [aus,auw,auv];rw [show wL n s ((u:Int),aS s bp,0) n (aS s bp) 0 []=_ from tB (L:=λm i t acc=>wL n s ((u:Int),aS s bp,0) m (aS s t) (i:Int) acc) (D:=tF) (u:=u) (s:=s) (fin:=λacc t=>I0 n (aS s t) acc) (bad:=λe=>some ([],0,e)) (λx v t hx=>Gs.gU hx) ?_ ?_ (by omega) dm]
  ·cases ah:e5 tF u bp with
   |error e=>rfl
   |ok r=>
    obtain⟨l,jW⟩:=r;obtain⟨g1,g2,g3⟩:=(Gs.rep u).eF _ _ _ ah;simp only [I0];rw [aeB hn aQ (by omega) (M0 (by omega) g3),al]
    cases pR l<;>rfl
  ·intro m i t acc hi ha ax;simp only [wL,I1,auB,hi,aus,auu];rw [show(24:Int)=((24:Nat):Int)from rfl,BJ ax (by omega) (by omega) (by omega),al]
   unfold tF e' dM;cases aR:dR 24 t with
   |error e=>rw [b7];simp only [dg (jV.cb _ _ aR),auu]
   |ok r=>
    obtain⟨k,t1⟩:=r;rw [cY];simp only [aus,auw,auv];rw [VX (eT jV aR ax) (by omega) (by omega),al]
    cases bv:iY t1 with
    |error e=>rw [b7];simp only [dg (n6.cb _ _ bv),auu]
    |ok r=>
     obtain⟨v,t2⟩:=r;rw [cY];simp only [aus,auw,auv,auD];rw [iz (by omega),bd,dj (by omega)]
  ·intro m t acc ha ax;simp only [wL,I1,auF,aut,auv]
theorem aeZ{t:auJ}(ax:t <:+ s):K' n s (aS s t)=some (res [] s (r' t)):=by
 unfold K' r' jU gV;rw [show(2147483647:Int)=((2147483647:Nat):Int)from rfl,r4 ax (by omega) (by omega) (by omega),al]
 cases h:gt 2147483647 t with
 |error e=>rw [kO h,b7];simp only [dg (kp h),auu,b7]
 |ok r=>
  obtain⟨u,bp⟩:=r;obtain⟨Z,ad,am⟩:=jD h;have dm:bp <:+ s:=List.IsSuffix.trans ⟨gi u,Z.symm⟩ ax;have hu:=dm.length_le;rw [kN h,cY];simp only [aus,auw,auv];rw [show xj n s ((u:Int),aS s bp,0) n [] 0 (aS s bp)=_ from tB (L:=λm i t acc=>xj n s ((u:Int),aS s bp,0) m acc (i:Int) (aS s t)) (D:=tF) (u:=u) (s:=s) (fin:=λacc t=>K8 n acc (aS s t)) (bad:=λe=>some ([],0,e)) (λx v t hx=>Gs.gU hx) ?_ ?_ (by omega) dm]
  ·cases ah:e5 tF u bp with
   |error e=>rfl
   |ok r=>
    obtain⟨l,jW⟩:=r;obtain⟨g1,g2,g3⟩:=(Gs.rep u).eF _ _ _ ah;simp only [K8];rw [aeC hn aQ (by omega) (M0 (by omega) g3),al]
    cases pR l<;>rfl
  ·intro m i t acc hi ha ax;simp only [xj,K9,auB,hi,aus,auu];rw [show(24:Int)=((24:Nat):Int)from rfl,r5 ax (by omega) (by omega) (by omega),al]
   unfold tF e' dM;cases aR:dR 24 t with
   |error e=>rw [b7];simp only [dg (jV.cb _ _ aR),auu]
   |ok r=>
    obtain⟨k,t1⟩:=r;rw [cY];simp only [aus,auw,auv];rw [VY (eT jV aR ax) (by omega) (by omega),al]
    cases bv:iY t1 with
    |error e=>rw [b7];simp only [dg (n6.cb _ _ bv),auu]
    |ok r=>
     obtain⟨v,t2⟩:=r;rw [cY];simp only [aus,auw,auv,auD];rw [iz (by omega),bd,dj (by omega)]
  ·intro m t acc ha ax;simp only [xj,K9,auF,aut,auv]
end
def r_{α β R:Type}{D:eJ α}{s:auJ}{u:Nat}{f:Nat→α→β}{L:Nat→Nat→auJ→List β→Option R}{fin:List β→auJ→Option R}{bad:Int→Option R→Prop}
 (gU:∀x v t,D x = .ok (v,t)→t <:+ x)
 (step:∀m i t acc,u<i+1+m→i<u→acc.length=i→t <:+ s→match D t with|.ok (v,bp)=>L (m+1) i t acc=L m (i+1) bp (acc++[f i v])|.error e=>bad e (L (m+1) i t acc))
 (stop:∀m t acc,acc.length=u→t <:+ s→L (m+1) u t acc=fin acc t):
 ∀k m i t acc,i+k=u→k<m→acc.length=i→t <:+ s→match e5 D k t with|.ok (l,bp)=>L m i t acc=fin (acc++(l.zipIdx i).map λp=>f p.2 p.1) bp|.error e=>bad e (L m i t acc):=by
 intro k;induction k with
 |zero=>
  intro m i t acc hi hm ha ax;obtain⟨m,rfl⟩:∃j,m=j+1:=⟨m-1,by omega⟩
  obtain rfl:i=u:=by omega
  rw [stop m t acc ha ax];simp [e5]
 |succ k aW=>
  intro m i t acc hi hm ha ax;obtain⟨m,rfl⟩:∃j,m=j+1:=⟨m-1,by omega⟩
  have dC:=step m i t acc (by omega) (by omega) ha ax
  unfold e5;cases h:D t with
  |error e=>rw [h]at dC;exact dC
  |ok r=>
   obtain⟨v,bp⟩:=r;rw [h]at dC;simp only at dC ⊢
   have:=aW m (i+1) bp (acc++[f i v]) (by omega) (by omega) (by simp [ha]) ((gU _ _ _ h).trans ax)
   cases ad:e5 D k bp with
   |error e=>rw [ad]at this;simp only at this ⊢;rw [dC];exact this
   |ok r=>
    obtain⟨l,jW⟩:=r;rw [ad]at this;simp only at this ⊢
    rw [dC,this];simp
def sa{α:Type}(l:List α)(i:Nat):((l.zipIdx i).map λp=>p.1)=l:=List.zipIdx_map_fst i l
def kq{α:Type}(e:Int)(x:Option (α×Int×Int)):Prop:=∃v a,x=some (v,a,e)
def qV:eJ Part:=e' (λp=>⟨p.1,p.2.1,p.2.2.1,p.2.2.2.1,p.2.2.2.2⟩) (dM gD λ_=>dM (dR 24) λ_=>dM gD λ_=>dM gD λ_=>dR 24)
def Gt(x:Part):auJ:=qS x.Id++(hC x.ed++(qS x.Node++(qS x.fQ++hC x.eH)))
def vl(x:Part):Prop:=gr x.Id∧x.ed.length≤24∧gr x.Node∧gr x.fQ∧x.eH.length≤24
def BN:eh qV Gt vl:=
 (hD.dep λ_ _=>jV.dep λ_ _=>hD.dep λ_ _=>hD.dep λ_ _=>jV).map _ (λx=>(x.Id,x.ed,x.Node,x.fQ,x.eH)) vl Gt
  (λb h=>⟨rfl,⟨h.1,h.2.1,h.2.2.1,h.2.2.2.1,h.2.2.2.2⟩,rfl⟩) (λa h=>⟨rfl,⟨h.1,h.2.1,h.2.2.1,h.2.2.2.1,h.2.2.2.2⟩⟩)
def pV:eJ b1:=jU n7 5 (e' (λp=>⟨p.1,p.2⟩) (dM gD λ_=>gV 16 qV))
def V5(p:b1):auJ:=qS p.Version++jl Gt p.aL
def aq7:eh (gV 16 qV) (jl Gt) (λl=>l.length≤16∧∀v∈l,vl v):=BN.vb _ (by omega) (λv _=>by unfold Gt qS;simp [r0])
def x8:eh pV V5 (λp=>(gr p.Version∧p.aL.length≤16∧∀v∈p.aL,vl v)∧n7 p=true):=
 ((hD.dep λ_ _=>aq7).map (λp=>(⟨p.1,p.2⟩:b1)) (λp:b1=>(p.Version,p.aL)) (λp=>gr p.Version∧p.aL.length≤16∧∀v∈p.aL,vl v) V5 (λb h=>⟨rfl,⟨h.1,h.2⟩,rfl⟩) (λa h=>⟨rfl,⟨h.1,h.2⟩⟩)).chk _ _ (by omega)
def aq8{n:Nat}(hn:2000≤n){p:Part}(h:vl p):r8 n p:=⟨by have:=h.2.1;omega,by have:=h.2.2.2.2;omega⟩
def M1{n:Nat}(hn:2000≤n){l:List Part}(h:∀p∈l,vl p)(i:Nat):r8 n (l.getD i default):=oW (P:=r8 n) (λx hx=>aq8 hn (h x hx)) ⟨by show 0<n;omega,by show 0<n;omega⟩ i
section
variable {n:Nat} (hn:2000≤n) (aQ:n≤9223372036854775808) {s:auJ} (hs:s.length<min n 1000000000)
theorem Gu{a e:Int}(he:e≠0):sR n ⟨s,a,e⟩=some (0,a,e):=by
 unfold sR;simp only [dg he,auu]
theorem Gv{a e:Int}(he:e≠0):wN n ⟨s,a,e⟩=some ([],a,e):=by
 unfold wN;simp only [dg he,auu]
include hn aQ hs
theorem M3{t:auJ}(ax:t <:+ s):sR n ⟨s,aS s t,0⟩=some (res 0 s (gD t)):=by
 unfold sR;simp only [aus,auw,auv];rw [VW ax (by omega) (by omega),al]
theorem ae0{t:auJ}(ax:t <:+ s):wN n ⟨s,aS s t,0⟩=some (res [] s (dR 24 t)):=by
 unfold wN;simp only [aus,auw,auv];rw [show(24:Int)=((24:Nat):Int)from rfl,BJ ax (by omega) (by omega) (by omega),al]
theorem BO{u:Nat}(hu:u<min n 1000000000){r1:Int×Int×Int}{b:Int}{c:Int}:∀(k m i:Nat) (a e:Int) (acc:List Part),e≠0→i+k=u→k<m→acc.length=i→sS n ((u:Int),b,c) s r1 m a e acc (i:Int)=some (⟨0,[]⟩,0,e):=by
 intro k;induction k with
 |zero=>
  intro m i a e acc he hi hm ha;obtain⟨m,rfl⟩:∃j,m=j+1:=⟨m-1,by omega⟩
  obtain rfl:i=u:=by omega
  simp only [sS,zC,auF,aut,auv,DC,I7,he,al,aux,auu]
 |succ k aW=>
  intro m i a e acc he hi hm ha;obtain⟨m,rfl⟩:∃j,m=j+1:=⟨m-1,by omega⟩
  simp only [sS,zC,auB,show i<u by omega,aus,auu,Gu he,Gv he,al,auD]
  rw [iz (by omega),bd,dj (by omega)]
  exact aW m (i+1) a e _ he (by omega) (by omega) (by simp [ha])
theorem aq9{t:auJ}(ax:t <:+ s):I8 n s (aS s t)=some (res ⟨0,[]⟩ s (pV t)):=by
 unfold I8 pV jU e' dM gV;rw [M3 hn aQ hs ax,al];cases h0:gD t with
 |error e=>rw [b7];simp only [dg (hD.cb _ _ h0),auu,b7]
 |ok r=>
  obtain⟨v,t0⟩:=r;have Gw:=eT hD h0 ax;rw [cY];simp only [aus,auw,auv];rw [show(16:Int)=((16:Nat):Int)from rfl,tA Gw (by omega) (by omega) (by omega),al]
  cases h:gt 16 t0 with
  |error e=>
   rw [kO h,b7];exact BO hn aQ hs (u:=0) (by omega) 0 n 0 0 e [] (kp h) rfl (by omega) rfl
  |ok r=>
   obtain⟨u,bp⟩:=r;obtain⟨Z,ad,am⟩:=jD h;have dm:bp <:+ s:=List.IsSuffix.trans ⟨gi u,Z.symm⟩ Gw;have hu:=dm.length_le;rw [kN h,cY]
   have c7:=r_ (L:=λm i t acc=>sS n ((u:Int),aS s bp,0) s (v,aS s t0,0) m (aS s t) 0 acc (i:Int)) (f:=λ_ v=>v) (D:=qV) (u:=u) (s:=s) (fin:=λacc t=>DC n s (v,aS s t0,0) (aS s t) 0 acc) (bad:=λe x=>x=some (⟨0,[]⟩,0,e)) (λx v t hx=>BN.gU hx) (by
    intro m i t acc hm hi ha ax;simp only [sS,zC,auB,hi,aus,auu];rw [M3 hn aQ hs ax,al];unfold qV e' dM;have fP:room (acc.length+1) 56=true:=iz (by omega)
    cases g1:gD t with
    |error e=>
     have he:=hD.cb _ _ g1;rw [b7];simp only [Gu he,Gv he,al,auD,fP,bd];rw [dj (by omega)]
     exact BO hn aQ hs (by omega) (u-(i+1)) m (i+1) _ e _ he (by omega) (by omega) (by simp [ha])
    |ok r=>
     obtain⟨dy,t1⟩:=r;have gu:=eT hD g1 ax;rw [cY];simp only
     rw [ae0 hn aQ hs gu,al];cases g2:dR 24 t1 with
     |error e=>
      have he:=jV.cb _ _ g2;rw [b7];simp only [Gu he,Gv he,al,auD,fP,bd];rw [dj (by omega)]
      exact BO hn aQ hs (by omega) (u-(i+1)) m (i+1) _ e _ he (by omega) (by omega) (by simp [ha])
     |ok r=>
      obtain⟨eo,t2⟩:=r;have gl:=eT jV g2 gu;rw [cY];simp only
      rw [M3 hn aQ hs gl,al];cases g3:gD t2 with
      |error e=>
       have he:=hD.cb _ _ g3;rw [b7];simp only [Gu he,Gv he,al,auD,fP,bd];rw [dj (by omega)]
       exact BO hn aQ hs (by omega) (u-(i+1)) m (i+1) _ e _ he (by omega) (by omega) (by simp [ha])
      |ok r=>
       obtain⟨iw,t3⟩:=r;have mt:=eT hD g3 gl;rw [cY];simp only
       rw [M3 hn aQ hs mt,al];cases g4:gD t3 with
       |error e=>
        have he:=hD.cb _ _ g4;rw [b7];simp only [Gu he,Gv he,al,auD,fP,bd];rw [dj (by omega)]
        exact BO hn aQ hs (by omega) (u-(i+1)) m (i+1) _ e _ he (by omega) (by omega) (by simp [ha])
       |ok r=>
        obtain⟨fB,t4⟩:=r;have nl:=eT hD g4 mt;rw [cY];simp only
        rw [ae0 hn aQ hs nl,al];cases g5:dR 24 t4 with
        |error e=>
         have he:=jV.cb _ _ g5;rw [b7];simp only [auD,fP,bd];rw [dj (by omega)]
         exact BO hn aQ hs (by omega) (u-(i+1)) m (i+1) _ e _ he (by omega) (by omega) (by simp [ha])
        |ok r=>
         obtain⟨kh,t5⟩:=r;rw [cY];simp only [auD,fP,bd];rw [dj (by omega)]) (by
    intro m t acc ha ax;simp only [sS,zC,auF,aut,auv]) u n 0 bp [] (by omega) (by omega) rfl dm
   cases ah:e5 qV u bp with
   |error e=>rw [ah]at c7;simp only [ah]at c7 ⊢;exact c7
   |ok r=>
    obtain⟨l,jW⟩:=r;rw [ah]at c7;simp only [List.nil_append,sa,ah]at c7 ⊢;refine c7.trans ?_;obtain⟨g1,g2,g3⟩:=(BN.rep u).eF _ _ _ ah;simp only [DC,aus,auu];rw [aeL hn aQ (p:=⟨v,l⟩) (by show l.length<n;omega) (M1 (by omega) g3),al]
    cases n7 ⟨v,l⟩<;>rfl
theorem aq'{t:auJ}(ax:t <:+ s):K_ n s (aS s t)=some (res ⟨0,[],0,0,[]⟩ s (qV t)):=by
 unfold K_ qV e' dM;rw [vd ax (by omega) (by omega),al]
 cases g1:gD t with
 |error e=>rw [b7];simp only [dg (hD.cb _ _ g1),auu,b7]
 |ok r=>
  obtain⟨dy,t1⟩:=r;have gu:=eT hD g1 ax;rw [cY];simp only [aus,auw,auv];rw [show(24:Int)=((24:Nat):Int)from rfl,r5 gu (by omega) (by omega) (by omega),al]
  cases g2:dR 24 t1 with
  |error e=>rw [b7];simp only [dg (jV.cb _ _ g2),auu,b7]
  |ok r=>
   obtain⟨eo,t2⟩:=r;have gl:=eT jV g2 gu;rw [cY];simp only [aus,auw,auv];rw [vd gl (by omega) (by omega),al]
   cases g3:gD t2 with
   |error e=>rw [b7];simp only [dg (hD.cb _ _ g3),auu,b7]
   |ok r=>
    obtain⟨iw,t3⟩:=r;have mt:=eT hD g3 gl;rw [cY];simp only [aus,auw,auv];rw [vd mt (by omega) (by omega),al]
    cases g4:gD t3 with
    |error e=>rw [b7];simp only [dg (hD.cb _ _ g4),auu,b7]
    |ok r=>
     obtain⟨fB,t4⟩:=r;have nl:=eT hD g4 mt;rw [cY];simp only [aus,auw,auv];rw [r5 nl (by omega) (by omega) (by omega),al]
     cases g5:dR 24 t4 with
     |error e=>rw [b7];simp only [dg (jV.cb _ _ g5),auu,b7]
     |ok r=>
      obtain⟨kh,t5⟩:=r;rw [cY];simp only [aus,auw,auv,cY]
theorem ae1{t:auJ}(ax:t <:+ s):Lc n s (aS s t)=some (res ⟨0,[]⟩ s (pV t)):=by
 unfold Lc pV jU e' dM gV;rw [vd ax (by omega) (by omega),al]
 cases h0:gD t with
 |error e=>rw [b7];simp only [dg (hD.cb _ _ h0),auu,b7]
 |ok r=>
  obtain⟨v,t0⟩:=r;have Gw:=eT hD h0 ax;rw [cY];simp only [aus,auw,auv];rw [show(16:Int)=((16:Nat):Int)from rfl,r4 Gw (by omega) (by omega) (by omega),al]
  cases h:gt 16 t0 with
  |error e=>rw [kO h,b7];simp only [dg (kp h),auu,b7]
  |ok r=>
   obtain⟨u,bp⟩:=r;obtain⟨Z,ad,am⟩:=jD h;have dm:bp <:+ s:=List.IsSuffix.trans ⟨gi u,Z.symm⟩ Gw;have hu:=dm.length_le;rw [kN h,cY];simp only [aus,auw,auv];rw [show xk n s ((u:Int),aS s bp,0) (v,aS s t0,0) n [] (aS s bp) 0=_ from tB (L:=λm i t acc=>xk n s ((u:Int),aS s bp,0) (v,aS s t0,0) m acc (aS s t) (i:Int)) (D:=qV) (u:=u) (s:=s) (fin:=λacc t=>La n (v,aS s t0,0) acc (aS s t)) (bad:=λe=>some (⟨0,[]⟩,0,e)) (λx v t hx=>BN.gU hx) ?_ ?_ (by omega) dm]
   ·cases ah:e5 qV u bp with
    |error e=>rfl
    |ok r=>
     obtain⟨l,jW⟩:=r;obtain⟨g1,g2,g3⟩:=(BN.rep u).eF _ _ _ ah;simp only [La];rw [aeO hn aQ (p:=⟨v,l⟩) (by show l.length<n;omega) (M1 (by omega) g3),al]
     cases n7 ⟨v,l⟩<;>rfl
   ·intro m i t acc hi ha ax;simp only [xk,Lb,auB,hi,aus,auu];rw [aq' hn aQ hs ax,al];cases aR:qV t with
    |error e=>rw [b7];simp only [dg (BN.cb _ _ aR),auu]
    |ok r=>
     obtain⟨x,t1⟩:=r;rw [cY];simp only [aus,auw,auv,auD];rw [iz (by omega),bd,dj (by omega)]
   ·intro m t acc ha ax;simp only [xk,Lb,auF,aut,auv]
end
def pW:eJ Outcome:=e' (λp=>⟨p.1,p.2.1,p.2.2⟩) (dM (jm 0 9999) λ_=>dM (jm 0 9999) λ_=>gV 16 iY)
def V6(o:Outcome):auJ:=l5 o.Status++(l5 o.Code++jl cf o.Out)
def M4(o:Outcome):Prop:=(0≤o.Status∧o.Status≤9999)∧(0≤o.Code∧o.Code≤9999)∧o.Out.length≤16∧∀v∈o.Out,vc v
def n99:eh (jm 0 9999) l5 (λz=>0≤z∧z≤9999):=Ge (by omega) (by omega)
def n32:eh (jm 1 32) l5 (λz=>1≤z∧z≤32):=Ge (by omega) (by omega)
def n40:eh (jm 1 1099511627776) l5 (λz=>1≤z∧z≤1099511627776):=Ge (by omega) (by omega)
def Gx(k:Nat)(hk:k<18446744073709551616):eh (gV k iY) (jl cf) (λl=>l.length≤k∧∀v∈l,vc v):=n6.vb _ hk (λv _=>aqt v)
def Gy:eh pW V6 M4:=
 (n99.dep λ_ _=>n99.dep λ_ _=>Gx 16 (by omega)).map (λp=>(⟨p.1,p.2.1,p.2.2⟩:Outcome)) (λo:Outcome=>(o.Status,o.Code,o.Out)) M4 V6
  (λb h=>⟨rfl,⟨h.1,h.2.1,h.2.2⟩,rfl⟩) (λa h=>⟨rfl,⟨h.1,h.2.1,h.2.2⟩⟩)
def x9(c nx k:Int)(l:List Outcome):List d':=(l.zipIdx 0).map λp=>⟨c,auL (nx-auL (k-(p.2:Int))),p.1⟩
def M5(c nx k:Int)(l:List Outcome):(x9 c nx k l).map (·.Outcome)=l:=by
 unfold x9;rw [List.map_map];exact sa l 0
def V7{nx:Int}(h:1≤nx∧nx≤1099511627776):0≤l6 nx∧l6 nx≤8∧l6 nx≤nx-1:=by
 unfold l6;rw [wr (x:=nx-1) (by omega) (by omega)]
 by_cases eD:nx-1<8
 ·rw [decide_eq_true eD,auu];omega
 ·rw [decide_eq_false eD,auv];omega
def oX:eJ bG:=e' (λp=>⟨p.1,p.2.1,x9 p.1 p.2.1 (l6 p.2.1) p.2.2⟩) (dM (jm 1 32) λ_=>dM (jm 1 1099511627776) λnx=>e5 pW (l6 nx).toNat)
def BP(s:bG):auJ:=l5 s.Client++(l5 s.Next++tw V6 (s.dn.map (·.Outcome)))
def x'(s:bG):Prop:=(1≤s.Client∧s.Client≤32)∧(1≤s.Next∧s.Next≤1099511627776)∧s.dn=x9 s.Client s.Next (l6 s.Next) (s.dn.map (·.Outcome))∧(s.dn.map (·.Outcome)).length=(l6 s.Next).toNat∧∀o∈s.dn.map (·.Outcome),M4 o
def x_:eh oX BP x':=
 (n32.dep λ_ _=>n40.dep λnx _=>Gy.rep (l6 nx).toNat).map (λp=>(⟨p.1,p.2.1,x9 p.1 p.2.1 (l6 p.2.1) p.2.2⟩:bG)) (λs:bG=>(s.Client,s.Next,s.dn.map (·.Outcome))) x' BP
  (λb h=>⟨by simp only;rw [←h.2.2.1],⟨h.1,h.2.1,h.2.2.2.1,h.2.2.2.2⟩,rfl⟩) (λa h=>⟨by simp only [M5],⟨h.1,h.2.1,by simp only [M5],by simp only [M5];exact h.2.2.1,by simp only [M5];exact h.2.2.2⟩⟩)
def pX:eJ (List bG):=jU n8 5 (gV 32 oX)
def aq_:eh (gV 32 oX) (jl BP) (λl=>l.length≤32∧∀v∈l,x' v):=x_.vb _ (by omega) (λv _=>by unfold BP l5;simp [r0])
def ya:eh pX (jl BP) (λl=>(l.length≤32∧∀v∈l,x' v)∧n8 l=true):=aq_.chk _ _ (by omega)
def ae2{n:Nat}(hn:2000≤n){o:Outcome}(h:M4 o):x4 n o:=
 ⟨by have:=h.2.2.1;omega,λi=>oW (P:=λv:bn=>v.S.length<n) (λx hx=>by have:=V4 (h.2.2.2 x hx);omega) (by show 0<n;omega) i⟩
def ara{n:Nat}(hn:2000≤n){s:bG}(h:x' s):qU n s:=by
 have hk:=V7 h.2.1;have ae:s.dn.length=(l6 s.Next).toNat:=by have:=h.2.2.2.1;simpa using this
 refine⟨by omega,λi=>oW (P:=λr:d'=>x4 n r.Outcome) (λx hx=>ae2 hn (h.2.2.2.2 _ (List.mem_map_of_mem hx))) ?_ i⟩
 refine ae2 hn ?_;refine⟨by show(0:Int)≤0∧(0:Int)≤9999;omega,by show(0:Int)≤0∧(0:Int)≤9999;omega,by show([]:List bn).length≤16;simp,λv ao=>by cases ao⟩
def BQ{n:Nat}(hn:2000≤n){l:List bG}(h:∀s∈l,x' s)(i:Nat):qU n (l.getD i default):=by
 refine oW (P:=qU n) (λx hx=>ara hn (h x hx)) ⟨by show([]:List d').length<n;simp;omega,λi=>⟨?_,λi=>?_⟩⟩ i
 ·show((([]:List d').getD i default).Outcome).Out.length<n
  show([]:List bn).length<n
  simp;omega
 ·show((((([]:List d').getD _ default).Outcome).Out).getD i default).S.length<n
  show 0<n
  omega
section
variable {n:Nat} (hn:2000≤n) (aQ:n≤9223372036854775808) {s:auJ} (hs:s.length<min n 1000000000)
theorem ae3{lo hi a e:Int}(he:e≠0):sW n lo hi ⟨s,a,e⟩=some (0,a,e):=by
 unfold sW;simp only [dg he,auu]
include hn aQ hs
theorem M6{lo hi:Int}(h0:0≤lo)(Z:hi≤9223372036854775807){t:auJ}(ax:t <:+ s):sW n lo hi ⟨s,aS s t,0⟩=some (match jm lo hi t with|.ok (v,bp)=>(v,aS s bp,0)|.error e=>(0,aS s t,e)):=by
 unfold sW jm jU;simp only [aus,auw,auv];rw [BI ax (by omega) (by omega),al]
 cases h:gI t with
 |error e=>
  have he:¬ e=0:=ix.cb _ _ h;rw [b7];simp only [he,aut,auv,zK,aux,auu]
 |ok r=>
  obtain⟨u,bp⟩:=r;have hu:=(ix.eF _ _ _ h).2;unfold iX at hu;rw [cY];simp only [aus,auu];by_cases hb:lo≤u∧u≤hi
  ·simp only [show¬ u<lo by omega,show¬ hi<u by omega,hb.1,hb.2,aus,aut,auv,Bool.and_self,auH,zK,auw,wr (x:=u) (by omega) (by omega)]
  ·have:(bif (decide (u<lo))then true else(decide (hi<u)))=true:=by
    rw [dL,←Bool.decide_or];exact decide_eq_true (by omega)
   have ad:(decide (lo≤u)&&decide (u≤hi))=false:=by
    rw [←Bool.decide_and];exact decide_eq_false hb
   simp only [this,auu,ad,Bool.false_eq_true,auI,zK,show¬ (5:Int)=0 by omega,aut,aux]
theorem arb{t:auJ}(ax:t <:+ s):match pW t with|.ok (o,bp)=>DE n ⟨s,aS s t,0⟩=some (o,aS s bp,0)|.error e=>kq e (DE n ⟨s,aS s t,0⟩):=by
 unfold DE pW e' dM;rw [M6 hn aQ hs (by omega) (by omega) ax,al]
 cases g1:jm 0 9999 t with
 |error e=>
  have he:=n99.cb _ _ g1;simp only [ae3 he,al];rw [show(!decide (e=0))=true from dg he]
  exact⟨_,_,rfl⟩
 |ok r=>
  obtain⟨dy,t1⟩:=r;have gu:=eT n99 g1 ax;simp only
  rw [M6 hn aQ hs (by omega) (by omega) gu,al]
  cases g2:jm 0 9999 t1 with
  |error e=>
   have he:=n99.cb _ _ g2;simp only
   rw [show(!decide (e=0))=true from dg he]
   exact⟨_,_,rfl⟩
  |ok r=>
   obtain⟨eo,t2⟩:=r;have gl:=eT n99 g2 gu;simp only [aus,auw,auv];rw [show(16:Int)=((16:Nat):Int)from rfl,tA gl (by omega) (by omega) (by omega),al]
   unfold gV;obtain⟨lD,rfl⟩:∃k,n=k+1:=⟨n-1,by omega⟩
   cases h:gt 16 t2 with
   |error e=>
    have he:=kp h;rw [kO h,b7];simp only [ux,zL,auF,aut,auv,DD];exact⟨_,_,rfl⟩
   |ok r=>
    obtain⟨u,bp⟩:=r;obtain⟨Z,ad,am⟩:=jD h;have dm:bp <:+ s:=List.IsSuffix.trans ⟨gi u,Z.symm⟩ gl;have hu:=dm.length_le;rw [kN h,cY];generalize aS s t=A
    have c7:=r_ (L:=λm i t acc=>ux (lD+1) ((u:Int),aS s bp,0) ⟨s,A,0⟩ (dy,aS s t1,0) (eo,aS s t2,0) m (aS s t) 0 acc (i:Int)) (f:=λ_ v=>v) (D:=iY) (u:=u) (s:=s) (fin:=λacc t=>some (⟨dy,eo,acc⟩,aS s t,0)) (bad:=λe x=>kq e x) (λx v t hx=>n6.gU hx) (by
     intro m i t acc hm hi ha ax;simp only [ux,zL,auB,hi,aus,auu];rw [VX ax (by omega) (by omega),al]
     have fP:room (acc.length+1) 32=true:=iz (by omega)
     cases g3:iY t with
     |error e=>
      have he:¬ e=0:=n6.cb _ _ g3;rw [b7];simp only [auD,fP,bd];obtain⟨m,rfl⟩:∃j,m=j+1:=⟨m-1,by omega⟩
      simp only [ux,zL,he,aut,ee,Bool.and_false,auv,DD];exact⟨_,_,rfl⟩
     |ok r=>
      obtain⟨v,t3⟩:=r;rw [cY];simp only [auD,fP,bd];rw [dj (by omega)]) (by
     intro m t acc ha ax;simp only [ux,zL,auF,aut,auv,DD]) u (lD+1) 0 bp [] (by omega) (by omega) rfl dm
    cases ah:e5 iY u bp with
    |error e=>rw [ah]at c7;simp only [ah]at c7 ⊢;exact c7
    |ok r=>
     obtain⟨l,jW⟩:=r;rw [ah]at c7;simp only [List.nil_append,sa,ah]at c7 ⊢;exact c7
theorem arc{t:auJ}(ax:t <:+ s):match oX t with|.ok (o,bp)=>DG n ⟨s,aS s t,0⟩=some (o,aS s bp,0)|.error e=>kq e (DG n ⟨s,aS s t,0⟩):=by
 unfold DG oX e' dM;rw [M6 hn aQ hs (by omega) (by omega) ax,al]
 cases g1:jm 1 32 t with
 |error e=>
  have he:=n32.cb _ _ g1;simp only [ae3 he,al];rw [show(!decide (e=0))=true from dg he]
  exact⟨_,_,rfl⟩
 |ok r=>
  obtain⟨dy,t1⟩:=r;have gu:=eT n32 g1 ax;simp only
  rw [M6 hn aQ hs (by omega) (by omega) gu,al]
  cases g2:jm 1 1099511627776 t1 with
  |error e=>
   have he:=n40.cb _ _ g2;simp only
   rw [show(!decide (e=0))=true from dg he]
   exact⟨_,_,rfl⟩
  |ok r=>
   obtain⟨eo,t2⟩:=r;have gl:=eT n40 g2 gu;have mA:=(n40.eF _ _ _ g2).2;have hk:=V7 mA;simp only [aus,auw,auv];rw [show Ds n eo=some (l6 eo)from rfl,al]
   obtain⟨u,hu⟩:=Int.eq_ofNat_of_zero_le hk.1
   (rw [hu];simp only [auA])
   generalize aS s t=A
   have c7:=r_ (L:=λm i t acc=>wS n (u:Int) ⟨s,A,0⟩ (dy,aS s t1,0) (eo,aS s t2,0) m (aS s t) 0 acc (i:Int)) (f:=λi v=>(⟨dy,auL (eo-auL ((u:Int)-(i:Int))),v⟩:d')) (D:=pW) (u:=u) (s:=s) (fin:=λacc t=>some (⟨dy,eo,acc⟩,aS s t,0)) (bad:=λe x=>kq e x) (λx v t hx=>Gy.gU hx) (by
    intro m i t acc hm hi ha ax;have aq:=arb hn aQ hs ax;simp only [wS,DF,auB,hi,aus,auu];have fP:room (acc.length+1) 56=true:=iz (by omega)
    cases g3:pW t with
    |error e=>
     have he:¬ e=0:=Gy.cb _ _ g3;rw [g3]at aq;obtain⟨v,a,aq⟩:=aq;rw [aq,al];simp only [auD,fP,bd];obtain⟨m,rfl⟩:∃j,m=j+1:=⟨m-1,by omega⟩
     simp only [wS,DF,he,aut,ee,Bool.and_false,auv,Jc];exact⟨_,_,rfl⟩
    |ok r=>
     obtain⟨v,t3⟩:=r;rw [g3]at aq;simp only at aq ⊢
     rw [aq,al];simp only [auD,fP,bd];rw [dj (by omega)]) (by
    intro m t acc ha ax;simp only [wS,DF,auF,aut,auv,Jc]) u n 0 t2 [] (by omega) (by omega) rfl gl
   cases ah:e5 pW u t2 with
   |error e=>rw [ah]at c7;simp only [ah]at c7 ⊢;exact c7
   |ok r=>
    obtain⟨l,jW⟩:=r;rw [ah]at c7;simp only [List.nil_append,ah]at c7 ⊢;simp only [x9,hu];exact c7
theorem ard{t:auJ}(ax:t <:+ s):Jd n s (aS s t)=some (res [] s (pX t)):=by
 unfold Jd pX jU gV;rw [show(32:Int)=((32:Nat):Int)from rfl,tA ax (by omega) (by omega) (by omega),al]
 cases h:gt 32 t with
 |error e=>rw [kO h,b7];simp only [dg (kp h),auu,b7]
 |ok r=>
  obtain⟨u,bp⟩:=r;obtain⟨Z,ad,am⟩:=jD h;have dm:bp <:+ s:=List.IsSuffix.trans ⟨gi u,Z.symm⟩ ax;have hu:=dm.length_le;rw [kN h,cY];simp only [aus,auw,auv]
  have c7:=r_ (L:=λm i t acc=>wT n ((u:Int),aS s bp,0) s m (aS s t) 0 acc (i:Int)) (f:=λ_ v=>v) (D:=oX) (u:=u) (s:=s) (fin:=λacc t=>DH n s (aS s t) 0 acc) (bad:=λe x=>x=some ([],0,e)) (λx v t hx=>x_.gU hx) (by
   intro m i t acc hm hi ha ax;have aq:=arc hn aQ hs ax;simp only [wT,DI,auB,hi,aus,auu];have fP:room (acc.length+1) 40=true:=iz (by omega)
   cases g3:oX t with
   |error e=>
    have he:¬ e=0:=x_.cb _ _ g3;rw [g3]at aq;obtain⟨v,a,aq⟩:=aq;rw [aq,al];simp only [auD,fP,bd];obtain⟨m,rfl⟩:∃j,m=j+1:=⟨m-1,by omega⟩
    simp only [wT,DI,he,aut,ee,Bool.and_false,auv,DH,aux,auu]
   |ok r=>
    obtain⟨v,t3⟩:=r;rw [g3]at aq;simp only at aq ⊢
    rw [aq,al];simp only [auD,fP,bd];rw [dj (by omega)]) (by
   intro m t acc ha ax;simp only [wT,DI,auF,aut,auv]) u n 0 bp [] (by omega) (by omega) rfl dm
  cases ah:e5 oX u bp with
  |error e=>rw [ah]at c7;simp only [ah]at c7 ⊢;exact c7
  |ok r=>
   obtain⟨l,jW⟩:=r;rw [ah]at c7;simp only [List.nil_append,sa,ah]at c7 ⊢;refine c7.trans ?_;obtain⟨g1,g2,g3⟩:=(x_.rep u).eF _ _ _ ah;simp only [DH,aus,auw,auv];rw [aeR hn aQ (by omega) (BQ hn g3),al]
   cases n8 l<;>rfl
theorem M7{hi:Int}(Z:hi≤9223372036854775807){t:auJ}(ax:t <:+ s):xm n s (aS s t) hi=some (res 0 s (jm 0 hi t)):=by
 unfold xm jm jU;rw [tz ax (by omega) (by omega),al]
 cases h:gI t with
 |error e=>rw [b7];simp only [dg (ix.cb _ _ h),auu,b7]
 |ok r=>
  obtain⟨u,bp⟩:=r;have hu:=(ix.eF _ _ _ h).2;unfold iX at hu;rw [cY];simp only [aus,auw,auv,hu.1,Bool.true_and];by_cases hb:u≤hi
  ·simp only [show¬ hi<u by omega,hb,aus,aut,auv,auH,wr (x:=u) (by omega) (by omega),cY]
  ·simp only [show hi<u by omega,hb,aus,aut,auu];rfl
theorem are{t:auJ}(ax:t <:+ s):Li n s (aS s t)=some (res ⟨0,0,[]⟩ s (pW t)):=by
 unfold Li pW e' dM;rw [M7 hn aQ hs (by omega) ax,al]
 cases g1:jm 0 9999 t with
 |error e=>rw [b7];simp only [dg (n99.cb _ _ g1),auu,b7]
 |ok r=>
  obtain⟨dy,t1⟩:=r;have gu:=eT n99 g1 ax;rw [cY];simp only [aus,auw,auv];rw [M7 hn aQ hs (by omega) gu,al]
  cases g2:jm 0 9999 t1 with
  |error e=>rw [b7];simp only [dg (n99.cb _ _ g2),auu,b7]
  |ok r=>
   obtain⟨eo,t2⟩:=r;have gl:=eT n99 g2 gu;rw [cY];simp only [aus,auw,auv];rw [show(16:Int)=((16:Nat):Int)from rfl,r4 gl (by omega) (by omega) (by omega),al]
   unfold gV;cases h:gt 16 t2 with
   |error e=>rw [kO h,b7];simp only [dg (kp h),auu,b7]
   |ok r=>
    obtain⟨u,bp⟩:=r;obtain⟨Z,ad,am⟩:=jD h;have dm:bp <:+ s:=List.IsSuffix.trans ⟨gi u,Z.symm⟩ gl;have hu:=dm.length_le;rw [kN h,cY];simp only [aus,auw,auv];rw [show xn n s ((u:Int),aS s bp,0) (dy,aS s t1,0) (eo,aS s t2,0) n [] (aS s bp) 0=_ from tB (L:=λm i t acc=>xn n s ((u:Int),aS s bp,0) (dy,aS s t1,0) (eo,aS s t2,0) m acc (aS s t) (i:Int)) (D:=iY) (u:=u) (s:=s) (fin:=λacc t=>some (⟨dy,eo,acc⟩,aS s t,0)) (bad:=λe=>some (⟨0,0,[]⟩,0,e)) (λx v t hx=>n6.gU hx) ?_ ?_ (by omega) dm]
    ·cases ah:e5 iY u bp with
     |error e=>rfl
     |ok r=>rfl
    ·intro m i t acc hi ha ax;simp only [xn,Lh,auB,hi,aus,auu];rw [VY ax (by omega) (by omega),al]
     cases aR:iY t with
     |error e=>rw [b7];simp only [dg (n6.cb _ _ aR),auu]
     |ok r=>
      obtain⟨x,t1⟩:=r;rw [cY];simp only [aus,auw,auv,auD];rw [iz (by omega),bd,dj (by omega)]
    ·intro m t acc ha ax;simp only [xn,Lh,auF,aut,auv,Tw]
omit hn aQ hs in
theorem ae4{lo hi:Int}(h0:0≤lo)(t:auJ):jm lo hi t=match jm 0 hi t with|.ok (v,bp)=>if v<lo then .error 5 else .ok (v,bp)|.error e=>.error e:=by
 unfold jm jU;cases h:gI t with
 |error e=>rfl
 |ok r=>
  obtain⟨u,bp⟩:=r;have hu:=(ix.eF _ _ _ h).2;unfold iX at hu;simp only [hu.1,aus,Bool.true_and];by_cases Z:u≤hi
  ·by_cases ad:lo≤u
   ·simp only [Z,ad,aus,Bool.and_self,auH,show¬ u<lo by omega,auI]
   ·simp [Z,ad,show u<lo by omega]
  ·simp [Z]
theorem arf{t:auJ}(ax:t <:+ s):Lk n s (aS s t)=some (res ⟨0,0,[]⟩ s (oX t)):=by
 unfold Lk oX e' dM;rw [M7 hn aQ hs (by omega) ax,al,ae4 (lo:=1) (hi:=32) (by omega)]
 have lD:eh (jm 0 32) l5 (λz=>0≤z∧z≤32):=Ge (by omega) (by omega)
 have V8:eh (jm 0 1099511627776) l5 (λz=>0≤z∧z≤1099511627776):=Ge (by omega) (by omega)
 cases g1:jm 0 32 t with
 |error e=>
  have he:¬ e=0:=lD.cb _ _ g1;rw [b7];simp only [he,aut,auv,AU,aux,auu,b7]
 |ok r=>
  obtain⟨dy,t1⟩:=r;have gu:=eT lD g1 ax;rw [cY];simp only [aus,auu];by_cases hx:dy<1
  ·simp only [hx,aus,auu,auH,AU,show¬ (5:Int)=0 by omega,aut,aux,b7]
  ·simp only [hx,aut,auv,auI,AU,aus,auw];rw [M7 hn aQ hs (by omega) gu,al,ae4 (lo:=1) (hi:=1099511627776) (by omega)]
   cases g2:jm 0 1099511627776 t1 with
   |error e=>
    have he:¬ e=0:=V8.cb _ _ g2;rw [b7];simp only [he,aut,auv,AT,aux,auu,b7]
   |ok r=>
    obtain⟨eo,t2⟩:=r;have gl:=eT V8 g2 gu;have mA:=(V8.eF _ _ _ g2).2;rw [cY];simp only [aus,auu];by_cases hx:eo<1
    ·simp only [hx,aus,auu,auH,AT,show¬ (5:Int)=0 by omega,aut,aux,b7]
    ·simp only [hx,aut,auv,auI,AT,aus,auw];have hk:=V7 (nx:=eo) (by omega)
     rw [show Ej n eo=some (l6 eo)from rfl,al]
     obtain⟨u,hu⟩:=Int.eq_ofNat_of_zero_le hk.1
     (rw [hu];simp only [auA])
     have c7:=aeA (L:=λm i t acc=>AS n s (eo,aS s t2,0) (u:Int) (dy,aS s t1,0) m acc (aS s t) (i:Int)) (f:=λi v=>(⟨dy,auL (eo-auL ((u:Int)-(i:Int))),v⟩:d')) (D:=pW) (u:=u) (s:=s) (fin:=λacc t=>some (⟨dy,eo,acc⟩,aS s t,0)) (bad:=λe=>some (⟨0,0,[]⟩,0,e)) (λx v t hx=>Gy.gU hx) (by
      intro m i t acc hi ha ax;simp only [AS,Lj,auB,hi,aus,auu];rw [are hn aQ hs ax,al];cases aR:pW t with
      |error e=>rw [b7];simp only [dg (Gy.cb _ _ aR),auu]
      |ok r=>
       obtain⟨x,t1⟩:=r;rw [cY];simp only [aus,auw,auv,auD];rw [iz (by omega),bd,dj (by omega)]) (by
      intro m t acc ha ax;simp only [AS,Lj,auF,aut,auv,Tx]) u n 0 t2 [] (by omega) (by omega) rfl gl
     refine Eq.trans c7 ?_;cases ah:e5 pW u t2 with
     |error e=>simp only [ah,b7]
     |ok r=>
      obtain⟨l,jW⟩:=r;simp only [ah,List.nil_append,cY,x9,hu]
theorem ae5{t:auJ}(ax:t <:+ s):Ln n s (aS s t)=some (res [] s (pX t)):=by
 unfold Ln pX jU gV;rw [show(32:Int)=((32:Nat):Int)from rfl,r4 ax (by omega) (by omega) (by omega),al]
 cases h:gt 32 t with
 |error e=>rw [kO h,b7];simp only [dg (kp h),auu,b7]
 |ok r=>
  obtain⟨u,bp⟩:=r;obtain⟨Z,ad,am⟩:=jD h;have dm:bp <:+ s:=List.IsSuffix.trans ⟨gi u,Z.symm⟩ ax;have hu:=dm.length_le;rw [kN h,cY];simp only [aus,auw,auv];rw [show xo n s ((u:Int),aS s bp,0) n (aS s bp) 0 []=_ from tB (L:=λm i t acc=>xo n s ((u:Int),aS s bp,0) m (aS s t) (i:Int) acc) (D:=oX) (u:=u) (s:=s) (fin:=λacc t=>Ll n (aS s t) acc) (bad:=λe=>some ([],0,e)) (λx v t hx=>x_.gU hx) ?_ ?_ (by omega) dm]
  ·cases ah:e5 oX u bp with
   |error e=>rfl
   |ok r=>
    obtain⟨l,jW⟩:=r;obtain⟨g1,g2,g3⟩:=(x_.rep u).eF _ _ _ ah;simp only [Ll];rw [aeS hn aQ (by omega) (BQ hn g3),al]
    cases n8 l<;>rfl
  ·intro m i t acc hi ha ax;simp only [xo,Lm,auB,hi,aus,auu];rw [arf hn aQ hs ax,al];cases aR:oX t with
   |error e=>rw [b7];simp only [dg (x_.cb _ _ aR),auu]
   |ok r=>
    obtain⟨x,t1⟩:=r;rw [cY];simp only [aus,auw,auv,auD];rw [iz (by omega),bd,dj (by omega)]
  ·intro m t acc ha ax;simp only [xo,Lm,auF,aut,auv]
end
abbrev kr:=List auJ
def qW:eJ kr:=gV 64 (dR 24)
def ae6(s:auJ):hC s≠[]:=by unfold hC;simp [r0]
def pY:eh qW (jl hC) (λl=>l.length≤64∧∀v∈l,v.length≤24):=jV.vb _ (by omega) (λv _=>ae6 v)
def M8(b:Bool):eJ (kr×kr):=if b then dM qW λ_=>qW else VT ([],[])
def ae7(b:Bool)(p:kr×kr):auJ:=if b then jl hC p.1++jl hC p.2 else[]
def V9(b:Bool)(p:kr×kr):Prop:=if b then(p.1.length≤64∧∀v∈p.1,v.length≤24)∧(p.2.length≤64∧∀v∈p.2,v.length≤24)else p=([],[])
def arh:∀b,eh (M8 b) (ae7 b) (V9 b)
 |true=>pY.dep λ_ _=>pY
 |false=>aer ([],[])
abbrev ae8:=Int×Int×auJ×List bn×Bool×(kr×kr)
def M9:eJ ae8:=dM gI λ_=>dM gI λ_=>dM (dR 16) λ_=>dM (gV 6 iY) λ_=>dM pP λb=>M8 b
def jn(p:ae8):Request:=⟨p.1,p.2.1,p.2.2.1,p.2.2.2.1,p.2.2.2.2.1,⟨false,p.2.2.2.2.2.1,p.2.2.2.2.2.2⟩⟩
def sb(r:Request):Prop:=iX r.Client∧iX r.Seq∧r.be.length≤16∧(r.an.length≤6∧∀v∈r.an,vc v)∧V9 r.f_ (r.bP.Reads,r.bP.dz)∧r.bP.eN=false
def BR(r:Request):auJ:=l5 r.Client++(l5 r.Seq++(hC r.be++(jl cf r.an++(VS r.f_++ae7 r.f_ (r.bP.Reads,r.bP.dz)))))
def yb:eh (dR 16) hC (λs=>s.length≤16):=tx 16 (by omega)
def ari:eh (e' jn M9) BR sb:=
 (ix.dep λ_ _=>ix.dep λ_ _=>yb.dep λ_ _=>(Gx 6 (by omega)).dep λ_ _=>Gd.dep λb _=>arh b).map jn (λr=>(r.Client,r.Seq,r.be,r.an,r.f_,(r.bP.Reads,r.bP.dz))) sb BR
  (λr h=>⟨by obtain⟨a,b,c,d,e,f,g,i⟩:=r;have:f=false:=h.2.2.2.2.2;subst this;rfl,⟨h.1,h.2.1,h.2.2.1,h.2.2.2.1,trivial,h.2.2.2.2.1⟩,rfl⟩) (λa h=>⟨rfl,⟨h.1,h.2.1,h.2.2.1,h.2.2.2.1,h.2.2.2.2.2,rfl⟩⟩)
def vm(r:Request):Bool:=(decide (r.Client≤32)&&decide (r.Seq≤1099511627776))&&decide (pS r=0)
def pZ:eJ Request:=jU vm 5 (e' jn M9)
def Gz:eh pZ BR (λr=>sb r∧vm r=true):=ari.chk _ _ (by omega)
def mR:eJ (List Request):=gV 64 pZ
def yc:eh mR (jl BR) (λl=>l.length≤64∧∀v∈l,sb v∧vm v=true):=Gz.vb _ (by omega) (λv _=>by unfold BR l5;simp [r0])
def qX:eJ (List bh):=gV 32 (e' (λp=>⟨p.1,p.2⟩) (dM (dR 24) λ_=>gD))
def GA(h:bh):auJ:=hC h.Key++qS h.Count
def M_:eh (e' (λp=>(⟨p.1,p.2⟩:bh)) (dM (dR 24) λ_=>gD)) GA (λh=>h.Key.length≤24∧gr h.Count):=
 (jV.dep λ_ _=>hD).map (λp=>(⟨p.1,p.2⟩:bh)) (λh:bh=>(h.Key,h.Count)) _ GA (λb h=>⟨rfl,⟨h.1,h.2⟩,rfl⟩) (λa h=>⟨rfl,⟨h.1,h.2⟩⟩)
def Na:eh qX (jl GA) (λl=>l.length≤32∧∀h∈l,h.Key.length≤24∧gr h.Count):=M_.vb _ (by omega) (λv _=>by unfold GA hC;simp [r0])
def BS:eh (dR 16384) hC (λs=>s.length≤16384):=tx 16384 (by omega)
def yd:eJ kr:=gV 16 (dR 16384)
def Nb:eh yd (jl hC) (λl=>l.length≤16∧∀s∈l,s.length≤16384):=BS.vb _ (by omega) (λv _=>ae6 v)
def BT{n:Nat}(hn:2000≤n){r:Request}(h:sb r):pT n r:=by
 have bv:=h.2.2.2.2.1
 have hk:(r.bP.Reads.length≤64∧∀v∈r.bP.Reads,v.length≤24)∧(r.bP.dz.length≤64∧∀v∈r.bP.dz,v.length≤24):=by
  unfold V9 at bv;cases hd:r.f_
  ·rw [hd]at bv;simp only [Bool.false_eq_true,auI,Prod.mk.injEq]at bv;rw [bv.1,bv.2];simp
  ·rw [hd]at bv;exact bv
 have hd:∀l:kr,(∀v∈l,v.length≤24)→∀i,(l.getD i default).length<n:=λl ae i=>oW (P:=λv:auJ=>v.length<n) (λx hx=>by have:=ae x hx;omega) (by show 0<n;omega) i
 exact⟨by have:=h.2.2.1;omega,by have:=h.2.2.2.1.1;omega,λi=>oW (P:=λv:bn=>v.S.length<n) (λx hx=>by have:=V4 (h.2.2.2.1.2 x hx);omega) (by show 0<n;omega) i,by have:=hk.1.1;omega,by have:=hk.2.1;omega,by have:=hk.1.1;omega,by have:=hk.2.1;omega,hd _ hk.1.2,hd _ hk.2.2⟩
abbrev ye:Request:=⟨0,0,[],[],false,⟨false,[],[]⟩⟩
section
variable {n:Nat} (hn:2000≤n) (aQ:n≤9223372036854775808) {s:auJ} (hs:s.length<min n 1000000000)
theorem V'{a e:Int}(he:e≠0):wQ n ⟨s,a,e⟩=some (0,a,e):=by unfold wQ;simp only [dg he,auu]
theorem Nc{k a e:Int}(he:e≠0):wO n k ⟨s,a,e⟩=some (0,a,e):=by unfold wO;simp only [dg he,auu]
theorem arj{a e:Int}(he:e≠0):zE n ⟨s,a,e⟩=some (false,a,e):=by unfold zE;simp only [dg he,auu]
theorem Nd{k a e:Int}(he:e≠0):wP n k ⟨s,a,e⟩=some ([],a,e):=by unfold wP;simp only [dg he,auu]
theorem ark{a e:Int}(he:e≠0):zG n ⟨s,a,e⟩=some (⟨0,0,[]⟩,a,e):=by unfold zG;simp only [dg he,auu]
include hn aQ hs
theorem ae9{t:auJ}(ax:t <:+ s):wQ n ⟨s,aS s t,0⟩=some (res 0 s (gI t)):=by
 unfold wQ qv;simp only [aus,auw,auv];rw [BI ax (by omega) (by omega),al,al]
theorem ae'{k:Nat}(hk:k≤1000){t:auJ}(ax:t <:+ s):wO n (k:Int) ⟨s,aS s t,0⟩=some (res 0 s (pQ k t)):=by
 unfold wO qv;simp only [aus,auw,auv];rw [tA ax (by omega) (by omega) (by omega),al,al]
theorem arl{t:auJ}(ax:t <:+ s):zE n ⟨s,aS s t,0⟩=some (res false s (pP t)):=by
 unfold zE qv;simp only [aus,auw,auv];rw [aqG ax (by omega),al,al]
theorem ae_{k:Nat}(hk:k≤1000){t:auJ}(ax:t <:+ s):wP n (k:Int) ⟨s,aS s t,0⟩=some (res [] s (dR k t)):=by
 unfold wP qv;simp only [aus,auw,auv];rw [BJ ax (by omega) (by omega) (by omega),al,al]
theorem arm{t:auJ}(ax:t <:+ s):zG n ⟨s,aS s t,0⟩=some (res ⟨0,0,[]⟩ s (iY t)):=by
 unfold zG qv;simp only [aus,auw,auv];rw [VX ax (by omega) (by omega),al,al]
theorem V_{u:Nat}(hu:u<min n 1000000000){b c:Int}{B:h7}(e0:B.s=s):∀(k m i:Nat) (a e:Int) (acc:kr),e≠0→i+k=u→k<m→acc.length=i→kq e (sT n ((u:Int),b,c) B m a e acc (i:Int)):=by
 intro k;induction k with
 |zero=>
  intro m i a e acc he hi hm ha;obtain⟨m,rfl⟩:∃j,m=j+1:=⟨m-1,by omega⟩
  obtain rfl:i=u:=by omega
  simp only [sT,zF,auF,aut,auv,I'];exact⟨_,_,rfl⟩
 |succ k aW=>
  intro m i a e acc he hi hm ha;obtain⟨m,rfl⟩:∃j,m=j+1:=⟨m-1,by omega⟩
  simp only [sT,zF,auB,show i<u by omega,aus,auu,Nd he,al,auD]
  rw [iz (by omega),bd,dj (by omega)]
  exact aW m (i+1) a e _ he (by omega) (by omega) (by simp [ha])
theorem afa{t:auJ}(ax:t <:+ s):match qW t with|.ok (l,bp)=>uw n ⟨s,aS s t,0⟩=some (l,aS s bp,0)|.error e=>kq e (uw n ⟨s,aS s t,0⟩):=by
 unfold uw qW gV;rw [show(64:Int)=((64:Nat):Int)from rfl,ae' hn aQ hs (by omega) ax,al]
 generalize aS s t=A
 cases h:gt 64 t with
 |error e=>
  rw [kO h,b7];exact V_ hn aQ hs (u:=0) (by omega) (B:=⟨s,A,0⟩) rfl 0 n 0 0 e [] (kp h) rfl (by omega) rfl
 |ok r=>
  obtain⟨u,bp⟩:=r;obtain⟨Z,ad,am⟩:=jD h;have dm:bp <:+ s:=List.IsSuffix.trans ⟨gi u,Z.symm⟩ ax;have hu:=dm.length_le;rw [kN h,cY]
  have c7:=r_ (L:=λm i t acc=>sT n ((u:Int),aS s bp,0) ⟨s,A,0⟩ m (aS s t) 0 acc (i:Int)) (f:=λ_ v=>v) (D:=dR 24) (u:=u) (s:=s) (fin:=λacc t=>some (acc,aS s t,0)) (bad:=λe x=>kq e x) (λx v t hx=>jV.gU hx) (by
   intro m i t acc hm hi ha ax;simp only [sT,zF,auB,hi,aus,auu];rw [show(24:Int)=((24:Nat):Int)from rfl,ae_ hn aQ hs (by omega) ax,al]
   have fP:room (acc.length+1) 16=true:=iz (by omega)
   cases g3:dR 24 t with
   |error e=>
    have he:=jV.cb _ _ g3;rw [b7];simp only [auD,fP,bd];rw [dj (by omega)]
    exact V_ hn aQ hs (by omega) (B:=⟨s,A,0⟩) rfl (u-(i+1)) m (i+1) _ e _ he (by omega) (by omega) (by simp [ha])
   |ok r=>
    obtain⟨v,t3⟩:=r;rw [cY];simp only [auD,fP,bd];rw [dj (by omega)]) (by
   intro m t acc ha ax;simp only [sT,zF,auF,aut,auv,I']) u n 0 bp [] (by omega) (by omega) rfl dm
  cases ah:e5 (dR 24) u bp with
  |error e=>rw [ah]at c7;simp only [ah]at c7 ⊢;exact c7
  |ok r=>
   obtain⟨l,jW⟩:=r;rw [ah]at c7;simp only [List.nil_append,sa,ah]at c7 ⊢;exact c7
theorem arn{a e:Int}(he:e≠0):kq e (uw n ⟨s,a,e⟩):=by
 unfold uw;rw [Nc he,al];exact V_ hn aQ hs (u:=0) (by omega) (B:=⟨s,a,e⟩) rfl 0 n 0 a e [] he rfl (by omega) rfl
theorem aro{r1 r2:Int×Int×Int}{r3:auJ×Int×Int}{a e:Int}{l:List bn}(he:e≠0):zH n r1 r2 s r3 a e l=some (ye,0,e):=by
 unfold zH;rw [arj he,al];simp only [auv,sU,dg he,auu]
theorem GB{u:Nat}(hu:u<min n 1000000000){b c:Int}{r1 r2:Int×Int×Int}{r3:auJ×Int×Int}:∀(k m i:Nat) (a e:Int) (acc:List bn),e≠0→i+k=u→k<m→acc.length=i→sV n r1 r2 ((u:Int),b,c) s r3 m a e acc (i:Int)=some (ye,0,e):=by
 intro k;induction k with
 |zero=>
  intro m i a e acc he hi hm ha;obtain⟨m,rfl⟩:∃j,m=j+1:=⟨m-1,by omega⟩
  obtain rfl:i=u:=by omega
  simp only [sV,zI,auF,aut,auv];exact aro hn aQ hs he
 |succ k aW=>
  intro m i a e acc he hi hm ha;obtain⟨m,rfl⟩:∃j,m=j+1:=⟨m-1,by omega⟩
  simp only [sV,zI,auB,show i<u by omega,aus,auu,ark he,al,auD]
  rw [iz (by omega),bd,dj (by omega)]
  exact aW m (i+1) a e _ he (by omega) (by omega) (by simp [ha])
theorem afb{r1 r2:Int×Int×Int}{r3:auJ×Int×Int}{l:List bn}{r24:Bool×Int×Int}{t:auJ}{ks ws:kr}(Z:iX r1.1)(ad:iX r2.1)(av:pT n (jn (r1.1,r2.1,r3.1,l,r24.1,(ks,ws)))):
 sU n r1 r2 s r3 l r24 (aS s t) 0 ks ws=some (res ye s (if vm (jn (r1.1,r2.1,r3.1,l,r24.1,(ks,ws)))then .ok (jn (r1.1,r2.1,r3.1,l,r24.1,(ks,ws)),t)else .error 5)):=by
 unfold sU vm;unfold iX at Z ad;simp only [aus,auw,auv];by_cases hb:r1.1≤32∧r2.1≤1099511627776
 ·simp only [show¬ 32<r1.1 by omega,show¬ 1099511627776<r2.1 by omega,aut,auv,wr (x:=r1.1) (by omega) (by omega),wr (x:=r2.1) (by omega) (by omega)]
  rw [show zd n ⟨r1.1,r2.1,r3.1,l,r24.1,⟨false,ks,ws⟩⟩=some (pS (jn (r1.1,r2.1,r3.1,l,r24.1,(ks,ws))))from aeH hn aQ av,al]
  rw [show decide ((jn (r1.1,r2.1,r3.1,l,r24.1,(ks,ws))).Client≤32)=true from decide_eq_true hb.1,show decide ((jn (r1.1,r2.1,r3.1,l,r24.1,(ks,ws))).Seq≤1099511627776)=true from decide_eq_true hb.2]
  by_cases ao:pS (jn (r1.1,r2.1,r3.1,l,r24.1,(ks,ws)))=0
  ·simp only [ao,aus,auw,auv,Bool.and_self,auH];rfl
  ·simp only [ao,aut,aux,auu,Bool.and_false,Bool.false_eq_true,auI];rfl
 ·have am:(bif (decide (32<r1.1))then true else(decide (1099511627776<r2.1)))=true:=by
   rw [dL,←Bool.decide_or];exact decide_eq_true (by omega)
  have aR:(decide ((jn (r1.1,r2.1,r3.1,l,r24.1,(ks,ws))).Client≤32)&&decide ((jn (r1.1,r2.1,r3.1,l,r24.1,(ks,ws))).Seq≤1099511627776))=false:=by
   rw [←Bool.decide_and];exact decide_eq_false hb
  simp only [am,aR,auu,Bool.false_and,Bool.false_eq_true,auI];rfl
theorem arp{t:auJ}(ax:t <:+ s):I_ n s (aS s t)=some (res ye s (pZ t)):=by
 unfold I_ pZ jU e' M9 dM;rw [ae9 hn aQ hs ax,al];cases g1:gI t with
 |error e=>
  have he:=ix.cb _ _ g1;rw [b7];simp only [V' he,Nd he,Nc he,al];exact GB hn aQ hs (u:=0) (by omega) 0 n 0 _ e [] he rfl (by omega) rfl
 |ok r=>
  obtain⟨dy,t1⟩:=r;have gu:=eT ix g1 ax;have q9:=(ix.eF _ _ _ g1).2;rw [cY];simp only
  rw [ae9 hn aQ hs gu,al];cases g2:gI t1 with
  |error e=>
   have he:=ix.cb _ _ g2;rw [b7];simp only [V' he,Nd he,Nc he,al];exact GB hn aQ hs (u:=0) (by omega) 0 n 0 _ e [] he rfl (by omega) rfl
  |ok r=>
   obtain⟨eo,t2⟩:=r;have gl:=eT ix g2 gu;have mA:=(ix.eF _ _ _ g2).2;rw [cY];simp only
   rw [show(16:Int)=((16:Nat):Int)from rfl,ae_ hn aQ hs (by omega) gl,al]
   cases g3:dR 16 t2 with
   |error e=>
    have he:=yb.cb _ _ g3;rw [b7];simp only [V' he,Nd he,Nc he,al];exact GB hn aQ hs (u:=0) (by omega) 0 n 0 _ e [] he rfl (by omega) rfl
   |ok r=>
    obtain⟨iw,t3⟩:=r;have mt:=eT yb g3 gl;have GC:=(yb.eF _ _ _ g3).2;rw [cY];simp only
    rw [show(6:Int)=((6:Nat):Int)from rfl,ae' hn aQ hs (by omega) mt,al]
    unfold gV;cases h:gt 6 t3 with
    |error e=>
     have he:=kp h;rw [kO h,b7];exact GB hn aQ hs (u:=0) (by omega) 0 n 0 _ e [] he rfl (by omega) rfl
    |ok r=>
     obtain⟨u,bp⟩:=r;obtain⟨Z,ad,am⟩:=jD h;have dm:bp <:+ s:=List.IsSuffix.trans ⟨gi u,Z.symm⟩ mt;have hu:=dm.length_le;rw [kN h,cY]
     have c7:=r_ (L:=λm i t acc=>sV n (dy,aS s t1,0) (eo,aS s t2,0) ((u:Int),aS s bp,0) s (iw,aS s t3,0) m (aS s t) 0 acc (i:Int)) (f:=λ_ v=>v) (D:=iY) (u:=u) (s:=s) (fin:=λacc t=>zH n (dy,aS s t1,0) (eo,aS s t2,0) s (iw,aS s t3,0) (aS s t) 0 acc) (bad:=λe x=>x=some (ye,0,e)) (λx v t hx=>n6.gU hx) (by
      intro m i t acc hm hi ha ax;simp only [sV,zI,auB,hi,aus,auu];rw [arm hn aQ hs ax,al];have fP:room (acc.length+1) 32=true:=iz (by omega)
      cases g3:iY t with
      |error e=>
       have he:=n6.cb _ _ g3;rw [b7];simp only [auD,fP,bd];rw [dj (by omega)]
       exact GB hn aQ hs (by omega) (u-(i+1)) m (i+1) _ e _ he (by omega) (by omega) (by simp [ha])
      |ok r=>
       obtain⟨v,t3⟩:=r;rw [cY];simp only [auD,fP,bd];rw [dj (by omega)]) (by
      intro m t acc ha ax;simp only [sV,zI,auF,aut,auv]) u n 0 bp [] (by omega) (by omega) rfl dm
     cases ah:e5 iY u bp with
     |error e=>rw [ah]at c7;simp only [ah]at c7 ⊢;exact c7
     |ok r=>
      obtain⟨l,t4⟩:=r;obtain⟨bD,bJ,dX⟩:=(n6.rep u).eF _ _ _ ah;have nl:t4 <:+ s:=eT (n6.rep u) ah dm;rw [ah]at c7;simp only [List.nil_append,sa,ah]at c7 ⊢;refine c7.trans ?_;unfold zH;rw [arl hn aQ hs nl,al];cases g5:pP t4 with
      |error e=>
       have he:=Gd.cb _ _ g5;rw [b7];simp only [auv,sU,dg he,auu,b7]
      |ok r=>
       obtain⟨b,t5⟩:=r;have qY:=eT Gd g5 nl;rw [cY];cases b with
       |false=>
        simp only [auv];have av:sb (jn (dy,eo,iw,l,false,([],[]))):=⟨q9,mA,GC,⟨by show l.length≤6;omega,dX⟩,rfl,rfl⟩
        exact afb hn aQ hs (r1:=(dy,aS s t1,0)) (r2:=(eo,aS s t2,0)) (r3:=(iw,aS s t3,0)) (l:=l) (r24:=(false,aS s t5,0)) (t:=t5) (ks:=[]) (ws:=[]) q9 mA (BT hn av)
       |true=>
        have hk:=afa hn aQ hs qY;simp only [auu,M8,auH,dM];cases g6:qW t5 with
        |error e=>
         have he:=pY.cb _ _ g6;rw [g6]at hk;obtain⟨v,a,hk⟩:=hk;rw [hk,al];obtain⟨jH,dO,lm⟩:=arn hn aQ hs (a:=a) he;simp only [lm,al,sU,dg he,auu,b7]
        |ok r=>
         obtain⟨ks,t6⟩:=r;have tG:=eT pY g6 qY;have Wa:=(pY.eF _ _ _ g6).2;rw [g6]at hk;simp only at hk ⊢
         rw [hk,al];have hk:=afa hn aQ hs tG;simp only
         cases g7:qW t6 with
         |error e=>
          have he:=pY.cb _ _ g7;rw [g7]at hk;obtain⟨v,a,hk⟩:=hk;rw [hk,al];simp only [sU,dg he,auu,b7]
         |ok r=>
          obtain⟨ws,t7⟩:=r;have Wb:=(pY.eF _ _ _ g7).2;rw [g7]at hk;simp only at hk ⊢
          rw [hk,al];simp only
          have av:sb (jn (dy,eo,iw,l,true,(ks,ws))):=⟨q9,mA,GC,⟨by show l.length≤6;omega,dX⟩,⟨Wa,Wb⟩,rfl⟩
          exact afb hn aQ hs (r1:=(dy,aS s t1,0)) (r2:=(eo,aS s t2,0)) (r3:=(iw,aS s t3,0)) (l:=l) (r24:=(true,aS s t5,0)) (t:=t7) (ks:=ks) (ws:=ws) q9 mA (BT hn av)
theorem arq{t:auJ}(ax:t <:+ s):Jb n s (aS s t)=some (res [] s (mR t)):=by
 unfold Jb mR gV;rw [show(64:Int)=((64:Nat):Int)from rfl,tA ax (by omega) (by omega) (by omega),al]
 cases h:gt 64 t with
 |error e=>rw [kO h,b7];simp only [dg (kp h),auu,b7]
 |ok r=>
  obtain⟨u,bp⟩:=r;obtain⟨Z,ad,am⟩:=jD h;have dm:bp <:+ s:=List.IsSuffix.trans ⟨gi u,Z.symm⟩ ax;have hu:=dm.length_le;rw [kN h,cY];simp only [aus,auw,auv];rw [show wR n s ((u:Int),aS s bp,0) n [] 0 (aS s bp)=_ from tB (L:=λm i t acc=>wR n s ((u:Int),aS s bp,0) m acc (i:Int) (aS s t)) (D:=pZ) (u:=u) (s:=s) (fin:=λacc t=>some (acc,aS s t,0)) (bad:=λe=>some ([],0,e)) (λx v t hx=>Gz.gU hx) ?_ ?_ (by omega) dm]
  ·cases ah:e5 pZ u bp with
   |error e=>rfl
   |ok r=>rfl
  ·intro m i t acc hi ha ax;simp only [wR,Ja,auB,hi,aus,auu];rw [arp hn aQ hs ax,al];cases aR:pZ t with
   |error e=>rw [b7];simp only [dg (Gz.cb _ _ aR),auu]
   |ok r=>
    obtain⟨x,t1⟩:=r;rw [cY];simp only [aus,auw,auv,auD];rw [iz (by omega),bd,dj (by omega)]
  ·intro m t acc ha ax;simp only [wR,Ja,auF,aut,auv,QV]
end
section
variable {n:Nat} (hn:2000≤n) (aQ:n≤9223372036854775808) {s:auJ} (hs:s.length<min n 1000000000)
include hn aQ hs
theorem afc{t:auJ}(ax:t <:+ s):match qW t with|.ok (l,bp)=>AR n s (aS s t)=some (l,aS s bp,0)|.error e=>kq e (AR n s (aS s t)):=by
 unfold AR qW gV;rw [show(64:Int)=((64:Nat):Int)from rfl,r4 ax (by omega) (by omega) (by omega),al]
 obtain⟨lD,rfl⟩:∃k,n=k+1:=⟨n-1,by omega⟩
 cases h:gt 64 t with
 |error e=>
  rw [kO h,b7];simp only [uK,AQ,auF,aut,auv,EJ];exact⟨_,_,rfl⟩
 |ok r=>
  obtain⟨u,bp⟩:=r;obtain⟨Z,ad,am⟩:=jD h;have dm:bp <:+ s:=List.IsSuffix.trans ⟨gi u,Z.symm⟩ ax;have hu:=dm.length_le;rw [kN h,cY]
  have c7:=r_ (L:=λm i t acc=>uK (lD+1) s ((u:Int),aS s bp,0) m (aS s t) (i:Int) 0 acc) (f:=λ_ v=>v) (D:=dR 24) (u:=u) (s:=s) (fin:=λacc t=>some (acc,aS s t,0)) (bad:=λe x=>kq e x) (λx v t hx=>jV.gU hx) (by
   intro m i t acc hm hi ha ax;simp only [uK,AQ,auB,hi,aus,auu];rw [show(24:Int)=((24:Nat):Int)from rfl,r5 ax (by omega) (by omega) (by omega),al]
   have fP:room (acc.length+1) 16=true:=iz (by omega)
   cases g3:dR 24 t with
   |error e=>
    have he:¬ e=0:=jV.cb _ _ g3;rw [b7];simp only [auD,fP,bd];obtain⟨m,rfl⟩:∃j,m=j+1:=⟨m-1,by omega⟩
    simp only [uK,AQ,he,aut,ee,Bool.and_false,auv,EJ];exact⟨_,_,rfl⟩
   |ok r=>
    obtain⟨v,t3⟩:=r;rw [cY];simp only [auD,fP,bd];rw [dj (by omega)]) (by
   intro m t acc ha ax;simp only [uK,AQ,auF,aut,auv,EJ]) u (lD+1) 0 bp [] (by omega) (by omega) rfl dm
  cases ah:e5 (dR 24) u bp with
  |error e=>rw [ah]at c7;simp only [ah]at c7 ⊢;exact c7
  |ok r=>
   obtain⟨l,jW⟩:=r;rw [ah]at c7;simp only [List.nil_append,sa,ah]at c7 ⊢;exact c7
theorem ars{t:auJ}(ax:t <:+ s):match gV 6 iY t with|.ok (l,bp)=>EI n s (aS s t)=some (l,aS s bp,0)|.error e=>kq e (EI n s (aS s t)):=by
 unfold EI gV;rw [show(6:Int)=((6:Nat):Int)from rfl,r4 ax (by omega) (by omega) (by omega),al]
 obtain⟨lD,rfl⟩:∃k,n=k+1:=⟨n-1,by omega⟩
 cases h:gt 6 t with
 |error e=>
  rw [kO h,b7];simp only [uJ,AO,auF,aut,auv,EH];exact⟨_,_,rfl⟩
 |ok r=>
  obtain⟨u,bp⟩:=r;obtain⟨Z,ad,am⟩:=jD h;have dm:bp <:+ s:=List.IsSuffix.trans ⟨gi u,Z.symm⟩ ax;have hu:=dm.length_le;rw [kN h,cY]
  have c7:=r_ (L:=λm i t acc=>uJ (lD+1) s ((u:Int),aS s bp,0) m (aS s t) (i:Int) 0 acc) (f:=λ_ v=>v) (D:=iY) (u:=u) (s:=s) (fin:=λacc t=>some (acc,aS s t,0)) (bad:=λe x=>kq e x) (λx v t hx=>n6.gU hx) (by
   intro m i t acc hm hi ha ax;simp only [uJ,AO,auB,hi,aus,auu];rw [VY ax (by omega) (by omega),al]
   have fP:room (acc.length+1) 32=true:=iz (by omega)
   cases g3:iY t with
   |error e=>
    have he:¬ e=0:=n6.cb _ _ g3;rw [b7];simp only [auD,fP,bd];obtain⟨m,rfl⟩:∃j,m=j+1:=⟨m-1,by omega⟩
    simp only [uJ,AO,he,aut,ee,Bool.and_false,auv,EH];exact⟨_,_,rfl⟩
   |ok r=>
    obtain⟨v,t3⟩:=r;rw [cY];simp only [auD,fP,bd];rw [dj (by omega)]) (by
   intro m t acc ha ax;simp only [uJ,AO,auF,aut,auv,EH]) u (lD+1) 0 bp [] (by omega) (by omega) rfl dm
  cases ah:e5 iY u bp with
  |error e=>rw [ah]at c7;simp only [ah]at c7 ⊢;exact c7
  |ok r=>
   obtain⟨l,jW⟩:=r;rw [ah]at c7;simp only [List.nil_append,sa,ah]at c7 ⊢;exact c7
theorem afd{c q:Int}{p:auJ}{l:List bn}{b:Bool}{a3 a5 e3 lQ a_:Int}{t:auJ}{ks ws:kr}(Z:iX c)(ad:iX q)(av:pT n (jn (c,q,p,l,b,(ks,ws)))):
 EK n (⟨auL (bif (!(bif (decide (c≤32)) then(decide (q≤1099511627776))else false))then 0 else c),auL (bif (!(bif (decide (c≤32)) then(decide (q≤1099511627776))else false))then 0 else q),p,[],false,⟨false,[],[]⟩⟩,(bif (decide (c≤32)) then(decide (q≤1099511627776))else false),a_,0) (l,a3,e3) (b,a5,lQ) ks ws (aS s t)=some (res ye s (if vm (jn (c,q,p,l,b,(ks,ws)))then .ok (jn (c,q,p,l,b,(ks,ws)),t)else .error 5)):=by
 unfold EK vm;unfold iX at Z ad;by_cases hb:c≤32∧q≤1099511627776
 ·simp only [hb.1,hb.2,aus,auu,auw,aux,auv,wr (x:=c) (by omega) (by omega),wr (x:=q) (by omega) (by omega)]
  rw [show AK n ⟨c,q,p,l,b,⟨false,ks,ws⟩⟩=some (pS (jn (c,q,p,l,b,(ks,ws))))from aeI hn aQ av,al]
  rw [show decide ((jn (c,q,p,l,b,(ks,ws))).Client≤32)=true from decide_eq_true hb.1,show decide ((jn (c,q,p,l,b,(ks,ws))).Seq≤1099511627776)=true from decide_eq_true hb.2]
  by_cases ao:pS (jn (c,q,p,l,b,(ks,ws)))=0
  ·simp only [ao,aus,auw,auv,Bool.and_self,auH];rfl
  ·simp only [ao,aut,aux,auu,Bool.and_false,Bool.false_eq_true,auI];rfl
 ·have am:(bif (decide (c≤32)) then(decide (q≤1099511627776))else false)=false:=by
   rw [ee,←Bool.decide_and];exact decide_eq_false hb
  have aR:(decide ((jn (c,q,p,l,b,(ks,ws))).Client≤32)&&decide ((jn (c,q,p,l,b,(ks,ws))).Seq≤1099511627776))=false:=by
   rw [←Bool.decide_and];exact decide_eq_false hb
  simp only [am,aR,auu,aux,auw,auv,al,Bool.false_and,Bool.false_eq_true,auI];rfl
theorem art{t:auJ}(ax:t <:+ s):Le n s (aS s t)=some (res ye s (pZ t)):=by
 unfold Le Tu pZ jU e' M9 dM;rw [tz ax (by omega) (by omega),al]
 cases g1:gI t with
 |error e=>
  have he:=ix.cb _ _ g1;rw [b7];simp only [dg he,auu,al,b7]
 |ok r=>
  obtain⟨dy,t1⟩:=r;have gu:=eT ix g1 ax;have q9:=(ix.eF _ _ _ g1).2;rw [cY];simp only [aus,auw,auv];rw [tz gu (by omega) (by omega),al]
  cases g2:gI t1 with
  |error e=>
   have he:=ix.cb _ _ g2;rw [b7];simp only [dg he,auu,al,b7]
  |ok r=>
   obtain⟨eo,t2⟩:=r;have gl:=eT ix g2 gu;have mA:=(ix.eF _ _ _ g2).2;rw [cY];simp only [aus,auw,auv];rw [show(16:Int)=((16:Nat):Int)from rfl,r5 gl (by omega) (by omega) (by omega),al]
   cases g3:dR 16 t2 with
   |error e=>
    have he:=yb.cb _ _ g3;rw [b7];simp only [dg he,auu,al,b7]
   |ok r=>
    obtain⟨iw,t3⟩:=r;have mt:=eT yb g3 gl;have GC:=(yb.eF _ _ _ g3).2;rw [cY];simp only [aus,auw,auv]
    have bB:(bif (!(bif (decide (dy≤32)) then(decide (eo≤1099511627776))else false))then AP n (iw,aS s t3,0) (dy,aS s t1,0) (eo,aS s t2,0) 0 0 else AP n (iw,aS s t3,0) (dy,aS s t1,0) (eo,aS s t2,0) eo dy)=some (⟨auL (bif (!(bif (decide (dy≤32)) then(decide (eo≤1099511627776))else false))then 0 else dy),auL (bif (!(bif (decide (dy≤32)) then(decide (eo≤1099511627776))else false))then 0 else eo),iw,[],false,⟨false,[],[]⟩⟩,(bif (decide (dy≤32)) then(decide (eo≤1099511627776))else false),aS s t3,0):=by
     unfold AP;cases (bif (decide (dy≤32)) then(decide (eo≤1099511627776))else false)<;>rfl
    rw [bB,al];simp only [aus,auw,auv];have ha:=ars hn aQ hs mt;cases h:gV 6 iY t3 with
    |error e=>
     have he:=(Gx 6 (by omega)).cb _ _ h
     rw [h]at ha;obtain⟨v,a,ha⟩:=ha;rw [ha,al];simp only [dg he,auu,b7]
    |ok r=>
     obtain⟨l,t4⟩:=r;have nl:t4 <:+ s:=eT (Gx 6 (by omega)) h mt
     have ae:=((Gx 6 (by omega)).eF _ _ _ h).2
     rw [h]at ha;simp only at ha ⊢
     rw [ha,al];simp only [aus,auw,auv];rw [aqH nl (by omega),al]
     cases g5:pP t4 with
     |error e=>
      have he:=Gd.cb _ _ g5;rw [b7];simp only [dg he,auu,b7]
     |ok r=>
      obtain⟨b,t5⟩:=r;have qY:=eT Gd g5 nl;rw [cY];simp only [aus,auw,auv];cases b with
      |false=>
       have av:sb (jn (dy,eo,iw,l,false,([],[]))):=⟨q9,mA,GC,ae,rfl,rfl⟩;exact afd hn aQ hs q9 mA (BT hn av)
      |true=>
       have hk:=afc hn aQ hs qY;simp only [auu,M8,auH,dM];cases g6:qW t5 with
       |error e=>
        have he:=pY.cb _ _ g6;rw [g6]at hk;obtain⟨v,a,hk⟩:=hk;rw [hk,al];simp only [dg he,auu,b7]
       |ok r=>
        obtain⟨ks,t6⟩:=r;have tG:=eT pY g6 qY;have Wa:=(pY.eF _ _ _ g6).2;rw [g6]at hk;simp only at hk ⊢
        rw [hk,al];simp only [aus,auw,auv];have hk:=afc hn aQ hs tG;cases g7:qW t6 with
        |error e=>
         have he:=pY.cb _ _ g7;rw [g7]at hk;obtain⟨v,a,hk⟩:=hk;rw [hk,al];simp only [dg he,auu,b7]
        |ok r=>
         obtain⟨ws,t7⟩:=r;have Wb:=(pY.eF _ _ _ g7).2;rw [g7]at hk;simp only at hk ⊢
         rw [hk,al];simp only [aus,auw,auv];have av:sb (jn (dy,eo,iw,l,true,(ks,ws))):=⟨q9,mA,GC,ae,⟨Wa,Wb⟩,rfl⟩;exact afd hn aQ hs q9 mA (BT hn av)
theorem afe{t:auJ}(ax:t <:+ s):Lg n s (aS s t)=some (res [] s (mR t)):=by
 unfold Lg mR gV;rw [show(64:Int)=((64:Nat):Int)from rfl,r4 ax (by omega) (by omega) (by omega),al]
 cases h:gt 64 t with
 |error e=>rw [kO h,b7];simp only [dg (kp h),auu,b7]
 |ok r=>
  obtain⟨u,bp⟩:=r;obtain⟨Z,ad,am⟩:=jD h;have dm:bp <:+ s:=List.IsSuffix.trans ⟨gi u,Z.symm⟩ ax;have hu:=dm.length_le;rw [kN h,cY];simp only [aus,auw,auv];rw [show xl n s ((u:Int),aS s bp,0) n (aS s bp) 0 []=_ from tB (L:=λm i t acc=>xl n s ((u:Int),aS s bp,0) m (aS s t) (i:Int) acc) (D:=pZ) (u:=u) (s:=s) (fin:=λacc t=>some (acc,aS s t,0)) (bad:=λe=>some ([],0,e)) (λx v t hx=>Gz.gU hx) ?_ ?_ (by omega) dm]
  ·cases ah:e5 pZ u bp with
   |error e=>rfl
   |ok r=>rfl
  ·intro m i t acc hi ha ax;simp only [xl,Lf,auB,hi,aus,auu];rw [art hn aQ hs ax,al];cases aR:pZ t with
   |error e=>rw [b7];simp only [dg (Gz.cb _ _ aR),auu]
   |ok r=>
    obtain⟨x,t1⟩:=r;rw [cY];simp only [aus,auw,auv,auD];rw [iz (by omega),bd,dj (by omega)]
  ·intro m t acc ha ax;simp only [xl,Lf,auF,aut,auv,Tv]
theorem aff{t:auJ}(ax:t <:+ s):LL n s (aS s t)=some (res [] s (yd t)):=by
 unfold LL yd gV;rw [show(16:Int)=((16:Nat):Int)from rfl,r4 ax (by omega) (by omega) (by omega),al]
 cases h:gt 16 t with
 |error e=>rw [kO h,b7];simp only [dg (kp h),auu,b7]
 |ok r=>
  obtain⟨u,bp⟩:=r;obtain⟨Z,ad,am⟩:=jD h;have dm:bp <:+ s:=List.IsSuffix.trans ⟨gi u,Z.symm⟩ ax;have hu:=dm.length_le;rw [kN h,cY];simp only [aus,auw,auv];rw [show xr n s ((u:Int),aS s bp,0) n (aS s bp) 0 []=_ from tB (L:=λm i t acc=>xr n s ((u:Int),aS s bp,0) m (aS s t) (i:Int) acc) (D:=dR 16384) (u:=u) (s:=s) (fin:=λacc t=>some (acc,aS s t,0)) (bad:=λe=>some ([],0,e)) (λx v t hx=>BS.gU hx) ?_ ?_ (by omega) dm]
  ·cases ah:e5 (dR 16384) u bp with
   |error e=>rfl
   |ok r=>rfl
  ·intro m i t acc hi ha ax;simp only [xr,LK,auB,hi,aus,auu];rw [show(16384:Int)=((16384:Nat):Int)from rfl,r5 ax (by omega) (by omega) (by omega),al]
   cases aR:dR 16384 t with
   |error e=>rw [b7];simp only [dg (BS.cb _ _ aR),auu]
   |ok r=>
    obtain⟨x,t1⟩:=r;rw [cY];simp only [aus,auw,auv,auD];rw [iz (by omega),bd,dj (by omega)]
  ·intro m t acc ha ax;simp only [xr,LK,auF,aut,auv,T3]
theorem afg{t:auJ}(ax:t <:+ s):Lp n s (aS s t)=some (res [] s (qX t)):=by
 unfold Lp qX gV;rw [show(32:Int)=((32:Nat):Int)from rfl,r4 ax (by omega) (by omega) (by omega),al]
 cases h:gt 32 t with
 |error e=>rw [kO h,b7];simp only [dg (kp h),auu,b7]
 |ok r=>
  obtain⟨u,bp⟩:=r;obtain⟨Z,ad,am⟩:=jD h;have dm:bp <:+ s:=List.IsSuffix.trans ⟨gi u,Z.symm⟩ ax;have hu:=dm.length_le;rw [kN h,cY];simp only [aus,auw,auv];rw [show xp n s ((u:Int),aS s bp,0) n (aS s bp) 0 []=_ from tB (L:=λm i t acc=>xp n s ((u:Int),aS s bp,0) m (aS s t) (i:Int) acc) (D:=e' (λp=>(⟨p.1,p.2⟩:bh)) (dM (dR 24) λ_=>gD)) (u:=u) (s:=s) (fin:=λacc t=>some (acc,aS s t,0)) (bad:=λe=>some ([],0,e)) (λx v t hx=>M_.gU hx) ?_ ?_ (by omega) dm]
  ·cases ah:e5 (e' (λp=>(⟨p.1,p.2⟩:bh)) (dM (dR 24) λ_=>gD)) u bp with
   |error e=>rfl
   |ok r=>rfl
  ·intro m i t acc hi ha ax;simp only [xp,Lo,auB,hi,aus,auu];rw [show(24:Int)=((24:Nat):Int)from rfl,r5 ax (by omega) (by omega) (by omega),al]
   unfold e' dM;cases aR:dR 24 t with
   |error e=>rw [b7];simp only [dg (jV.cb _ _ aR),auu]
   |ok r=>
    obtain⟨k,t1⟩:=r;rw [cY];simp only [aus,auw,auv];rw [vd (eT jV aR ax) (by omega) (by omega),al]
    cases bv:gD t1 with
    |error e=>rw [b7];simp only [dg (hD.cb _ _ bv),auu]
    |ok r=>
     obtain⟨v,t2⟩:=r;rw [cY];simp only [aus,auw,auv,auD];rw [iz (by omega),bd,dj (by omega)]
  ·intro m t acc ha ax;simp only [xp,Lo,auF,aut,auv,Ty]
end
structure sc(p:be):Prop where
 v:n0 p=0
 i:xW p
 w:tk p≤250000
def aru{n:Nat}(src:auJ)(hs:src.length≤4000)(hn:100000000≤n):
 ∃r,D7 n src=some r∧E3 n src=some r∧(r.2.2=0→sc r.1):=by
 obtain⟨r,Z,ad,am,aR⟩:=apj (n:=n) src (Or.inl hs) hn;exact⟨r,Z,ad,λh0=>⟨aR h0,apQ (by omega),am⟩⟩
def mS(p:be):auJ:=if n0 p=0 then oS p else[]
structure oY(p:be):Prop where
 i:xW p
 n:p.Name.length≤300000
 f:fM p.Params≤300000
 b:dP p.Body≤300000
def sc.fN{p:be}(h:sc p):oY p:=by
 have hw:p.Name.length+fM p.Params+dP p.Body≤250000:=h.w;exact⟨h.i,by omega,by omega,by omega⟩
def afh{n:Nat}{p:be}(h:oY p)(hn:100000000≤n):wI n p=some (mS p):=by
 have Z:=h.n;have ad:=h.f;have am:=h.b;unfold mS;by_cases ao:n0 p=0
 ·rw [if_pos ao];exact ap3 p h.i ao (by omega) h.f h.b
 ·rw [if_neg ao];unfold wI;rw [Vp p (by omega) (by omega) (by omega) (by omega) (by omega)]
  simp only [al,ao,aut,aux,auu]
def afi{n:Nat}{p:be}(h:oY p)(hn:100000000≤n):xh n p=some (mS p):=by
 have Z:=h.n;have ad:=h.f;have am:=h.b;unfold mS;by_cases ao:n0 p=0
 ·rw [if_pos ao];exact aqo p h.i ao (by omega) h.f h.b
 ·rw [if_neg ao];unfold xh;rw [Vq p (by omega) (by omega) (by omega) (by omega) (by omega) (by omega) (by omega)]
  simp only [al,ao,aut,aux,auu]
def arv{n:Nat}(hn:100000000≤n)(l:kr)(ae:l.length≤1000)(hs:∀s∈l,s.length≤4000):∃o,JP n l=some o∧LJ n l=some o∧o.1.length≤l.length∧(∀p∈o.1,sc p)∧(o.2=true→o.1.map mS=l):=by
 have key:∀(m i:Nat) (acc:List be),l.length<i+m→i≤l.length→acc.length=i→(∀p∈acc,sc p)→acc.map mS=l.take i→∃o,zZ n l m (i:Int) acc=some o∧A0 n l m acc (i:Int)=some o∧o.1.length≤l.length∧(∀p∈o.1,sc p)∧(o.2=true→o.1.map mS=l):=by
  intro m;induction m with
  |zero=>intro i acc Z ad;omega
  |succ m aW=>
   intro i acc Z ad ha hp hm;by_cases hi:i<l.length
   ·have yt:=V1 hi;obtain⟨r,e1,e2,e3⟩:=aru (n:=n) (l.getD i default) (hs _ yt) hn;have fP:room (acc.length+1) 64=true:=iz (by omega)
    simp only [zZ,JO,A0,LI,auB,hi,aus,auu,cv hi,bd,auA,e1,e2,al,auD,fP,dj (show i≤9223372036854775806 by omega),auG]
    by_cases h0:r.2.2=0
    ·have hg:=e3 h0;simp only [h0,aus,auw,aux,auu,auv,afh hg.fN hn,afi hg.fN hn,al];by_cases hx:mS r.1=l.getD i default
     ·simp only [hx,aus,auw,auv];refine aW (i+1) (acc++[r.1]) (by omega) (by omega) (by simp [ha]) (λp yf=>?_) ?_
      ·rcases List.mem_append.1 yf with h|h
       ·exact hp p h
       ·rw [List.mem_singleton.1 h];exact hg
      ·rw [List.map_append,hm,List.map_cons,List.map_nil,hx,List.take_add,fH l i default hi,List.take_succ_cons,List.take_zero]
     ·simp only [hx,aut,aux,auu];exact⟨_,rfl,rfl,by simp,λp yf=>(by cases yf),λh=>(by cases h)⟩
    ·simp only [h0,aut,aux,auw,auu,auv,al];exact⟨_,rfl,rfl,by simp,λp yf=>(by cases yf),λh=>(by cases h)⟩
   ·simp only [zZ,JO,A0,LI,RF,T2,auB,hi,aut,auv];obtain rfl:i=l.length:=by omega
    rw [List.take_length]at hm;exact⟨_,rfl,rfl,by simp only;omega,hp,λ_=>hm⟩
 exact key n 0 [] (by omega) (by omega) rfl (λp yf=>(by cases yf)) rfl
end Go.Ab.Y

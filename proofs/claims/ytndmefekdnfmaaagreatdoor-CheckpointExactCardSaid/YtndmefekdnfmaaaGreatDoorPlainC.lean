/- The plain law: what the functions compute answers as the statement says. -/
import Derived.Test.YtndmefekdnfmaaaGreatDoorPlainB
set_option linter.all false
namespace Go.Ab.Y
open Go Go.Ab Go.Proofs Tryz
def res{α:Type}(z:α)(s:UB):Except Int (α×UB)->α×Int×Int
 |.ok (v,t)=>(v,((s.length-t.length:Nat):Int),0)
 |.error e=>(z,0,e)
def bx(s t:UB):Int:=((s.length-t.length:Nat):Int)
def KD(p t:UB):bx (p++t) t=(p.length:Int):=by unfold bx;simp
def aki(s:UB):bx s s=0:=by unfold bx;simp
def h_{α:Type}{z:α}{s t:UB}{v:α}:res z s (.ok (v,t))=(v,bx s t,0):=rfl
def f9{α:Type}{z:α}{s:UB}{e:Int}:res z s (.error e)=(z,0,e):=rfl
def aa_{α β:Type}{a:β}{s:UB}{f:α->β}{D:eY α}{t:UB}:res a s (gw f D t)=match D t with|.ok (v,t)=>(f v,bx s t,0)|.error e=>(a,0,e):=by
 unfold gw;cases D t<;>rfl
def akk(p x:UB)(i:Nat):(p++x).getD (p.length+i) 0=x.getD i 0:=by
 simp[ie,jE]
def ax3:∀x:Nat,x<256->rJ .u8 (x:Int) 127=((x % 128:Nat):Int):=by decide +kernel
def ax4{a b i:Nat}(h:a<2 ^ i)(c:a+2 ^ i*b<2^64):s9 .u64 (a:Int) ((2 ^ i*b:Nat):Int)=((a+2 ^ i*b:Nat):Int):=by
 unfold s9
 have e:((BitVec.ofInt (IntKind.bits .u64) (a:Int) |||BitVec.ofInt (IntKind.bits .u64) ((2 ^ i*b:Nat):Int)).toNat)=a+2 ^ i*b:=by
  rw[BitVec.toNat_or,BitVec.toNat_ofInt,BitVec.toNat_ofInt];simp only[IntKind.bits];rw[show(((a:Int) % ((2 ^ 64:Nat):Int)).toNat)=a by omega,show((((2 ^ i*b:Nat):Int) % ((2 ^ 64:Nat):Int)).toNat)=2 ^ i*b by omega]
  rw[Nat.or_comm,<-Nat.two_pow_add_eq_or_of_lt h,wa]
 rw[e,qo c]
def ax5{c i:Nat}(hi:i<=63)(h:2 ^ i*c<2^64):qA .u64 (c:Int) (i:Int)=((2 ^ i*c:Nat):Int):=by
 unfold qA
 (simp only[US];rw[show min i (IntKind.bits .u64)=i by simp only[IntKind.bits];omega,show(c:Int)*2 ^ i=((2 ^ i*c:Nat):Int)by rw[Nat.mul_comm];norm_cast,qo h])
def ax6{i c:Nat}(hi:i<=9)(d:c<128)(b:i=9->c<=1):2 ^ (7*i)*c<2^64/\∀a,a<2 ^ (7*i)->a+2 ^ (7*i)*c<18446744073709551616:=by
 have h:i=0\/i=1\/i=2\/i=3\/i=4\/i=5\/i=6\/i=7\/i=8\/i=9:=by omega
 rcases h with h|h|h|h|h|h|h|h|h|h<;>subst h<;>simp only[Nat.reduceMul,Nat.reducePow]<;>(try have:=b rfl)<;>exact⟨by omega,λa e=>by omega⟩
def Fe{i:Nat}(h:i<=2^63-1):YV (i:Int)=(i:Int):=by rw[wr]<;>omega
def ax7(n a:Nat):∀(k m i:Nat) (x b:UB) (d:Nat),i+k=10->b.length=a+i->d<2 ^ (7*i)->k<m->(b++x).length<=2^62->
 Hz n (b++x) (a:Int) m (i:Int) (d:Int)=some (match oj k x with|.ok (u,t)=>(((d+2 ^ (7*i)*u:Nat):Int),bx (b++x) t,0)|.error e=>(0,0,e)):=by
 intro k;induction k with
 |zero=>
  intro m i x b d B z h A p;obtain⟨m,rfl⟩:∃j,m=j+1:=⟨m-1,by omega⟩
  obtain rfl:i=10:=by omega
  rfl
 |succ k J=>
  intro m i x b d B z h A p;obtain⟨m,rfl⟩:∃j,m=j+1:=⟨m-1,by omega⟩
  have K:(b++x).length=b.length+x.length:=kv;have I:YV ((a:Int)+(i:Int))=(b.length:Int):=by rw[wr]<;>omega
  have l:i<=9:=by omega
  simp only[Hz,VS,I];rw[show(decide<|(i:Int)<10)=true from fp (by omega)]
  simp only[UL];cases x with
  |nil=>
   simp only[gJ,wV,YW,UL,oj]
  |cons c x=>
   have hlen:(b++c::x).length=b.length+(x.length+1):=by simp
   have E:(b++c::x).getD b.length 0=c:=by
    have:=akk b (c::x) 0
    simpa using this
   have F:=c.toNat_lt;rw[show(decide<|(((b++c::x).length:Nat):Int)<=(b.length:Int))=false from en (by omega)]
   simp only[UK,bW (show b.length<(b++c::x).length by omega),aF,US,E]
   have o:YV (7*(i:Int))=((7*i:Nat):Int):=by rw[wr]<;>omega
   have H:YV ((b.length:Int)+1)=((b.length+1:Nat):Int):=cu (by omega)
   have y:YV ((i:Int)+1)=((i+1:Nat):Int):=cu (by omega)
   have w:bx (b++c::x) x=((b.length+1:Nat):Int):=by
    have:=KD (b++[c]) x
    simpa using this
   unfold oj;by_cases f:k=0/\1<c.toNat\/c.toNat=0/\k<9
   ·rw[eI f,show(bif (bif (decide<|(i:Int)=9) then(decide<|1<(c.toNat:Int))else false)then true else(bif (decide<|(c.toNat:Int)=0) then(decide<|0<(i:Int))else false))=true by
     rw[dU,ew,ew,<-qm,<-qm,<-xy];exact fp<|by omega]
    rfl
   ·rw[de f,show(bif (bif (decide<|(i:Int)=9) then(decide<|1<(c.toNat:Int))else false)then true else(bif (decide<|(c.toNat:Int)=0) then(decide<|0<(i:Int))else false))=false by
     rw[dU,ew,ew,<-qm,<-qm,<-xy];exact en<|by omega]
    have hb:=ax6 (c:=c.toNat % 128) l (by omega) (by omega)
    have L:s9 .u64 (d:Int) (qA .u64 (IntKind.u64.wrap<|rJ .u8 (c.toNat:Int) 127)<|YV<|7*(i:Int))=((d+2 ^ (7*i)*(c.toNat % 128):Nat):Int):=by
     rw[ax3 _ F,qo<|by omega,o,ax5 (by omega) hb.1,ax4 h<|hb.2 d h]
    simp only[UK,L,H,y];rw[o,show o0 ((7*i:Nat):Int)=true by simp only[o0,fx];omega,aF]
    by_cases g:c.toNat<128
    ·rw[eI g,show(decide<|(c.toNat:Int)<128)=true from fp (by omega)]
     simp only[UL,w,tv g]
    ·rw[de g,show(decide<|(c.toNat:Int)<128)=false from en (by omega)]
     have q:2 ^ (7*(i+1))=2 ^ (7*i)*128:=by rw[show 7*(i+1)=7*i+7 by omega,Nat.pow_add]
     have s:=J m (i+1) x (b++[c]) (d+2 ^ (7*i)*(c.toNat % 128)) (by omega) (by simp;omega) (by
      rw[q];have M:2 ^ (7*i)*(c.toNat % 128)<=2 ^ (7*i)*127:=Nat.mul_le_mul_left _ (by omega)
      omega) (by omega) (by simp at p ⊢;omega)
     rw[show b++[c]++x=b++c::x by simp]at s
     simp only[UK];rw[s]
     congr 1
     cases oj k x with
     |error e=>rfl
     |ok r=>
      let⟨u,t⟩:=r;simp only
      rw[q,Nat.mul_add,Nat.mul_assoc,pR]
def akm{n:Nat}{s t:UB}(h:t <:+ s):Hy n s (bx s t)=some false:=by
 unfold Hy bx;have:=h.length_le
 rw[en<|by omega,en<|by omega];rfl
def Ff{n:Nat}{s t:UB}(b:t <:+ s)(c:s.length<=2^62)(d:12<=n):vx n s (bx s t)=some (res 0 s<|jm t):=by
 unfold vx;rw[akm (n:=n) b];obtain⟨a,rfl⟩:=b;rw[KD,aj,UK];refine(ax7 n a.length 10 n 0 t a 0 (by omega) (by omega) (by simp) (by omega) c).trans<|congrArg some ?_
 unfold jm uv;rw[aa_];cases oj 10 t with
 |error e=>rfl
 |ok r=>let⟨u,f⟩:=r;simp
def ht{e:Int}(h:e≠0):(!decide (e=0))=true:=by simp[h]
def akn{t a:UB}{u:Nat}(h:uv t = .ok (u,a)):jm t = .ok ((u:Int),a):=by simp only[jm,gw,h]
def ako{t:UB}{e:Int}(h:uv t = .error e):jm t = .error e:=by simp only[jm,gw,h]
def ax9{u:Nat}(h:u<2^64):rJ .u64 (u:Int) 1=((u % 2:Nat):Int):=by
 unfold rJ
 have e:((BitVec.ofInt (IntKind.bits .u64) (u:Int) &&& BitVec.ofInt (IntKind.bits .u64) 1).toNat)=u % 2:=by
  rw[BitVec.toNat_and,BitVec.toNat_ofInt,BitVec.toNat_ofInt];simp only[IntKind.bits];rw[show(((u:Int) % ((2 ^ 64:Nat):Int)).toNat)=u by omega,show(((1:Int) % ((2 ^ 64:Nat):Int)).toNat)=1 by decide,Nat.and_one_is_mod]
 rw[e,qo<|by omega]
def akp{u:Nat}:mq .u64 (u:Int) 1=((u / 2:Nat):Int):=by
 unfold mq;rw[show min (1:Int).toNat (IntKind.bits .u64)=1 by decide,wU _<|by omega]
 omega
def ax'{a:Nat}(h:a<2^63):oy .i64 (a:Int) 0=(a:Int):=by
 unfold oy;rw[show BitVec.ofInt (IntKind.bits .i64) 0=0#_ from rfl,BitVec.xor_zero]
 rw[show((BitVec.ofInt (IntKind.bits .i64) (a:Int)).toNat:Int)=(a:Int) by
  rw[BitVec.toNat_ofInt];simp only[IntKind.bits];omega]
 exact Fe (by omega)
def ax_{a:Nat}(h:a<2^63):oy .i64 (a:Int) (-1) = -(a:Int)-1:=by
 unfold oy;rw[show BitVec.ofInt (IntKind.bits .i64) (-1)=BitVec.allOnes _ by decide,BitVec.xor_allOnes]
 rw[show((~~~ BitVec.ofInt (IntKind.bits .i64) (a:Int)).toNat:Int)=((18446744073709551615-a:Nat):Int) by
  rw[BitVec.toNat_not,BitVec.toNat_ofInt];simp only[IntKind.bits];omega]
 (try unfold YV);rw[IntKind.wrap_i64];omega
def aya{u:Nat}(h:u<2^64):oy .i64 (YV<|mq .u64 (u:Int) 1) (YV<|0-(YV<|rJ .u64 (u:Int) 1))=Fb u:=by
 rw[akp,ax9 h,Fe (i:=u / 2)<|by omega,Fe (i:=u % 2)<|by omega]
 unfold Fb;by_cases a:u % 2=1
 ·rw[eI a,a,show YV (0-((1:Nat):Int)) = -1 by decide,ax_<|by omega]
 ·rw[de a,show u % 2=0 by omega,show YV (0-((0:Nat):Int))=0 by decide,ax'<|by omega]
def aba{n:Nat}{s t:UB}(c:t <:+ s)(a:s.length<=2^62)(b:12<=n):CW n s (bx s t)=some (res 0 s<|jR t):=by
 unfold CW jR gw;rw[Ff c a b,aj];cases h:uv t with
 |error e=>
  rw[ako h,f9];simp only[ht<|uw.dr _ _ h,UL,f9]
 |ok r=>
  let⟨u,d⟩:=r;rw[akn h,h_];simp only[YW,UR,UK,aya (uw.gY _ _ _ h).2,h_]
def sV(most:Nat):eY Int:=gw (λu:Nat=>(u:Int)) (jS most)
def ayb{s t:UB}(a:t <:+ s)(b:s.length<=2^62):IntKind.u64.wrap (YV<|(s.length:Int)-bx s t)=(t.length:Int):=by
 have:=a.length_le
 unfold bx;rw[wr (by omega)<|by omega,IntKind.wrap_u64];omega
def ayc{t a:UB}{u:Nat}(h:uv t = .ok (u,a)):a <:+ t:=uw.mf h
def ayd{n most:Nat}{s t:UB}(g:t <:+ s)(f:s.length<=2^62)(k:most<2^63)(r:Int×Int×Int)(i:r=res 0 s (jm t)):
 (bif (!decide (r.2.2=0))then some ((0:Int),(0:Int),r.2.2) else(bif (bif (decide<|(most:Int)<0)then true else(decide<|(IntKind.u64.wrap (most:Int))<r.1))then some (0,0,2) else(bif (decide<|(IntKind.u64.wrap<|YV<|(s.length:Int)-r.2.1)<r.1)then some (0,0,6)else some ((YV r.1),r.2.1,0))))=some (res 0 s<|sV most t):=by
 subst i;unfold sV;rw[aa_];unfold jS;cases h:uv t with
 |error e=>
  rw[ako h,f9];simp only[ht<|uw.dr _ _ h,UL]
 |ok r=>
  let⟨u,d⟩:=r;have j:=(uw.gY _ _ _ h).2;have c:d <:+ s:=(ayc h).trans g;have l:=c.length_le;rw[akn h,h_];simp only[YW,UR,UK,ayb c f,qo (show most<2^64 by omega),show¬ ((most:Int)<0)by omega,UN,UP]
  by_cases a:most<u
  ·simp only[a,YW,UL,U3]
  ·by_cases b:d.length<u
   ·simp only[a,b,YW,UN,UL,UK,U3,UY]
   ·simp only[a,b,UN,UK,UY,Fe (show u<=2^63-1 by omega)]
def wn{n most:Nat}{s t:UB}(b:t <:+ s)(a:s.length<=2^62)(d:most<2^63)(c:12<=n):p' n s (bx s t) (most:Int)=some (res 0 s<|sV most t):=by
 unfold p';rw[Ff b a c,aj];exact ayd (n:=n) b a d _ rfl
def sW{most u:Nat}{t a:UB}(h:jS most t = .ok (u,a)):sV most t = .ok ((u:Int),a):=by simp only[sV,gw,h]
def uz{most:Nat}{t:UB}{e:Int}(h:jS most t = .error e):sV most t = .error e:=by simp only[sV,gw,h]
def aye{s t:UB}{u:Nat}(b:t <:+ s)(d:s.length<=2^62)(c:u<=t.length):
 YV (bx s t+(u:Int))=bx s (t.drop u)/\oY (bx s t) (bx s<|t.drop u) s.length=true/\(s.take (bx s<|t.drop u).toNat).drop (bx s t).toNat=t.take u:=by
 have f:=b.length_le;have e:bx s (t.drop u)=bx s t+(u:Int):=by unfold bx;simp;omega
 refine⟨?_,?_,?_⟩
 ·rw[e];unfold bx;rw[wr]<;>omega
 ·rw[e];unfold bx oY;simp;omega
 ·rw[e];obtain⟨a,rfl⟩:=b
  (rw[KD,show((a.length:Int)+(u:Int)).toNat=a.length+u by omega];simp only[US];rw[Ay])
  simp
def Fg{n most:Nat}{s t:UB}(b:t <:+ s)(a:s.length<=2^62)(d:most<2^63)(c:12<=n):vy n s (bx s t) (most:Int)=some (res [] s<|fH most t):=by
 unfold vy fH;rw[wn b a d c,aj];cases h:jS most t with
 |error e=>
  rw[uz h,f9];simp only[ht<|qr h,UL,f9]
 |ok r=>
  let⟨u,l⟩:=r;let⟨f,o,m⟩:=rx h;have k:l <:+ s:=oD ⟨dw u,f.symm⟩ b;let⟨j,i,g⟩:=aye k a m;rw[sW h,h_];simp only[YW,UR,UK,j,i,g,aF,h_]
def ayf{n:Nat}{s t:UB}(f:t <:+ s)(g:s.length<=2^62):
 (bif (decide<|bx s t=(s.length:Int))then some (false,(0:Int),(6:Int)) else(ao (aP (bx s t) s.length)<|bif (decide<|1<(((s.getD (bx s t).toNat 0).toNat:Nat):Int))then some (false,0,5) else(ao (aP (bx s t) s.length)<|some ((decide<|(((s.getD (bx s t).toNat 0).toNat:Nat):Int)=1),(YV<|bx s t+1),0))))=some (res false s<|ux t):=by
 obtain⟨a,rfl⟩:=f;rw[KD];cases t with
 |nil=>simp[ux,res]
 |cons c t=>
  have d:(a++c::t).getD a.length 0=c:=by
   have:=akk a (c::t) 0
   simpa using this
  have hlen:(a++c::t).length=a.length+(t.length+1):=by simp
  have e:YV ((a.length:Int)+1)=((a.length+1:Nat):Int):=cu (by omega)
  have b:bx (a++c::t) t=((a.length+1:Nat):Int):=by
   have:=KD (a++[c]) t
   simpa using this
  rw[show decide ((a.length:Int)=(((a++c::t).length:Nat):Int))=false from en (by omega)]
  simp only[UK,bW (show a.length<(a++c::t).length by omega),aF,US,d,e,fq,hM,ux]
  by_cases h:1<c.toNat
  ·simp only[h,YW,UL,U3,f9]
  ·simp only[h,UN,UK,UY,h_,b]
def ayg{n:Nat}{s t:UB}(a:t <:+ s)(b:s.length<=2^62):NL n s (bx s t)=some (res false s<|ux t):=by
 unfold NL;rw[akm a,aj,UK];exact ayf (n:=n) a b
def ayh(t:UB):om t=match jm t with|.ok (k,a)=>Fd k a|.error e=>.error e:=by
 unfold om gw ek;cases jm t with
 |error e=>rfl
 |ok r=>
  let⟨k,a⟩:=r;simp only
  cases Fd k a with
  |error e=>rfl
  |ok r=>rfl
def kh{α:Type}{D:eY α}{E:α->UB}{ok:α->Prop}(h:eB D E ok){s x:UB}{v:α}{t:UB}(a:D x = .ok (v,t))(b:x <:+ s):t <:+ s:=(h.mf a).trans b
def akq:eB (fH 64) dq (λs=>s.length<=64):=wk 64 (by omega)
def pE:eB (fH 24) dq (λs=>s.length<=24):=wk 24 (by omega)
def abb{n:Nat}{s t:UB}(i:t <:+ s)(b:s.length<=2^62)(m:70<=n):CX n s (bx s t)=some (res ⟨0,0,[]⟩ s<|om t):=by
 unfold CX;rw[Ff i b<|by omega,aj,ayh]
 cases h:jm t with
 |error e=>rw[f9];simp only[ht<|ol.dr _ _ h,UL,f9]
 |ok r=>
  let⟨k,g⟩:=r;have f:=kh ol h i;rw[h_];simp only[YW,UR,UK];unfold Fd;by_cases d:k=0
  ·subst d;rfl
  ·by_cases c:k=1
   ·subst c;simp only[show¬ (1:Int)=0 by omega,UN,UK,YW,UL,UY,U3]
    rw[aba f b<|by omega,aj,aa_]
    cases a:jR g with
    |error e=>rw[f9];simp only[ht<|mg.dr _ _ a,UL]
    |ok r=>let⟨x,j⟩:=r;rw[h_];simp only[YW,UR,UK,VR,aj]
   ·by_cases a:k=2
    ·subst a;simp only[show¬ (2:Int)=0 by omega,show¬ (2:Int)=1 by omega,UN,UK,YW,UL,UY,U3]
     rw[show(64:Int)=((64:Nat):Int)from rfl,Fg f b (by omega)<|by omega,aj]
     unfold oi gw;cases ah:fH 64 g with
     |error e=>rw[f9];simp only[show¬ e=0 from akq.dr _ _ ah,UN,UK,aj,HA,YY,UL,f9]
     |ok r=>
      let⟨x,j⟩:=r;have l:=(akq.gY _ _ _ ah).2;rw[h_];simp only[YW,UL,akc (show x.length<n by omega)<|by omega,aj,HA]
      cases kc x<;>rfl
    ·simp only[d,c,a,UN,UK,UY,f9]
def ayi{α β R:Type}{D:eY α}{s:UB}{u:Nat}{f:Nat->α->β}{L:Nat->Nat->UB->List β->Option R}{fin:List β->UB->Option R}{bad:Int->Option R}
 (mf:∀x v t,D x = .ok (v,t)->t <:+ x)
 (step:∀m i t a,i<u->a.length=i->t <:+ s->L (m+1) i t a=match D t with|.ok (v,b)=>L m (i+1) b (a++[f i v])|.error e=>bad e)
 (c:∀m t a,a.length=u->t <:+ s->L (m+1) u t a=fin a t):
 ∀k m i t a,i+k=u->k<m->a.length=i->t <:+ s->L m i t a=match hq D k t with|.ok (l,b)=>fin (a++(l.zipIdx i).map λp=>f p.2 p.1) b|.error e=>bad e:=by
 intro k;induction k with
 |zero=>
  intro m i t a o n d g;obtain⟨m,rfl⟩:∃j,m=j+1:=⟨m-1,by omega⟩
  obtain rfl:i=u:=by omega
  rw[c m t a d g];simp[hq]
 |succ k q=>
  intro m i t a o n d g;obtain⟨m,rfl⟩:∃j,m=j+1:=⟨m-1,by omega⟩
  rw[step m i t a (by omega) d g]
  unfold hq;cases h:D t with
  |error e=>rfl
  |ok r=>
   let⟨v,b⟩:=r;simp only
   rw[q m (i+1) b (a++[f i v]) (by omega) (by omega) (by simp[d])<|(mf _ _ _ h).trans g]
   cases hq D k b with
   |error e=>rfl
   |ok r=>let⟨l,w⟩:=r;simp
def akr{α R:Type}{D:eY α}{s:UB}{u:Nat}{L:Nat->Nat->UB->List α->Option R}{fin:List α->UB->Option R}{bad:Int->Option R}
 (mf:∀x v t,D x = .ok (v,t)->t <:+ x)
 (step:∀m i t a,i<u->a.length=i->t <:+ s->L (m+1) i t a=match D t with|.ok (v,c)=>L m (i+1) c (a++[v])|.error e=>bad e)
 (b:∀m t a,a.length=u->t <:+ s->L (m+1) u t a=fin a t) {m:Nat} (d:u<m) {t:UB} (g:t <:+ s):
 L m 0 t []=match hq D u t with|.ok (l,c)=>fin l c|.error e=>bad e:=by
 have:=ayi (f:=λ_ v=>v) (L:=L) mf step b u m 0 t [] (by omega) d rfl g
 rw[this];cases hq D u t with
 |error e=>rfl
 |ok r=>
  let⟨l,c⟩:=r;have e:((l.zipIdx 0).map λp:α×Nat=>p.1)=l:=by rw[List.zipIdx_map_fst]
  simp only[iK];rw[e]
def qt:∀a b:UB,(!Op.bytesLess a b)=(Op.bytesLess b a||decide (b=a))
 |[],[]=>rfl
 |[],b::y=>rfl
 |a::x,[]=>rfl
 |a::x,b::y=>by
  simp only[Op.bytesLess,qt x y,oL,nD];rcases Nat.lt_trichotomy a.toNat b.toNat with h|h|h
  ·have d:a<b:=h;have c:¬ b<a:=by show¬ b.toNat<a.toNat;omega
   have f:a≠b:=by intro e;subst e;omega
   simp[d,c,Ne.symm f]
  ·obtain rfl:a=b:=xa.1 h;simp
  ·have d:b<a:=h;have c:¬ a<b:=by show¬ a.toNat<b.toNat;omega
   have f:a≠b:=by intro e;subst e;omega
   simp[d,c,f]
def RE:∀a b c:UB,Op.bytesLess a b=true->Op.bytesLess b c=true->Op.bytesLess a c=true
 |_,[],_,h,_=>by simp[Op.bytesLess]at h
 |_,b::y,[],_,h=>by simp[Op.bytesLess]at h
 |[],b::y,c::z,_,_=>rfl
 |a::x,b::y,c::z,e,d=>by
  simp only[Op.bytesLess,mu,cb,fx,beq_iff_eq]at e d ⊢;rcases e with e|⟨rfl,e⟩
  ·rcases d with d|⟨rfl,d⟩
   ·left;show a.toNat<c.toNat;have g:a.toNat<b.toNat:=e;have f:b.toNat<c.toNat:=d;omega
   ·exact .inl e
  ·rcases d with d|⟨rfl,d⟩
   ·exact .inl d
   ·exact .inr ⟨rfl,RE x y z e d⟩
def ayj(a:UB):Op.bytesLess a a=false:=by
 have:=qt a a
 rcases h:Op.bytesLess a a with _|_
 ·rfl
 ·rw[h]at this;simp at this
def iT{β:Type}{c k:Bool}{x y:β}(h:c = !k):(bif c then x else y)=if k then y else x:=by subst h;cases k<;>rfl
def mh{i len:Nat}{b:Bool}(hi:i<len)(a:len<=2^63-1):(b||(!(decide<|0<(i:Int))||aP (YV<|(i:Int)-1) len))=true:=by
 cases i with
 |zero=>simp
 |succ i=>
  rw[show((i+1:Nat):Int)-1=(i:Int)by omega,Fe<|by omega,bW<|by omega];simp
def A4{i len:Nat}{b c:Bool}(hi:i<len):(b||(c||aP (i:Int) len))=true:=by rw[bW hi];simp
def ayk{i len:Nat}{b:Bool}(hi:i<len):(b||aP (i:Int) len)=true:=by rw[bW hi];simp
def allI(len:Nat)(U2:Nat->Bool):Bool:=(List.range len).all U2
def hN{len:Nat}{U2:Nat->Bool}:allI len U2=true↔∀i,i<len->U2 i=true:=by
 unfold allI;simp
def mi(b:Bool):(if b then true else false)=b:=by cases b<;>rfl
def sX(b c:Bool):(if b then c else false)=(b&&c):=by cases b<;>rfl
def iA{β:Type}{L:Nat->Int->Option β}{len:Nat}{U2:Nat->Bool}{no yes:β}{m:Nat}(b:len<m)
 (step:∀m i,i<len->L (m+1) (i:Int)=if U2 i then L m ((i+1:Nat):Int)else some no) (a:∀m,L (m+1) (len:Int)=some yes):
 L m 0=some (if allI len U2 then yes else no):=aa2 b step a
abbrev pv(i:Nat):Nat:=(YV<|(i:Int)-1).toNat
def A5(i:Nat)(h:i<=2^63-1):pv (i+1)=i:=by
 unfold pv;(rw[show((i+1:Nat):Int)-1=(i:Int)by omega,Fe<|by omega];simp only[US])
def ayl(len:Nat)(a b:Nat->Bool):(allI len λi=>a i&&b i)=(allI len a&&allI len b):=by
 rw[yQ];simp only[hN,cb];exact⟨λh=>⟨λi c=>(h i c).1,λi c=>(h i c).2⟩,λh i c=>⟨h.1 i c,h.2 i c⟩⟩
def aym{L:Nat->Int->YX}{len:Nat}{p:Nat->Bool}
 (step:∀m i,i<len->L (m+1) (i:Int)=if p i then some (i:Int)else L m ((i+1:Nat):Int)) (a:∀m,L (m+1) (len:Int)=some (-1)):
 ∀m i,len<i+m->i<=len->∃r,L m (i:Int)=some r/\decide (0<=r)=(List.range' i<|len-i).any p:=by
 intro m;induction m with
 |zero=>intro i h c;omega
 |succ m f=>
  intro i h c;by_cases b:i<len
  ·rw[step m i b,show len-i=(len-(i+1))+1 by omega,vo,List.any_cons]
   cases hp:p i
   ·let⟨r,e,d⟩:=f (i+1) (by omega) (by omega)
    exact⟨r,by rw[de<|by simp];exact e,by rw[d];simp⟩
   ·exact⟨(i:Int),by simp,by simp⟩
  ·obtain rfl:i=len:=by omega
   exact⟨-1,a m,by simp⟩
def abc{L:Nat->Int->YX}{len:Nat}{p:Nat->Bool}{m:Nat}(d:len<m)
 (step:∀m i,i<len->L (m+1) (i:Int)=if p i then some (i:Int)else L m ((i+1:Nat):Int)) (a:∀m,L (m+1) (len:Int)=some (-1)):
 ∃r,L m 0=some r/\decide (0<=r) = !allI len λi=>!p i:=by
 let⟨r,c,b⟩:=aym step a m 0 (by omega) (by omega)
 refine⟨r,c,?_⟩
 rw[b,pN,<-sd];unfold allI;rw[List.not_all_eq_any_not];simp
section
variable {n:Nat} (c:2000<=n) (d:n<=2^63)
include c d
def rz(l:List aQ):Bool:=allI l.length λi=>fY (l.getD i default).Key&&gS (l.getD i default).aY&&(!decide (0<(i:Int))||Op.bytesLess (l.getD (pv i) default).Key (l.getD i default).Key)
def mj(l:List aQ):Bool:=rz l&&allI l.length λi=>!decide ((l.getD i default).aY.Cc=0)
def oV(n:Nat)(p:aQ):Prop:=p.Key.length<n/\p.aY.S.length<n
theorem ayn{l:List aQ}(e:l.length<n)(h:∀i,oV n<|l.getD i default):NB n l=some (rz l):=by
 unfold NB rz;rw[iA (L:=CV n l) (no:=false) (yes:=true) e,mi]
 ·intro m i a;have b:=h i;simp only[CV,NA,UP,a,YW,UL,bW a,aF,aj,US,cu (show i<=2^63-2 by omega),Ky (show 24<n by omega),mh a (show l.length<=2^63-1 by omega)]
  rw[show sh n ⟨((l.getD i default).aY).Cc,((l.getD i default).aY).N,((l.getD i default).aY).S⟩=_ from KA (v:=(l.getD i default).aY) (by have:=b.2;omega) (by have:=b.2;omega)]
  cases hk:fY (l.getD i default).Key
  ·simp only[YY,UR,UK,UL,aj,kI,aF,jH];rfl
  ·simp only[YY,UR,UK,UL,aj,mh a (show l.length<=2^63-1 by omega),aF,iP]
   exact iT (by simp only[dU,ew,nD,oL,lb])
 ·intro m;simp only[CV,NA,VQ,UZ,UN,UK]
theorem aks{l:List aQ}(b:l.length<n)(h:∀i,oV n<|l.getD i default):Hw n l=some (mj l):=by
 unfold Hw VP VO mj;rw[ayn c d b h,aj]
 let⟨r,f,e⟩:=abc (L:=CU n l) (len:=l.length) (p:=λi=>decide<|(l.getD i default).aY.Cc=0) b (by
  intro m i a;simp only[CU,Nz,VM,UP,a,YW,UL,bW a,aF,aj,US,cu (show i<=2^63-2 by omega),aEj,U3]) (by
  intro m;simp only[CU,Nz,VN,UZ,UN,UK])
 rw[f];simp only[aj,e];cases rz l<;>simp
theorem ayo{l:List aQ}(g:l.length<n)(h:∀i,oV n<|l.getD i default):OU n l=some (mj l):=by
 have k:DB n l=some (allI l.length λi=>fY (l.getD i default).Key&&(!decide (0<(i:Int))||Op.bytesLess (l.getD (pv i) default).Key (l.getD i default).Key)):=by
  unfold DB;rw[iA (L:=vJ n l) (no:=false) (yes:=true) g,mi]
  ·intro m i e;have f:=h i;simp only[vJ,DA,UP,e,YW,UL,bW e,aF,aj,US,cu (show i<=2^63-2 by omega),Kz (show(l.getD i default).Key.length<n by have:=f.1;omega) (by have:=f.1;omega),A4 e,mh e (show l.length<=2^63-1 by omega),U4]
   exact iT (by simp only[dU,ew,nD,oL,lb,<-qt])
  ·intro m;simp only[vJ,DA,OR,UZ,UN,UK]
 have j:xm n l=some ((allI l.length λi=>gS (l.getD i default).aY)&&allI l.length λi=>fY (l.getD i default).Key&&(!decide (0<(i:Int))||Op.bytesLess (l.getD (pv i) default).Key (l.getD i default).Key)):=by
  unfold xm;rw[iA (L:=vK n l) (U2:=λi=>gS (l.getD i default).aY) (no:=false) (yes:=allI l.length λi=>fY (l.getD i default).Key&&(!decide (0<(i:Int))||Op.bytesLess (l.getD (pv i) default).Key (l.getD i default).Key)) g,sX]
  ·intro m i e;have f:=h i;simp only[vK,DC,UP,e,YW,UL,bW e,aF,aj,US,cu (show i<=2^63-2 by omega),KB (show(l.getD i default).aY.S.length<n by have:=f.2;omega) (by have:=f.2;omega)]
   exact iT rfl
  ·intro m;simp only[vK,DC,OS,UZ,UN,UK,k,aj]
 unfold OU;rw[iA (L:=DD n l) (U2:=λi=>!decide ((l.getD i default).aY.Cc=0)) (no:=false) (yes:=(allI l.length λi=>gS (l.getD i default).aY)&&allI l.length λi=>fY (l.getD i default).Key&&(!decide (0<(i:Int))||Op.bytesLess (l.getD (pv i) default).Key (l.getD i default).Key)) g,sX]
 ·unfold mj rz;simp only[ayl]
  congr 1
  generalize (allI l.length λi=>fY (l.getD i default).Key)=a
  generalize (allI l.length λi=>gS (l.getD i default).aY)=b
  cases a<;>cases b<;>simp[Bool.and_comm]
 ·intro m i e;simp only[DD,OT,UP,e,YW,UL,bW e,aF,aj,US,cu (show i<=2^63-2 by omega)]
  exact iT (by simp)
 ·intro m;simp only[DD,OT,W5,UZ,UN,UK,j,aj]
def uA(l:List be):Bool:=(allI l.length λi=>fY (l.getD i default).Key && !decide ((l.getD i default).Count<1) && !decide (1099511627776<(l.getD i default).Count)&&(!decide (0<(i:Int))||Op.bytesLess (l.getD (pv i) default).Key (l.getD i default).Key))&&decide ((l.length:Int)<=32)
theorem ayp{l:List be}(b:l.length<n):Oo n l=some (uA l):=by
 unfold Oo uA;rw[iA (L:=Dm n l) (no:=false) (yes:=decide<|(l.length:Int)<=32) b,sX]
 ·intro m i a;simp only[Dm,On,UP,a,YW,UL,bW a,aF,aj,US,cu (show i<=2^63-2 by omega),Ky (show 24<n by omega),mh a (show l.length<=2^63-1 by omega)]
  exact iT (by simp only[dU,ew,nD,oL,lb])
 ·intro m;simp only[Dm,On,WE,UZ,UN,UK]
theorem ayq{l:List be}(b:l.length<n)(h:∀i,(l.getD i default).Key.length<n):Pr n l=some (uA l):=by
 unfold Pr uA;rw[iA (L:=DW n l) (no:=false) (yes:=decide<|(l.length:Int)<=32) b,sX]
 ·intro m i a;have e:=h i;simp only[DW,Pq,UP,a,YW,UL,bW a,aF,aj,US,cu (show i<=2^63-2 by omega),Kz (show(l.getD i default).Key.length<n by omega)<|by omega,A4 a,ayk a,mh a (show l.length<=2^63-1 by omega),U4]
  exact iT (by simp only[dU,ew,nD,oL,lb,<-qt])
 ·intro m;simp only[DW,Pq,XJ,UZ,UN,UK]
def sY(l:List UB):Bool:=(allI l.length λi=>fY (l.getD i default)&&(!decide (0<(i:Int))||Op.bytesLess (l.getD (pv i) default) (l.getD i default)))
theorem akt{l:List UB}(b:l.length<n):GV n l=some (sY l&&decide ((l.length:Int)<=64)):=by
 unfold GV sY;rw[iA (L:=Cs n l) (no:=false) (yes:=decide<|(l.length:Int)<=64) b,sX]
 ·intro m i a;simp only[Cs,MI,UP,a,YW,UL,bW a,aF,aj,US,cu (show i<=2^63-2 by omega),Ky (show 24<n by omega),mh a (show l.length<=2^63-1 by omega)]
  exact iT (by simp only[dU,ew,nD,oL,lb,<-qt])
 ·intro m;simp only[Cs,MI,aD_,UZ,UN,UK]
theorem aku{l:List UB}(b:l.length<n)(h:∀i,(l.getD i default).length<n):IV n l=some (sY l):=by
 unfold IV sY;rw[iA (L:=D7 n l) (no:=false) (yes:=true) b,mi]
 ·intro m i a;have e:=h i;simp only[D7,PX,UP,a,YW,UL,bW a,aF,aj,US,cu (show i<=2^63-2 by omega),Kz (show(l.getD i default).length<n by omega)<|by omega,A4 a,mh a (show l.length<=2^63-1 by omega),U4]
  exact iT (by simp only[dU,ew,nD,oL,lb])
 ·intro m;simp only[D7,PX,Yy,UZ,UN,UK]
def uB(f:hQ):Bool:=bif f.fl then decide (f.Reads.length=0)&&decide (f.cp.length=0) else(sY f.Reads&&decide (f.Reads.length<=64))&&(sY f.cp&&decide (f.cp.length<=64))
theorem ayr{f:hQ}(b:f.Reads.length<n)(a:f.cp.length<n):GW n f=some (uB f):=by
 unfold GW uB;rw[akt c d b,akt c d a];simp only[aj,hM,mH,ew];cases f.fl
 ·simp only[UK];cases sY f.Reads&&decide (f.Reads.length<=64)<;>rfl
 ·rfl
theorem ays{f:hQ}(b:f.Reads.length<n)(a:f.cp.length<n)(g:∀i,(f.Reads.getD i default).length<n)(e:∀i,(f.cp.getD i default).length<n):IW n f=some (uB f):=by
 unfold IW uB;rw[aku c d b g,aku c d a e];simp only[hM,mH,ew];cases f.fl
 ·simp only[UK];cases decide (f.Reads.length<=64)<;>cases decide (f.cp.length<=64)<;>cases sY f.Reads<;>cases sY f.cp<;>rfl
 ·rfl
end
def qu(c b:Bool):(bif c then some b else some default)=some (c&&b):=by cases c<;>rfl
def akv{l:Nat}{b:Bool}:(b||decide (l<1)||decide (16<l)||aP 0 l)=true:=by
 by_cases h:l<1
 ·rw[fp h];simp
 ·rw[ql<|by omega];simp
def akw{α:Type}(l:List α)(d:α){i k:Nat}(h:k<i):(l.take i).getD k d=l.getD k d:=by
 simp[ie,ix,h]
section
variable {n:Nat} (a:2000<=n) (d:n<=2^63)
include a d
def rA(l:List bJ):Bool:=allI l.length λi=>gS (l.getD i default) && !decide ((l.getD i default).Cc=0)
def rB(r:BE):Int:=
 bif (((decide (r.Et<1)||decide (32<r.Et))||decide (r.Seq<1))||decide (1099511627776<r.Seq))then 1 else
 bif !hl r.bk then 7 else
 bif decide (6<r.ax.length)then 2 else
 bif !rA r.ax then 1 else
 bif ((!uB r.bM||r.bM.fl)||(!r.eV&&decide (0<r.bM.Reads.length+r.bM.cp.length)))then 1 else 0
structure uC(n:Nat)(r:BE):Prop where
 proc:r.bk.length<=1000
 args:r.ax.length<n
 U8:∀i,(r.ax.getD i default).S.length<n
 KE:r.bM.Reads.length<n
 KF:r.bM.cp.length<n
 nf:r.bM.Reads.length<=1000000
 wl:r.bM.cp.length<=1000000
 rd:∀i,(r.bM.Reads.getD i default).length<n
 wr:∀i,(r.bM.cp.getD i default).length<n
theorem RF{r:BE}(h:uC n r):p5 n r=some (rB r):=by
 have q:=h.proc;have j:=h.args
 let⟨c,l,e⟩:=abc (L:=Ct n r.ax) (len:=r.ax.length) (p:=λi=>!(gS (r.ax.getD i default) && !decide ((r.ax.getD i default).Cc=0))) j (by
  intro m i b;have:=h.U8 i
  simp only[Ct,MJ,aEh,UP,b,YW,UL,bW b,aF,US,cu (show i<=2^63-2 by omega),KA (show(r.ax.getD i default).S.length<n by omega)<|by omega,qu,aj]
  cases gS (r.ax.getD i default)<;>cases decide ((r.ax.getD i default).Cc=0)<;>rfl) (by
  intro m;simp only[Ct,MJ,aEg,UZ,UN,UK])
 have k:(allI r.ax.length λi=>!!(gS (r.ax.getD i default) && !decide ((r.ax.getD i default).Cc=0)))=rA r.ax:=by simp only[lb];rfl
 rw[k]at e;unfold p5 aEb aEu rB;rw[EN n _<|by omega,l,show GW n ⟨r.bM.fl,r.bM.Reads,r.bM.cp⟩=_ from ayr a d (f:=r.bM) h.KE h.KF]
 have t:=h.KE;have s:=h.KF;have u:=h.nf;have o:=h.wl;have g:YV ((r.bM.Reads.length:Int)+(r.bM.cp.length:Int))=((r.bM.Reads.length+r.bM.cp.length:Nat):Int):=by rw[wr]<;>omega
 simp only[aj,e,g,dU,ew,fq];cases ((decide (r.Et<1)||decide (32<r.Et))||decide (r.Seq<1))||decide (1099511627776<r.Seq)<;>cases hl r.bk<;>cases decide (6<r.ax.length)<;>cases rA r.ax<;>cases ((!uB r.bM||r.bM.fl)||(!r.eV&&decide (0<r.bM.Reads.length+r.bM.cp.length)))<;>rfl
theorem akx{r:BE}(h:uC n r):t' n r=some (rB r):=by
 have k:=h.proc;have e:=h.args;have o:=h.KE;have l:=h.KF;have p:=h.nf;have j:=h.wl;have c:YV ((r.bM.Reads.length:Int)+(r.bM.cp.length:Int))=((r.bM.Reads.length+r.bM.cp.length:Nat):Int):=by rw[wr]<;>omega
 have g:Ao n r n 0=some (if rA r.ax then(bif ((!uB r.bM||r.bM.fl)||(!r.eV&&decide (0<r.bM.Reads.length+r.bM.cp.length)))then 1 else 0)else 1):=by
  refine iA (L:=Ao n r) e ?_ ?_
  ·intro m i b;have:=h.U8 i
   simp only[Ao,PY,UP,b,YW,UL,bW b,aF,US,cu (show i<=2^63-2 by omega),KB (show(r.ax.getD i default).S.length<n by omega)<|by omega,aj,U4]
   exact iT (by simp only[dU,ew,nD,oL,lb])
  ·intro m;simp only[Ao,PY,Yz,UZ,UN,UK];rw[show IW n ⟨r.bM.fl,r.bM.Reads,r.bM.cp⟩=_ from ays a d (f:=r.bM) h.KE h.KF h.rd h.wr]
   simp only[aj,c,dU,ew,fq];cases ((!uB r.bM||r.bM.fl)||(!r.eV&&decide (0<r.bM.Reads.length+r.bM.cp.length)))<;>rfl
 unfold t' rB;rw[J4 _ (by omega) (by omega)<|by omega,g]
 simp only[aj,dU,ew,fq];cases ((decide (r.Et<1)||decide (32<r.Et))||decide (r.Seq<1))||decide (1099511627776<r.Seq)<;>cases hl r.bk<;>cases decide (6<r.ax.length)<;>cases rA r.ax<;>rfl
def x5(c:UInt8):Bool:=!(decide (c.toNat<33)||decide (126<c.toNat))
def jn(s:UB):Bool:=(allI s.length λi=>x5<|s.getD i 0)&&decide (s.length<=24)
theorem aky{s:UB}(c:s.length<n):HB n s=some (jn s):=by
 unfold HB jn;rw[iA (L:=CZ n s) (no:=false) (yes:=decide<|s.length<=24) c,sX]
 ·intro m i b;simp only[CZ,NF,UP,b,YW,UL,bW b,aF,US,cu (show i<=2^63-2 by omega),U4,uf,fq]
  exact iT (by simp only[dU,x5,lb])
 ·intro m;simp only[CZ,NF,VT,UZ,UN,UK,mH]
theorem akz{s:UB}(c:s.length<n):IC n s=some (jn s):=by
 unfold IC jn;rw[iA (L:=DU n s) (U2:=λi=>x5<|s.getD i 0) (no:=false) (yes:=true) c,mi]
 ·simp only[fq];by_cases h:s.length<=24
  ·simp only[h,show¬ 24<s.length by omega,YW,UN,UK,oP]
  ·simp only[h,show 24<s.length by omega,YW,UN,UL,kL]
 ·intro m i b;simp only[DU,Pl,UP,b,YW,UL,bW b,aF,US,cu (show i<=2^63-2 by omega),U4,uf,fq]
  exact iT (by simp only[dU,x5,lb])
 ·intro m;simp only[DU,Pl,XG,UZ,UN,UK]
def uD(n:Int):Bool:=decide (1<=n)&&decide (n<=16)
def abd(n:Int):Bool:=decide (1<=n)&&decide (n<=1099511627776)
def uE(l:List BX)(i:Nat):Bool:=
 let x:=l.getD i default
 bif decide (x.f0=0)then decide (x.dO=[]) else((((uD x.f0 && !decide (x.f0=x.Node))&&jn x.dO) && !Op.bytesLess x.dO x.ee)&&(decide (i+1=l.length)||Op.bytesLess x.dO (l.getD (i+1) default).ee))
def x6(l:List BX)(i:Nat):Bool:=
 let x:=l.getD i default
 (!decide (0<(i:Int))||(jn x.ee&&Op.bytesLess (l.getD (pv i) default).ee x.ee))&&(((abd x.Id&&uD x.Node)&&uE l i)&&allI i λk=>!decide ((l.getD k default).Id=x.Id))
def oW(p:dv):Bool:=!((((decide (p.Br<0)||decide (1099511627776<p.Br))||decide (p.aI.length<1))||decide (16<p.aI.length)) || !decide ((p.aI.getD 0 default).ee=[]))&&allI p.aI.length (x6 p.aI)
def uF(n:Nat)(x:BX):Prop:=x.ee.length<n/\x.dO.length<n
theorem ayu{l:List BX}(c:l.length<n){i:Nat}(hi:i<l.length)(h:∀i,uF n<|l.getD i default):NH n l (i:Int)=some (uE l i):=by
 unfold NH HC uE;have b:=(h i).2
 (rw[bW hi,aF];simp only[US];rw[aky a d<|by omega,cu<|by omega])
 simp only[aj,ew,dU,qu,uc,show(decide (1<=(l.getD i default).f0)&&decide ((l.getD i default).f0<=16))=uD (l.getD i default).f0 from rfl]
 cases decide ((l.getD i default).f0=0)
 ·simp only[UK];by_cases e:i+1=l.length
  ·simp only[e,YW,kI,U4,aF];cases uD (l.getD i default).f0<;>cases decide ((l.getD i default).f0=(l.getD i default).Node)<;>rfl
  ·rw[bW (show i+1<l.length by omega)]
   simp only[e,US,UN,jJ,U4,aF];cases uD (l.getD i default).f0<;>cases decide ((l.getD i default).f0=(l.getD i default).Node)<;>rfl
 ·rfl
theorem akA{p:dv}(l:p.aI.length<n)(h:∀i,uF n<|p.aI.getD i default):HD n p=some (oW p):=by
 have u:zA n p n 0=some (allI p.aI.length<|x6 p.aI):=by
  rw[iA (L:=zA n p) (U2:=x6 p.aI) (no:=false) (yes:=true) l,mi]
  ·intro m i f;have q:=h i;have x:=q.1;have w:(p.aI.take i).length<n:=by simp;omega
   let⟨c,t,j⟩:=abc (L:=C0 n (p.aI.take i) (p.aI.getD i default).Id) (len:=(p.aI.take i).length) (p:=λk=>decide<|((p.aI.take i).getD k default).Id=(p.aI.getD i default).Id) w (by
    intro m k e;have o:k<=9223372036854775806:=by omega
    simp only[C0,NG,VU,UP,e,YW,UL,bW e,aF,aj,US,cu o];cases decide (((p.aI.take i).getD k default).Id=(p.aI.getD i default).Id)<;>rfl) (by
    intro m;simp only[C0,NG,VV,UZ,UN,UK])
   have s:(allI (p.aI.take i).length λk=>!decide (((p.aI.take i).getD k default).Id=(p.aI.getD i default).Id))=allI i λk=>!decide ((p.aI.getD k default).Id=(p.aI.getD i default).Id):=by
    rw[show(p.aI.take i).length=i by simp;omega,yQ,hN,hN]
    constructor
    ·intro g k e;have:=g k e;rwa [akw _ _ e]at this
    ·intro g k e;have:=g k e;rwa [akw _ _ e]
   rw[s]at j;simp only[zA,NI,VX,VW,VY,HC,UP,f,YW,UL,bW f,aF,aj,US,cu (show i<=2^63-2 by omega),aky a d (show(p.aI.getD i default).ee.length<n by omega),qu,t,ayu a d l f h,AM<|Nat.le_of_lt f,U4]
   have r:(!decide (0<(i:Int))||(!(decide (0<(i:Int))&&jn (p.aI.getD i default).ee)||aP (YV<|(i:Int)-1) p.aI.length))=true:=by
    have:=mh (b:=!(decide (0<(i:Int))&&jn (p.aI.getD i default).ee)) f (show p.aI.length<=2^63-1 by omega)
    rw[<-this];cases decide (0<(i:Int))<;>simp
   simp only[r,aF,<-qt,dU,ew];unfold x6 abd uD;simp only
   cases hd:decide (0<(i:Int))
   ·simp only[jH,UK,YY,kI,iP];cases (decide (1<=(p.aI.getD i default).Id)&&decide ((p.aI.getD i default).Id<=1099511627776))
    ·rfl
    ·cases (decide (1<=(p.aI.getD i default).Node)&&decide ((p.aI.getD i default).Node<=16))
     ·rfl
     ·cases uE p.aI i
      ·rfl
      ·simp only[UR,si,YY,UL,aj,j,jJ,iP];exact iT rfl
   ·simp only[iP,UL,UR,jJ];cases jn (p.aI.getD i default).ee
    ·rfl
    ·cases Op.bytesLess (p.aI.getD (pv i) default).ee (p.aI.getD i default).ee
     ·rfl
     ·cases (decide (1<=(p.aI.getD i default).Id)&&decide ((p.aI.getD i default).Id<=1099511627776))
      ·rfl
      ·cases (decide (1<=(p.aI.getD i default).Node)&&decide ((p.aI.getD i default).Node<=16))
       ·rfl
       ·cases uE p.aI i
        ·rfl
        ·simp only[UR,si,YY,UL,UK,aj,j,jJ,iP];exact iT rfl
  ·intro m;simp only[zA,NI,VZ,UZ,UN,UK]
 unfold HD oW;rw[u];simp only[dU,uf,fq,akv,aF];cases (((decide (p.Br<0)||decide (1099511627776<p.Br))||decide (p.aI.length<1))||decide (16<p.aI.length)) || !decide ((p.aI.getD 0 default).ee=[])<;>rfl
end
def ayv{β:Type}{L:Nat->Int->Option β}{len:Nat}{U2:Nat->Bool}{no:β}{yes:Option β}
 (step:∀m i,i<len->L (m+1) (i:Int)=if U2 i then L m ((i+1:Nat):Int)else some no) (a:∀m,L (m+1) (len:Int)=yes):
 ∀m i,len<i+m->i<=len->L m (i:Int)=if(List.range' i<|len-i).all U2 then yes else some no:=by
 intro m;induction m with
 |zero=>intro i h c;omega
 |succ m d=>
  intro i h c;by_cases b:i<len
  ·rw[step m i b,d (i+1) (by omega)<|by omega,show len-i=(len-(i+1))+1 by omega,vo,ny]
   cases U2 i
   ·rfl
   ·rw[eI rfl,iP]
  ·obtain rfl:i=len:=by omega
   rw[a m];simp
def akB{β:Type}{L:Nat->Int->Option β}{len:Nat}{U2:Nat->Bool}{no:β}{yes:Option β}{m:Nat}(b:len<m)
 (step:∀m i,i<len->L (m+1) (i:Int)=if U2 i then L m ((i+1:Nat):Int)else some no) (a:∀m,L (m+1) (len:Int)=yes):
 L m 0=if allI len U2 then yes else some no:=by
 have:=ayv step a m 0 (by omega) (by omega)
 rwa [pN,<-sd]at this
section
variable {n:Nat} (a:2000<=n) (b:n<=2^63)
include a b
theorem ayw{l:List BX}{i:Nat}(hi:i<l.length)(h:∀i,uF n<|l.getD i default)(d:UB)(c:i+1<l.length->d=(l.getD (i+1) default).ee):
 Pm n (l.getD i default) d (decide<|((i+1:Nat):Int)=(l.length:Int))=some (uE l i):=by
 unfold Pm uE;have f:=(h i).2;rw[akz a b<|by omega]
 simp only[qu,aj,ew,dU,uc,show(decide (1<=(l.getD i default).f0)&&decide ((l.getD i default).f0<=16))=uD (l.getD i default).f0 from rfl]
 cases decide ((l.getD i default).f0=0)
 ·simp only[UK];by_cases e:i+1=l.length
  ·simp only[e,YW,kI];cases uD (l.getD i default).f0<;>cases decide ((l.getD i default).f0=(l.getD i default).Node)<;>cases jn (l.getD i default).dO<;>rfl
  ·rw[c<|by omega]
   simp only[e,UN,jJ];cases uD (l.getD i default).f0<;>cases decide ((l.getD i default).f0=(l.getD i default).Node)<;>cases jn (l.getD i default).dO<;>rfl
 ·rfl
theorem akC{p:dv}(y:p.aI.length<n)(h:∀i,uF n<|p.aI.getD i default)(q:(p.aI.getD 0 default).ee=[])(c:Int->UM){i:Nat}(hi:i<p.aI.length)(f:UB)(d:i+1<p.aI.length->f=(p.aI.getD (i+1) default).ee):
 ID n c p (i:Int) f=if x6 p.aI i then c ((i+1:Nat):Int)else some false:=by
 have x:=(h i).1
 have j:Ah n c p (i:Int) n 0=if(allI i λk=>!decide ((p.aI.getD k default).Id=(p.aI.getD i default).Id))then c ((i+1:Nat):Int)else some false:=by
  refine akB (L:=Ah n c p (i:Int)) (by omega) ?_ ?_
  ·intro m k o;have l:k<p.aI.length:=by omega
   simp only[Ah,Pn,UP,o,YW,UL,bW l,aF,US,cu (show k<=2^63-2 by omega)]
   exact iT (by rw[lb])
  ·intro m;simp only[Ah,Pn,XI,UZ,UN,UK,cu (show i<=2^63-2 by omega)]
 unfold ID
 (simp only[US];rw[akz a b<|by omega,aj,mh hi<|by omega,aF,cu<|by omega,ayw a b hi h f d,qu,aj,j])
 simp only[dU,ew,<-qt];unfold x6 abd uD;simp only
 have r:(decide<|0<(i:Int))=false->jn (p.aI.getD i default).ee=true:=by
  intro e;obtain rfl:i=0:=by have:=oU e;omega
  rw[q];rfl
 have w:decide ((p.aI.getD i default).Id<1) = !decide (1<=(p.aI.getD i default).Id):=by
  by_cases g:(p.aI.getD i default).Id<1
  ·rw[fp g,en<|by omega];rfl
  ·rw[en g,fp<|by omega];rfl
 have u:decide (1099511627776<(p.aI.getD i default).Id) = !decide ((p.aI.getD i default).Id<=1099511627776):=by
  by_cases g:(1099511627776<(p.aI.getD i default).Id)
  ·rw[fp g,en<|by omega];rfl
  ·rw[en g,fp<|by omega];rfl
 have t:decide ((p.aI.getD i default).Node<1) = !decide (1<=(p.aI.getD i default).Node):=by
  by_cases g:(p.aI.getD i default).Node<1
  ·rw[fp g,en<|by omega];rfl
  ·rw[en g,fp<|by omega];rfl
 have s:decide (16<(p.aI.getD i default).Node) = !decide ((p.aI.getD i default).Node<=16):=by
  by_cases g:(16<(p.aI.getD i default).Node)
  ·rw[fp g,en<|by omega];rfl
  ·rw[en g,fp<|by omega];rfl
 rw[w,u,t,s,<-aEj,<-aEj];generalize (allI i λk=>!decide ((p.aI.getD k default).Id=(p.aI.getD i default).Id))=z
 cases hd:decide (0<(i:Int))
 ·rw[r hd];cases decide (1<=(p.aI.getD i default).Id)<;>cases decide ((p.aI.getD i default).Id<=1099511627776)<;>cases decide (1<=(p.aI.getD i default).Node)<;>cases decide ((p.aI.getD i default).Node<=16)<;>cases uE p.aI i<;>cases z<;>rfl
 ·cases jn (p.aI.getD i default).ee<;>cases Op.bytesLess (p.aI.getD (pv i) default).ee (p.aI.getD i default).ee<;>cases decide (1<=(p.aI.getD i default).Id)<;>cases decide ((p.aI.getD i default).Id<=1099511627776)<;>cases decide (1<=(p.aI.getD i default).Node)<;>cases decide ((p.aI.getD i default).Node<=16)<;>cases uE p.aI i<;>cases z<;>rfl
theorem ayx{p:dv}(f:p.aI.length<n)(h:∀i,uF n<|p.aI.getD i default):Pp n p=some (oW p):=by
 unfold Pp oW;simp only[dU,uf,fq,akv,aF];cases h0:(((decide (p.Br<0)||decide (1099511627776<p.Br))||decide (p.aI.length<1))||decide (16<p.aI.length)) || !decide ((p.aI.getD 0 default).ee=[])
 ·have c:(p.aI.getD 0 default).ee=[]:=by
   simp only[lG,rX,fx]at h0;exact h0.2
  rw[UK];rw[iA (L:=DV n p) (U2:=x6 p.aI) (no:=false) (yes:=true) f,mi]
  ·rfl
  ·intro m i d;simp only[DV,Po,UP,d,YW,UL,bW d,aF,cu (show i<=2^63-2 by omega)]
   by_cases e:i+1<p.aI.length
   ·rw[bW e];simp only[e,YW,UL,aF,US];exact akC a b f h c _ d _<|λ_=>rfl
   ·simp only[e,UN,UK];exact akC a b f h c _ d _<|λg=>absurd g e
  ·intro m;simp only[DV,Po,XH,UZ,UN,UK]
 ·rfl
def x7(o:Bt):Bool:=bif decide (o.Status=1) then(decide (o.Code=0)&&decide (o.Out.length<=16))&&rA o.Out else((decide (o.Status=2)&&decide (0<=o.Code))&&decide (o.Code<=1009))&&decide (o.Out.length=0)
structure A6(n:Nat)(o:Bt):Prop where
 out:o.Out.length<n
 U8:∀i,(o.Out.getD i default).S.length<n
theorem ayy{o:Bt}(h:A6 n o):Ho n o=some (x7 o):=by
 have d:=h.out
 have e:zu n o n 0=some (rA o.Out):=by
  rw[iA (L:=zu n o) (no:=false) (yes:=true) d,mi]
  ·rfl
  ·intro m i c;have:=h.U8 i
   simp only[zu,Nk,UP,c,YW,UL,bW c,aF,US,cu (show i<=2^63-2 by omega),KA (show(o.Out.getD i default).S.length<n by omega)<|by omega,aj]
   exact iT (by simp only[dU,nD,lb])
  ·intro m;simp only[zu,Nk,VD,UZ,UN,UK]
 unfold Ho VC x7;rw[e];simp only[dU,ew,fq,hM];cases decide (o.Status=1)
 ·simp only[UK];cases decide (o.Status=2)<;>rfl
 ·simp only[UL];by_cases g:o.Out.length<=16
  ·simp only[show¬ 16<o.Out.length by omega,g,YW,UN]
   cases decide (o.Code=0)<;>rfl
  ·simp only[show 16<o.Out.length by omega,g,YW,UN,U4,UL,kL,jH]
theorem ayz{o:Bt}(h:A6 n o):IE n o=some (x7 o):=by
 have d:=h.out
 have e:Ai n o.Out n 0=some (rA o.Out&&decide (o.Out.length<=16)):=by
  rw[iA (L:=Ai n o.Out) (U2:=λi=>gS (o.Out.getD i default) && !decide ((o.Out.getD i default).Cc=0)) (no:=false) (yes:=decide<|o.Out.length<=16) d,sX]
  ·rfl
  ·intro m i c;have:=h.U8 i
   simp only[Ai,Ps,UP,c,YW,UL,bW c,aF,US,cu (show i<=2^63-2 by omega),KB (show(o.Out.getD i default).S.length<n by omega)<|by omega,aj,U4]
   exact iT (by simp only[dU,nD,lb])
  ·intro m;simp only[Ai,Ps,XK,UZ,UN,UK,mH]
 unfold IE XL x7;rw[e,qu,aj];simp only[ew,hM];cases decide (o.Status=1)
 ·rfl
 ·simp only[UL];cases decide (o.Code=0)<;>cases decide (o.Out.length<=16)<;>cases rA o.Out<;>rfl
def lI(fj:Int):Int:=bif (decide<|(YV<|fj-1)<8) then(YV<|fj-1)else 8
def A7(s:b3):Bool:=((decide (s.Et<1)||decide (32<s.Et))||decide (s.Next<1))||decide (1099511627776<s.Next)
omit a b in
theorem abe{s:b3}(h:A7 s=false):1<=s.Et/\s.Et<=32/\1<=s.Next/\s.Next<=1099511627776:=by
 simp only[A7,lG,iv]at h;omega
def Fh(s:b3)(i:Nat):Bool:=(decide ((s.ce.getD i default).Et=s.Et)&&decide ((s.ce.getD i default).Seq=s.Next-(s.ce.length:Int)+(i:Int)))&&x7 (s.ce.getD i default).Bt
def A8(s:b3):Bool:=(!A7 s&&decide ((s.ce.length:Int)=lI s.Next))&&allI s.ce.length (Fh s)
structure sZ(n:Nat)(s:b3):Prop where
 rep:s.ce.length<n
 out:∀i,A6 n (s.ce.getD i default).Bt
theorem ayA{s:b3}(h:sZ n s):Nn n s=some (A8 s):=by
 have d:=h.rep;unfold Nn Hn A8;simp only[dU];rw[show(((decide (s.Et<1)||decide (32<s.Et))||decide (s.Next<1))||decide (1099511627776<s.Next))=A7 s from rfl]
 cases aT:A7 s
 ·have e:=abe aT;simp only[YY,UL,aj,jJ,iP];rw[show(bif (decide<|(YV<|s.Next-1)<8) then(YV<|s.Next-1)else 8)=lI s.Next from rfl]
  rw[iA (L:=CL n s) (U2:=Fh s) (no:=false) (yes:=true) d,mi]
  ·cases decide ((s.ce.length:Int)=lI s.Next)<;>rfl
  ·intro m i c;simp only[CL,Nl,UP,c,YW,UL,bW c,aF,US,cu (show i<=2^63-2 by omega)]
   rw[show Ho n ⟨((s.ce.getD i default).Bt).Status,((s.ce.getD i default).Bt).Code,((s.ce.getD i default).Bt).Out⟩=_ from ayy a b (h.out i),qu,aj,wr (x:=s.Next-(s.ce.length:Int)) (by omega)<|by omega,wr (x:=s.Next-(s.ce.length:Int)+(i:Int)) (by omega)<|by omega]
   refine iT ?_;unfold Fh;simp only[dU,oP,lb];cases decide ((s.ce.getD i default).Et=s.Et)<;>cases decide ((s.ce.getD i default).Seq=s.Next-(s.ce.length:Int)+(i:Int))<;>rfl
  ·intro m;simp only[CL,Nl,VE,UZ,UN,UK]
 ·rfl
theorem ayB{s:b3}(h:sZ n s):Pu n s=some (A8 s):=by
 have d:=h.rep;unfold Pu XM A8;simp only[dU];rw[show(((decide (s.Et<1)||decide (32<s.Et))||decide (s.Next<1))||decide (1099511627776<s.Next))=A7 s from rfl]
 cases aT:A7 s
 ·have e:=abe aT;simp only[YY,UL,aj,jJ,iP];rw[show(bif (decide<|(YV<|s.Next-1)<8) then(YV<|s.Next-1)else 8)=lI s.Next from rfl]
  rw[iA (L:=DX n s) (U2:=Fh s) (no:=false) (yes:=true) d,mi]
  ·cases decide ((s.ce.length:Int)=lI s.Next)<;>rfl
  ·intro m i c;simp only[DX,Pt,UP,c,YW,UL,bW c,aF,US,cu (show i<=2^63-2 by omega)]
   rw[show IE n ⟨((s.ce.getD i default).Bt).Status,((s.ce.getD i default).Bt).Code,((s.ce.getD i default).Bt).Out⟩=_ from ayz a b (h.out i),qu,aj,wr (x:=(s.ce.length:Int)-(i:Int)) (by omega)<|by omega,show s.Next-((s.ce.length:Int)-(i:Int))=s.Next-(s.ce.length:Int)+(i:Int)by omega,wr (x:=s.Next-(s.ce.length:Int)+(i:Int)) (by omega)<|by omega]
   refine iT ?_;unfold Fh;simp only[dU,oP,lb];cases decide ((s.ce.getD i default).Et=s.Et)<;>cases decide ((s.ce.getD i default).Seq=s.Next-(s.ce.length:Int)+(i:Int))<;>rfl
  ·intro m;simp only[DX,Pt,XN,UZ,UN,UK]
 ·rfl
def pF(l:List b3):Bool:=allI l.length λi=>A8 (l.getD i default)&&(!decide (0<(i:Int)) || !decide ((l.getD i default).Et<=(l.getD (pv i) default).Et))
theorem RG{l:List b3}(d:l.length<n)(h:∀i,sZ n<|l.getD i default):vv n l=some (pF l):=by
 unfold vv pF;rw[iA (L:=CM n l) (no:=false) (yes:=true) d,mi]
 ·intro m i c;simp only[CM,No,UP,c,YW,UL,bW c,aF,US,cu (show i<=2^63-2 by omega),ayA a b<|h i,aj,mh c (show l.length<=2^63-1 by omega)]
  exact iT (by simp only[dU,ew,nD,oL,lb])
 ·intro m;simp only[CM,No,VF,UZ,UN,UK]
theorem akE{l:List b3}(d:l.length<n)(h:∀i,sZ n<|l.getD i default):Aj n l=some (pF l):=by
 unfold Aj pF;rw[iA (L:=DY n l) (no:=false) (yes:=true) d,mi]
 ·intro m i c;simp only[DY,Pv,UP,c,YW,UL,bW c,aF,US,cu (show i<=2^63-2 by omega),ayB a b<|h i,aj,A4 c,mh c (show l.length<=2^63-1 by omega),U4]
  exact iT (by simp only[dU,ew,nD,oL,lb])
 ·intro m;simp only[DY,Pv,XO,UZ,UN,UK]
end
def akF{β:Type}{c d k:Bool}{x y:β}(h:k=(!c && !d)):(bif c then x else(bif d then x else y))=if k then y else x:=by subst h;cases c<;>cases d<;>rfl
def ayC{α σ R:Type}[Inhabited α]{l:List α}{g:σ->α->σ}{I:Nat->σ->Prop}{L:Nat->σ->Int->Option R}{fin:σ->Option R}
 (step:∀m a i,i<l.length->I i a->L (m+1) a (i:Int)=L m (g a<|l.getD i default) ((i+1:Nat):Int)/\I (i+1) (g a<|l.getD i default))
 (b:∀m a,I l.length a->L (m+1) a (l.length:Int)=fin a):
 ∀m i a,l.length<i+m->i<=l.length->I i a->L m a (i:Int)=fin ((l.drop i).foldl g a):=by
 intro m;induction m with
 |zero=>intro i a h e;omega
 |succ m k=>
  intro i a h e c;by_cases d:i<l.length
  ·let⟨j,f⟩:=step m a i d c;rw[j,k (i+1) _ (by omega) (by omega) f,gl l i default d,yA]
  ·obtain rfl:i=l.length:=by omega
   rw[b m a c,List.drop_of_length_le<|fS _];rfl
def akG{α σ R:Type}[Inhabited α]{l:List α}{g:σ->α->σ}{I:Nat->σ->Prop}{L:Nat->σ->Int->Option R}{fin:σ->Option R}{m:Nat}(d:l.length<m){a:σ}(c:I 0 a)
 (step:∀m a i,i<l.length->I i a->L (m+1) a (i:Int)=L m (g a<|l.getD i default) ((i+1:Nat):Int)/\I (i+1) (g a<|l.getD i default))
 (b:∀m a,I l.length a->L (m+1) a (l.length:Int)=fin a):L m a 0=fin (l.foldl g a):=
 ayC step b m 0 a (by omega) (by omega) c
def fold_map{α β:Type}(f:α->β):∀(l:List α) (b:List β),l.foldl (λa x=>a++[f x]) b=b++l.map f
 |[],b=>by simp
 |x::l,b=>by rw[yA,fold_map f l];simp
def iF{m k:Nat}(h:m*k<=140737488355328):room m k=true:=by simp[room];exact h
def nJ{α:Type}[Inhabited α]{l:List α}{i:Nat}(h:i<l.length):l.getD i default∈l:=by
 rw[ie,ed h];exact pj h
section
variable {n:Nat} (c:2000<=n) (d:n<=2^63)
include c d
def rC(a b:bJ):Bool:=decide (a.Cc=b.Cc)&&(decide (a.N=b.N)&&(decide (a.S=b.S)&&true))
def qv(r:Row)(a b:Int)(i:Nat):Bool:=
 ((!decide ((r.aR.getD i default).br<a) && !decide (b<(r.aR.getD i default).br))&&gS (r.aR.getD i default).aY) &&
 !(decide (0<(i:Int))&&(decide ((r.aR.getD i default).br<=(r.aR.getD (pv i) default).br)||rC (r.aR.getD i default).aY (r.aR.getD (pv i) default).aY))
def jo(r:Row)(a b:Int):Bool:=!(decide (r.aR.length=0)||decide ((r.aR.getD 0 default).aY.Cc=0))&&allI r.aR.length (qv r a b)
structure A9(n:Nat)(r:Row):Prop where
 key:r.Key.length<n
 rj:r.aR.length<n
 val:∀i,(r.aR.getD i default).aY.S.length<n
omit c d in
theorem akH{i len:Nat}{b:Bool}(hi:i<len)(a:len<=2^63-1):(!(decide<|0<(i:Int))||(b||aP (YV<|(i:Int)-1) len))=true:=by
 have:=mh (b:=b) hi a
 rw[<-this];cases decide (0<(i:Int))<;>cases b<;>simp
omit c d in
theorem akI{i len:Nat}(hi:i<len)(a:len<=2^63-1):(!(decide<|0<(i:Int))||aP (YV<|(i:Int)-1) len)=true:=by
 have:=mh (b:=false) hi a
 rw[jJ]at this;exact this
omit c d in
theorem akJ{l:Nat}:(decide (l=0)||aP 0 l)=true:=by
 by_cases h:l=0
 ·rw[fp h];rfl
 ·rw[ql<|by omega];simp
theorem ayD{r:Row}(h:A9 n r)(a b:Int):MQ n r a b=some (jo r a b):=by
 have f:=h.rj;unfold MQ jo;rw[iA (L:=Cy n a b r) (U2:=qv r a b) (no:=false) (yes:=true) f,mi]
 ·simp only[hM,akJ,aF,dU];cases decide (r.aR.length=0)||decide ((r.aR.getD 0 default).aY.Cc=0)<;>rfl
 ·intro m i e;have g:=h.val i;simp only[Cy,MP,UP,e,YW,UL,bW e,aF,US,cu (show i<=2^63-2 by omega),akH e (show r.aR.length<=2^63-1 by omega),akI e (show r.aR.length<=2^63-1 by omega)]
  rw[show sh n ⟨((r.aR.getD i default).aY).Cc,((r.aR.getD i default).aY).N,((r.aR.getD i default).aY).S⟩=_ from KA (v:=(r.aR.getD i default).aY) (by omega) (by omega),qu,aj]
  refine akF ?_;unfold qv;simp only[rC,dU,ew,nD,oL,lb];cases decide ((r.aR.getD i default).br<a)<;>cases decide (b<(r.aR.getD i default).br)<;>cases gS (r.aR.getD i default).aY<;>rfl
 ·intro m;simp only[Cy,MP,aEw,UZ,UN,UK]
theorem ayE{r:Row}(h:A9 n r)(a e:Int):OY n r a e=some (fY r.Key&&jo r a e):=by
 have j:=h.rj;have l:=h.key;unfold OY jo;rw[Kz (by omega)<|by omega,aj]
 rw[iA (L:=DG n a e r) (U2:=qv r a e) (no:=false) (yes:=true) j,mi]
 ·have g:∀b:Bool,(b||decide (r.aR.length=0)||aP 0 r.aR.length)=true:=λb=>by rw[Bool.or_assoc,akJ];simp
  simp only[hM,dU,g,aF];cases fY r.Key<;>cases decide (r.aR.length=0)<;>cases decide ((r.aR.getD 0 default).aY.Cc=0)<;>rfl
 ·intro m i f;have k:=h.val i;simp only[DG,OX,W9,UP,f,YW,UL,bW f,aF,US,cu (show i<=2^63-2 by omega),akH f (show r.aR.length<=2^63-1 by omega),akI f (show r.aR.length<=2^63-1 by omega)]
  rw[show xl n ⟨((r.aR.getD i default).aY).Cc,((r.aR.getD i default).aY).N,((r.aR.getD i default).aY).S⟩=_ from KB (v:=(r.aR.getD i default).aY) (by omega) (by omega),aj,aj]
  refine akF ?_;unfold qv;simp only[rC,dU,ew,nD,oL,lb];cases decide ((r.aR.getD i default).br<a)<;>cases decide (e<(r.aR.getD i default).br)<;>cases gS (r.aR.getD i default).aY<;>rfl
 ·intro m;simp only[DG,OX,W',UZ,UN,UK]
def gN(s:aq):Bool:=!((decide (s.bu<0)||decide (s.bi<s.bu))||decide (1099511627776<s.bi)) &&
 allI s.Rows.length λi=>(fY (s.Rows.getD i default).Key&&(!decide (0<(i:Int))||Op.bytesLess (s.Rows.getD (pv i) default).Key (s.Rows.getD i default).Key))&&jo (s.Rows.getD i default) s.bu s.bi
structure s0(n:Nat)(s:aq):Prop where
 rows:s.Rows.length<n
 row:∀i,A9 n (s.Rows.getD i default)
theorem Fj{s:aq}(h:s0 n s):vr n s=some (gN s):=by
 have b:=h.rows;unfold vr gN;rw[iA (L:=Cz n s) (U2:=λi=>(fY (s.Rows.getD i default).Key&&(!decide (0<(i:Int))||Op.bytesLess (s.Rows.getD (pv i) default).Key (s.Rows.getD i default).Key))&&jo (s.Rows.getD i default) s.bu s.bi) (no:=false) (yes:=true) b,mi]
 ·simp only[dU];cases (decide (s.bu<0)||decide (s.bi<s.bu))||decide (1099511627776<s.bi)<;>rfl
 ·intro m i a;have e:=(h.row i).key;simp only[Cz,MR,UP,a,YW,UL,bW a,aF,aj,US,cu (show i<=2^63-2 by omega),Ky (show 24<n by omega),mh a (show s.Rows.length<=2^63-1 by omega),ayD c d<|h.row i,qu,<-qt]
  refine iT ?_;simp only[dU,ew];cases fY (s.Rows.getD i default).Key<;>cases decide (0<(i:Int))<;>cases Op.bytesLess (s.Rows.getD (pv i) default).Key (s.Rows.getD i default).Key<;>rfl
 ·intro m;simp only[Cz,MR,aEn,UZ,UN,UK]
theorem abf{s:aq}(h:s0 n s):Af n s=some (gN s):=by
 have b:=h.rows;unfold Af gN;rw[iA (L:=DH n s) (U2:=λi=>(fY (s.Rows.getD i default).Key&&(!decide (0<(i:Int))||Op.bytesLess (s.Rows.getD (pv i) default).Key (s.Rows.getD i default).Key))&&jo (s.Rows.getD i default) s.bu s.bi) (no:=false) (yes:=true) b,mi]
 ·simp only[dU];cases (decide (s.bu<0)||decide (s.bi<s.bu))||decide (1099511627776<s.bi)<;>rfl
 ·intro m i a;simp only[DH,OZ,UP,a,YW,UL,bW a,aF,aj,US,cu (show i<=2^63-2 by omega),ayE c d<|h.row i,A4 a,mh a (show s.Rows.length<=2^63-1 by omega),U4]
  refine iT ?_;simp only[dU,ew];cases fY (s.Rows.getD i default).Key<;>cases decide (0<(i:Int))<;>cases Op.bytesLess (s.Rows.getD (pv i) default).Key (s.Rows.getD i default).Key<;>cases jo (s.Rows.getD i default) s.bu s.bi<;>rfl
 ·intro m;simp only[DH,OZ,W_,UZ,UN,UK]
def ii(l:List aQ)(a:Int):aq:=⟨a,a,l.map λp=>⟨p.Key,[⟨a,p.aY⟩]⟩⟩
def la(l:List aQ)(a:Int):aq×Int:=bif ((!mj l||decide (a<0))||decide (1099511627776<a)) then(⟨0,0,[]⟩,1) else(ii l a,0)
theorem akK{l:List aQ}(k:l.length<n)(o:l.length<=1000000000)(h:∀i,oV n<|l.getD i default)(b:Int):zZ n l b=some (la l b):=by
 unfold zZ la;rw[aks c d k h,aj,akG (L:=Do n b l) (g:=λa p=>a++[⟨p.Key,[⟨b,p.aY⟩]⟩]) (I:=λi e=>e.length=i) (fin:=λv=>some (⟨b,b,v⟩,0)) k rfl,fold_map]
 ·simp only[dU,iK];cases (!mj l||decide (b<0))||decide (1099511627776<b)<;>rfl
 ·intro m e i j f;have:room (e.length+1) 40=true:=iF (by omega)
  simp only[Do,Ov,UP,j,YW,UL,bW j,aF,US,cu (show i<=2^63-2 by omega),U1,this]
  exact⟨trivial,by simp[f]⟩
 ·intro m e f;simp only[Do,Ov,WH,UZ,UN,UK]
theorem akL{l:List aQ}(k:l.length<n)(o:l.length<=1000000000)(h:∀i,oV n<|l.getD i default)(b:Int):Ad n l b=some (la l b):=by
 unfold Ad la;rw[ayo c d k h,aj,akG (L:=DE n l b) (g:=λa p=>a++[⟨p.Key,[⟨b,p.aY⟩]⟩]) (I:=λi e=>e.length=i) (fin:=λv=>some (⟨b,b,v⟩,0)) k rfl,fold_map]
 ·simp only[dU,iK];cases (!mj l||decide (b<0))||decide (1099511627776<b)<;>rfl
 ·intro m e i j f;have:room (e.length+1) 40=true:=iF (by omega)
  simp only[DE,OV,UP,j,YW,UL,bW j,aF,US,cu (show i<=2^63-2 by omega),U1,this]
  exact⟨trivial,by simp[f]⟩
 ·intro m e f;simp only[DE,OV,W6,UZ,UN,UK]
end
def uG{α:Type}[Inhabited α]{P:α->Prop}{l:List α}(h:∀x∈l,P x)(b:P default)(i:Nat):P (l.getD i default):=by
 by_cases a:i<l.length
 ·exact h _<|nJ a
 ·rw[ie,ye<|by omega];exact b
def pG{v:bJ}(h:ry v):v.S.length<=64:=by
 rcases A0 h.1 with h|h|h
 ·rw[h];simp
 ·rw[h.2];simp
 ·exact akh h.2.2
def Fk:eY aQ:=gw (λp=>⟨p.1,p.2⟩) (ek (fH 24) λ_=>om)
def jT(p:aQ):UB:=dq p.Key++bX p.aY
def s2(p:aQ):Prop:=p.Key.length<=24/\ry p.aY
def abg:eB Fk jT s2:=
 (pE.dep λ_ _=>wm).map _ (λp=>(p.Key,p.aY)) s2 jT (λb h=>⟨rfl,⟨h.1,h.2⟩,rfl⟩) (λa h=>⟨rfl,⟨h.1,h.2⟩⟩)
def Fl:eY (List aQ):=oi mj 5 (kD 2147483647 Fk)
def ayF:eB (kD 2147483647 Fk) (cX jT) (λl=>l.length<=2147483647/\∀v∈l,s2 v):=abg.x4 _ (by omega) (λv _=>by unfold jT dq;simp[qs])
def RH:eB Fl (cX jT) (λl=>(l.length<=2147483647/\∀v∈l,s2 v)/\mj l=true):=ayF.U2 _ _ (by omega)
def akM{n:Nat}(a:2000<=n){p:aQ}(h:s2 p):oV n p:=⟨by have:=h.1;omega,by have:=pG h.2;omega⟩
def abh{n:Nat}(b:2000<=n){l:List aQ}(h:∀p∈l,s2 p)(i:Nat):oV n (l.getD i default):=uG (P:=oV n) (λx a=>akM b<|h x a) ⟨by show 0<n;omega,by show 0<n;omega⟩ i
section
variable {n:Nat} (b:2000<=n) (a:n<=2^63) {s:UB} (c:s.length<min n 1000000000)
include b a c
theorem ayG{t:UB}(f:t <:+ s):NE n s (bx s t)=some (res [] s<|Fl t):=by
 unfold NE Fl oi kD;rw[show(2147483647:Int)=((2147483647:Nat):Int)from rfl,wn f (by omega) (by omega)<|by omega,aj]
 cases h:jS 2147483647 t with
 |error e=>rw[uz h,f9];simp only[ht<|qr h,UL,f9]
 |ok r=>
  let⟨u,g⟩:=r;let⟨y,F,J⟩:=rx h;have j:g <:+ s:=oD ⟨dw u,y.symm⟩ f;have E:=j.length_le;rw[sW h,h_];simp only[YW,UR,UK];rw[show zz n s ((u:Int),bx s g,0) n (bx s g) 0 []=_ from akr (L:=λm i t d=>zz n s ((u:Int),bx s g,0) m (bx s t) (i:Int) d) (D:=Fk) (u:=u) (s:=s) (fin:=λd t=>NC n (bx s t) d) (bad:=λe=>some ([],0,e)) (λx v t p=>abg.mf p) ?_ ?_ (by omega) j]
  ·cases af:hq Fk u g with
   |error e=>rfl
   |ok r=>
    let⟨l,B⟩:=r;let⟨I,H,z⟩:=(abg.rep u).gY _ _ _ af;simp only[NC];rw[aks b a (by omega)<|abh (by omega) z,aj]
    cases mj l<;>rfl
  ·intro m i t d q w f;simp only[zz,ND,UP,q,YW,UL];rw[show(24:Int)=((24:Nat):Int)from rfl,Fg f (by omega) (by omega)<|by omega,aj]
   unfold Fk gw ek;cases ay:fH 24 t with
   |error e=>rw[f9];simp only[ht<|pE.dr _ _ ay,UL]
   |ok r=>
    let⟨k,o⟩:=r;rw[h_];simp only[YW,UR,UK];rw[abb (kh pE ay f) (by omega)<|by omega,aj]
    cases aO:om o with
    |error e=>rw[f9];simp only[ht<|wm.dr _ _ aO,UL]
    |ok r=>
     let⟨v,A⟩:=r;rw[h_];simp only[YW,UR,UK,U1];rw[iF<|by omega,aF,cu<|by omega]
  ·intro m t d w f;simp only[zz,ND,UZ,UN,UK]
end
def x8{α β R:Type}{D:eY α}{s:UB}{u:Nat}{f:Nat->α->β}{L:Nat->Nat->UB->List β->Option R}{fin:List β->UB->Option R}{bad:Int->Option R->Prop}
 (mf:∀x v t,D x = .ok (v,t)->t <:+ x)
 (step:∀m i t a,u<i+1+m->i<u->a.length=i->t <:+ s->match D t with|.ok (v,c)=>L (m+1) i t a=L m (i+1) c (a++[f i v])|.error e=>bad e<|L (m+1) i t a)
 (d:∀m t a,a.length=u->t <:+ s->L (m+1) u t a=fin a t):
 ∀k m i t a,i+k=u->k<m->a.length=i->t <:+ s->match hq D k t with|.ok (l,c)=>L m i t a=fin (a++(l.zipIdx i).map λp=>f p.2 p.1) c|.error e=>bad e (L m i t a):=by
 intro k;induction k with
 |zero=>
  intro m i t a q o g n;obtain⟨m,rfl⟩:∃j,m=j+1:=⟨m-1,by omega⟩
  obtain rfl:i=u:=by omega
  rw[d m t a g n];simp[hq]
 |succ k w=>
  intro m i t a q o g n;obtain⟨m,rfl⟩:∃j,m=j+1:=⟨m-1,by omega⟩
  have b:=step m i t a (by omega) (by omega) g n
  unfold hq;cases h:D t with
  |error e=>rw[h]at b;exact b
  |ok r=>
   let⟨v,c⟩:=r;rw[h]at b;simp only at b ⊢
   have:=w m (i+1) c (a++[f i v]) (by omega) (by omega) (by simp[g])<|(mf _ _ _ h).trans n
   cases h2:hq D k c with
   |error e=>rw[h2]at this;simp only at this ⊢;rw[b];exact this
   |ok r=>
    let⟨l,y⟩:=r;rw[h2]at this;simp only at this ⊢
    rw[b,this];simp
def x9{α:Type}(l:List α)(i:Nat):((l.zipIdx i).map λp=>p.1)=l:=List.zipIdx_map_fst i l
def nh{α:Type}(e:Int)(x:Option<|α×Int×Int):Prop:=∃v a,x=some (v,a,e)
def Fm:eY BX:=gw (λp=>⟨p.1,p.2.1,p.2.2.1,p.2.2.2.1,p.2.2.2.2⟩) (ek jR λ_=>ek (fH 24) λ_=>ek jR λ_=>ek jR λ_=>fH 24)
def rD(x:BX):UB:=mN x.Id++(dq x.ee++(mN x.Node++(mN x.f0++dq x.dO)))
def rE(x:BX):Prop:=eo x.Id/\x.ee.length<=24/\eo x.Node/\eo x.f0/\x.dO.length<=24
def abi:eB Fm rD rE:=
 (mg.dep λ_ _=>pE.dep λ_ _=>mg.dep λ_ _=>mg.dep λ_ _=>pE).map _ (λx=>(x.Id,x.ee,x.Node,x.f0,x.dO)) rE rD
  (λb h=>⟨rfl,⟨h.1,h.2.1,h.2.2.1,h.2.2.2.1,h.2.2.2.2⟩,rfl⟩) (λa h=>⟨rfl,⟨h.1,h.2.1,h.2.2.1,h.2.2.2.1,h.2.2.2.2⟩⟩)
def x':eY dv:=oi oW 5 (gw (λp=>⟨p.1,p.2⟩)<|ek jR λ_=>kD 16 Fm)
def ld(p:dv):UB:=mN p.Br++cX rD p.aI
def ayH:eB (kD 16 Fm) (cX rD) (λl=>l.length<=16/\∀v∈l,rE v):=abi.x4 _ (by omega) (λv _=>by unfold rD mN;simp[qs])
def RI:eB x' ld (λp=>(eo p.Br/\p.aI.length<=16/\∀v∈p.aI,rE v)/\oW p=true):=
 ((mg.dep λ_ _=>ayH).map (λp=>(⟨p.1,p.2⟩:dv)) (λp:dv=>(p.Br,p.aI)) (λp=>eo p.Br/\p.aI.length<=16/\∀v∈p.aI,rE v) ld (λb h=>⟨rfl,⟨h.1,h.2⟩,rfl⟩)<|λa h=>⟨rfl,⟨h.1,h.2⟩⟩).U2 _ _ (by omega)
def ayI{n:Nat}(a:2000<=n){p:BX}(h:rE p):uF n p:=⟨by have:=h.2.1;omega,by have:=h.2.2.2.2;omega⟩
def akN{n:Nat}(b:2000<=n){l:List BX}(h:∀p∈l,rE p)(i:Nat):uF n (l.getD i default):=uG (P:=uF n) (λx a=>ayI b<|h x a) ⟨by show 0<n;omega,by show 0<n;omega⟩ i
section
variable {n:Nat} (g:2000<=n) (d:n<=2^63) {s:UB} (o:s.length<min n 1000000000)
theorem KG{a e:Int}(b:e≠0):vz n ⟨s,a,e⟩=some (0,a,e):=by
 unfold vz;simp only[ht b,UL]
theorem KH{a e:Int}(b:e≠0):zB n ⟨s,a,e⟩=some ([],a,e):=by
 unfold zB;simp only[ht b,UL]
include g d o
theorem RJ{t:UB}(a:t <:+ s):vz n ⟨s,bx s t,0⟩=some (res 0 s<|jR t):=by
 unfold vz;simp only[YW,UR,UK];rw[aba a (by omega)<|by omega,aj]
theorem akO{t:UB}(a:t <:+ s):zB n ⟨s,bx s t,0⟩=some (res [] s<|fH 24 t):=by
 unfold zB;simp only[YW,UR,UK];rw[show(24:Int)=((24:Nat):Int)from rfl,Fg a (by omega) (by omega)<|by omega,aj]
theorem Fn{u:Nat}(t:u<min n 1000000000){r1:Int×Int×Int}{b c:Int}:∀(k m i:Nat) (a e:Int) (f:List BX),e≠0->i+k=u->k<m->f.length=i->vA n ((u:Int),b,c) s r1 m a e f (i:Int)=some (⟨0,[]⟩,0,e):=by
 intro k;induction k with
 |zero=>
  intro m i a e f h q p l;obtain⟨m,rfl⟩:∃j,m=j+1:=⟨m-1,by omega⟩
  obtain rfl:i=u:=by omega
  simp only[vA,C1,UZ,UN,UK,HE,NJ,h,aj,YY,UL]
 |succ k r=>
  intro m i a e f h q p l;obtain⟨m,rfl⟩:∃j,m=j+1:=⟨m-1,by omega⟩
  simp only[vA,C1,UP,show i<u by omega,YW,UL,KG h,KH h,aj,U1]
  rw[iF<|by omega,aF,cu<|by omega]
  exact r m (i+1) a e _ h (by omega) (by omega) (by simp[l])
theorem ayJ{t:UB}(q:t <:+ s):NK n s (bx s t)=some (res ⟨0,[]⟩ s<|x' t):=by
 unfold NK x' oi gw ek kD;rw[RJ g d o q,aj];cases h0:jR t with
 |error e=>rw[f9];simp only[ht<|mg.dr _ _ h0,UL,f9]
 |ok r=>
  let⟨v,z⟩:=r;have J:=kh mg h0 q;rw[h_];simp only[YW,UR,UK];rw[show(16:Int)=((16:Nat):Int)from rfl,wn J (by omega) (by omega)<|by omega,aj]
  cases h:jS 16 z with
  |error e=>
   rw[uz h,f9];exact Fn g d o (u:=0) (by omega) 0 n 0 0 e [] (qr h) rfl (by omega) rfl
  |ok r=>
   let⟨u,y⟩:=r;let⟨R,Z,ah⟩:=rx h;have H:y <:+ s:=oD ⟨dw u,R.symm⟩ J;have X:=H.length_le;rw[sW h,h_]
   have k:=x8 (L:=λm i t c=>vA n ((u:Int),bx s y,0) s (v,bx s z,0) m (bx s t) 0 c (i:Int)) (f:=λ_ v=>v) (D:=Fm) (u:=u) (s:=s) (fin:=λc t=>HE n s (v,bx s z,0) (bx s t) 0 c) (bad:=λe x=>x=some (⟨0,[]⟩,0,e)) (λx v t P=>abi.mf P) (by
    intro m i t c Y Q j q;simp only[vA,C1,UP,Q,YW,UL];rw[RJ g d o q,aj];unfold Fm gw ek;have a:room (c.length+1) 56=true:=iF (by omega)
    cases B:jR t with
    |error e=>
     have b:=mg.dr _ _ B;rw[f9];simp only[KG b,KH b,aj,U1,a,aF];rw[cu<|by omega]
     exact Fn g d o (by omega) (u-(i+1)) m (i+1) _ e _ b (by omega) (by omega) (by simp[j])
    |ok r=>
     let⟨dZ,O⟩:=r;have E:=kh mg B q;rw[h_];simp only
     rw[akO g d o E,aj];cases A:fH 24 O with
     |error e=>
      have b:=pE.dr _ _ A;rw[f9];simp only[KG b,KH b,aj,U1,a,aF];rw[cu<|by omega]
      exact Fn g d o (by omega) (u-(i+1)) m (i+1) _ e _ b (by omega) (by omega) (by simp[j])
     |ok r=>
      let⟨dF,N⟩:=r;have F:=kh pE A E;rw[h_];simp only
      rw[RJ g d o F,aj];cases w:jR N with
      |error e=>
       have b:=mg.dr _ _ w;rw[f9];simp only[KG b,KH b,aj,U1,a,aF];rw[cu<|by omega]
       exact Fn g d o (by omega) (u-(i+1)) m (i+1) _ e _ b (by omega) (by omega) (by simp[j])
      |ok r=>
       let⟨W,M⟩:=r;have I:=kh mg w F;rw[h_];simp only
       rw[RJ g d o I,aj];cases g4:jR M with
       |error e=>
        have b:=mg.dr _ _ g4;rw[f9];simp only[KG b,KH b,aj,U1,a,aF];rw[cu<|by omega]
        exact Fn g d o (by omega) (u-(i+1)) m (i+1) _ e _ b (by omega) (by omega) (by simp[j])
       |ok r=>
        let⟨gd,K⟩:=r;have RK:=kh mg g4 I;rw[h_];simp only
        rw[akO g d o RK,aj];cases g5:fH 24 K with
        |error e=>
         have b:=pE.dr _ _ g5;rw[f9];simp only[U1,a,aF];rw[cu<|by omega]
         exact Fn g d o (by omega) (u-(i+1)) m (i+1) _ e _ b (by omega) (by omega) (by simp[j])
        |ok r=>
         let⟨U,S⟩:=r;rw[h_];simp only[U1,a,aF];rw[cu<|by omega]) (by
    intro m t c j q;simp only[vA,C1,UZ,UN,UK]) u n 0 y [] (by omega) (by omega) rfl H
   cases af:hq Fm u y with
   |error e=>rw[af]at k;simp only[af]at k ⊢;exact k
   |ok r=>
    let⟨l,T⟩:=r;rw[af]at k;simp only[iK,x9,af]at k ⊢;refine k.trans ?_;let⟨B,A,w⟩:=(abi.rep u).gY _ _ _ af;simp only[HE,YW,UL];rw[akA g d (p:=⟨v,l⟩) (by show l.length<n;omega)<|akN (by omega) w,aj]
    cases oW ⟨v,l⟩<;>rfl
end
def A':eY Bt:=gw (λp=>⟨p.1,p.2.1,p.2.2⟩) (ek (pD 0 9999) λ_=>ek (pD 0 9999) λ_=>kD 16 om)
def oo(o:Bt):UB:=ih o.Status++(ih o.Code++cX bX o.Out)
def oq(o:Bt):Prop:=(0<=o.Status/\o.Status<=9999)/\(0<=o.Code/\o.Code<=9999)/\o.Out.length<=16/\∀v∈o.Out,ry v
def n99:eB (pD 0 9999) ih (λz=>0<=z/\z<=9999):=aa' (by omega) (by omega)
def n32:eB (pD 1 32) ih (λz=>1<=z/\z<=32):=aa' (by omega) (by omega)
def n40:eB (pD 1 1099511627776) ih (λz=>1<=z/\z<=1099511627776):=aa' (by omega) (by omega)
def akP(k:Nat)(a:k<2^64):eB (kD k om) (cX bX) (λl=>l.length<=k/\∀v∈l,ry v):=wm.x4 _ a (λv _=>ax2 v)
def abj:eB A' oo oq:=
 (n99.dep λ_ _=>n99.dep λ_ _=>akP 16<|by omega).map (λp=>(⟨p.1,p.2.1,p.2.2⟩:Bt)) (λo:Bt=>(o.Status,o.Code,o.Out)) oq oo
  (λb h=>⟨rfl,⟨h.1,h.2.1,h.2.2⟩,rfl⟩) (λa h=>⟨rfl,⟨h.1,h.2.1,h.2.2⟩⟩)
def x_(c fj k:Int)(l:List Bt):List fk:=(l.zipIdx 0).map λp=>⟨c,YV (fj-YV (k-(p.2:Int))),p.1⟩
def RL(c a k:Int)(l:List Bt):(x_ c a k l).map (·.Bt)=l:=by
 unfold x_;rw[yi];exact x9 l 0
def Fo{a:Int}(h:1<=a/\a<=1099511627776):0<=lI a/\lI a<=8/\lI a<=a-1:=by
 unfold lI;rw[wr (x:=a-1) (by omega)<|by omega]
 by_cases b:a-1<8
 ·rw[fp b,UL];omega
 ·rw[en b,UK];omega
def ya:eY b3:=gw (λp=>⟨p.1,p.2.1,x_ p.1 p.2.1 (lI p.2.1) p.2.2⟩) (ek (pD 1 32) λ_=>ek (pD 1 1099511627776) λa=>hq A' (lI a).toNat)
def jc(s:b3):UB:=ih s.Et++(ih s.Next++eZ oo (s.ce.map (·.Bt)))
def rF(s:b3):Prop:=(1<=s.Et/\s.Et<=32)/\(1<=s.Next/\s.Next<=1099511627776)/\s.ce=x_ s.Et s.Next (lI s.Next) (s.ce.map (·.Bt))/\(s.ce.map (·.Bt)).length=(lI s.Next).toNat/\∀o∈s.ce.map (·.Bt),oq o
def RM:eB ya jc rF:=
 (n32.dep λ_ _=>n40.dep λc _=>abj.rep (lI c).toNat).map (λp=>(⟨p.1,p.2.1,x_ p.1 p.2.1 (lI p.2.1) p.2.2⟩:b3)) (λs:b3=>(s.Et,s.Next,s.ce.map (·.Bt))) rF jc
  (λb h=>⟨by simp only;rw[<-h.2.2.1],⟨h.1,h.2.1,h.2.2.2.1,h.2.2.2.2⟩,rfl⟩) (λa h=>⟨by simp only[RL],⟨h.1,h.2.1,by simp only[RL],by simp only[RL];exact h.2.2.1,by simp only[RL];exact h.2.2.2⟩⟩)
def yb:eY (List b3):=oi pF 5 (kD 32 ya)
def ayK:eB (kD 32 ya) (cX jc) (λl=>l.length<=32/\∀v∈l,rF v):=RM.x4 _ (by omega) (λv _=>by unfold jc ih;simp[qs])
def RN:eB yb (cX jc) (λl=>(l.length<=32/\∀v∈l,rF v)/\pF l=true):=ayK.U2 _ _ (by omega)
def akQ{n:Nat}(b:2000<=n){o:Bt}(h:oq o):A6 n o:=
 ⟨by have:=h.2.2.1;omega,λi=>uG (P:=λv:bJ=>v.S.length<n) (λx a=>by have:=pG<|h.2.2.2 x a;omega) (by show 0<n;omega) i⟩
def ayL{n:Nat}(a:2000<=n){s:b3}(h:rF s):sZ n s:=by
 have d:=Fo h.2.1;have e:s.ce.length=(lI s.Next).toNat:=by have:=h.2.2.2.1;simpa using this
 refine⟨by omega,λi=>uG (P:=λr:fk=>A6 n r.Bt) (λx b=>akQ a<|h.2.2.2.2 _<|zQ b) ?_ i⟩
 refine akQ a ?_;refine⟨by show(0:Int)<=0/\(0:Int)<=9999;omega,by show(0:Int)<=0/\(0:Int)<=9999;omega,by show([]:List bJ).length<=16;simp,λv c=>by cases c⟩
def RO{n:Nat}(b:2000<=n){l:List b3}(h:∀s∈l,rF s)(i:Nat):sZ n (l.getD i default):=by
 refine uG (P:=sZ n) (λx a=>ayL b<|h x a) ⟨by show([]:List fk).length<n;simp;omega,λi=>⟨?_,λi=>?_⟩⟩ i
 ·show((([]:List fk).getD i default).Bt).Out.length<n
  show([]:List bJ).length<n
  simp;omega
 ·show((((([]:List fk).getD _ default).Bt).Out).getD i default).S.length<n
  show 0<n
  omega
section
variable {n:Nat} (b:2000<=n) (c:n<=2^63) {s:UB} (d:s.length<min n 1000000000)
theorem akR{lo hi a e:Int}(f:e≠0):vE n lo hi ⟨s,a,e⟩=some (0,a,e):=by
 unfold vE;simp only[ht f,UL]
include b c d
theorem RP{lo hi:Int}(m:0<=lo)(l:hi<=2^63-1){t:UB}(k:t <:+ s):vE n lo hi ⟨s,bx s t,0⟩=some (match pD lo hi t with|.ok (v,f)=>(v,bx s f,0)|.error e=>(0,bx s t,e)):=by
 unfold vE pD oi;simp only[YW,UR,UK];rw[Ff k (by omega)<|by omega,aj]
 cases h:jm t with
 |error e=>
  have i:¬ e=0:=ol.dr _ _ h;rw[f9];simp only[i,UN,UK,C9,YY,UL]
 |ok r=>
  let⟨u,f⟩:=r;have g:=(ol.gY _ _ _ h).2;unfold hr at g;rw[h_];simp only[YW,UL];by_cases a:lo<=u/\u<=hi
  ·simp only[show¬ u<lo by omega,show¬ hi<u by omega,a.1,a.2,YW,UN,UK,nG,U3,C9,UR,wr (x:=u) (by omega)<|by omega]
  ·have:(bif (decide<|u<lo)then true else(decide<|hi<u))=true:=by
    rw[dU,<-xy];exact fp (by omega)
   have j:(decide (lo<=u)&&decide (u<=hi))=false:=by
    rw[<-qm];exact en a
   simp only[this,UL,j,iO,UY,C9,show¬ (5:Int)=0 by omega,UN,YY]
theorem ayM{t:UB}(y:t <:+ s):match A' t with|.ok (o,w)=>HG n ⟨s,bx s t,0⟩=some (o,bx s w,0)|.error e=>nh e (HG n ⟨s,bx s t,0⟩):=by
 unfold HG A' gw ek;rw[RP b c d (by omega) (by omega) y,aj]
 cases g1:pD 0 9999 t with
 |error e=>
  have p:=n99.dr _ _ g1;simp only[akR p,aj];rw[show(!decide (e=0))=true from ht p]
  exact⟨_,_,rfl⟩
 |ok r=>
  let⟨I,B⟩:=r;have E:=kh n99 g1 y;simp only
  rw[RP b c d (by omega) (by omega) E,aj]
  cases g2:pD 0 9999 B with
  |error e=>
   have p:=n99.dr _ _ g2;simp only
   rw[show(!decide (e=0))=true from ht p]
   exact⟨_,_,rfl⟩
  |ok r=>
   let⟨J,z⟩:=r;have F:=kh n99 g2 E;simp only[YW,UR,UK];rw[show(16:Int)=((16:Nat):Int)from rfl,wn F (by omega) (by omega)<|by omega,aj]
   unfold kD;obtain⟨uH,rfl⟩:∃k,n=k+1:=⟨n-1,by omega⟩
   cases h:jS 16 z with
   |error e=>
    have p:=qr h;rw[uz h,f9];simp only[xd,C',UZ,UN,UK,HF];exact⟨_,_,rfl⟩
   |ok r=>
    let⟨u,w⟩:=r;let⟨O,T,U⟩:=rx h;have H:w <:+ s:=oD ⟨dw u,O.symm⟩ F;have R:=H.length_le;rw[sW h,h_];generalize bx s t=A
    have q:=x8 (L:=λm i t a=>xd (uH+1) ((u:Int),bx s w,0) ⟨s,A,0⟩ (I,bx s B,0) (J,bx s z,0) m (bx s t) 0 a (i:Int)) (f:=λ_ v=>v) (D:=om) (u:=u) (s:=s) (fin:=λa t=>some (⟨I,J,a⟩,bx s t,0)) (bad:=λe x=>nh e x) (λx v t K=>wm.mf K) (by
     intro m i t a S M N y;simp only[xd,C',UP,M,YW,UL];rw[abb y (by omega)<|by omega,aj]
     have g:room (a.length+1) 32=true:=iF (by omega)
     cases g3:om t with
     |error e=>
      have p:¬ e=0:=wm.dr _ _ g3;rw[f9];simp only[U1,g,aF];obtain⟨m,rfl⟩:∃j,m=j+1:=⟨m-1,by omega⟩
      simp only[xd,C',p,UN,ew,kL,UK,HF];exact⟨_,_,rfl⟩
     |ok r=>
      let⟨v,P⟩:=r;rw[h_];simp only[U1,g,aF];rw[cu<|by omega]) (by
     intro m t a N y;simp only[xd,C',UZ,UN,UK,HF]) u (uH+1) 0 w [] (by omega) (by omega) rfl H
    cases af:hq om u w with
    |error e=>rw[af]at q;simp only[af]at q ⊢;exact q
    |ok r=>
     let⟨l,Q⟩:=r;rw[af]at q;simp only[iK,x9,af]at q ⊢;exact q
theorem ayN{t:UB}(az:t <:+ s):match ya t with|.ok (o,b8)=>HI n ⟨s,bx s t,0⟩=some (o,bx s b8,0)|.error e=>nh e (HI n ⟨s,bx s t,0⟩):=by
 unfold HI ya gw ek;rw [RP b c d (by omega) (by omega) az,aj]
 cases g1:pD 1 32 t with
 |error e=>
  have he:=n32.dr _ _ g1;simp only [akR he,aj];rw [show(!decide (e=0))=true from ht he]
  exact⟨_,_,rfl⟩
 |ok r=>
  obtain⟨dZ,t1⟩:=r;have lJ:=kh n32 g1 az;simp only
  rw [RP b c d (by omega) (by omega) lJ,aj]
  cases g2:pD 1 1099511627776 t1 with
  |error e=>
   have he:=n40.dr _ _ g2;simp only
   rw [show(!decide (e=0))=true from ht he]
   exact⟨_,_,rfl⟩
  |ok r=>
   obtain⟨dF,t2⟩:=r;have k0:=kh n40 g2 lJ;have nq:=(n40.gY _ _ _ g2).2;have hk:=Fo nq;simp only [YW,UR,UK];rw [show Hn n dF=some (lI dF)from rfl,aj]
   obtain⟨u,hu⟩:=Int.eq_ofNat_of_zero_le hk.1
   (rw [hu];simp only [US])
   generalize bx s t=A
   have dz:=x8 (L:=λm i t acc=>zG n (u:Int) ⟨s,A,0⟩ (dZ,bx s t1,0) (dF,bx s t2,0) m (bx s t) 0 acc (i:Int)) (f:=λi v=>(⟨dZ,YV (dF-YV ((u:Int)-(i:Int))),v⟩:fk)) (D:=A') (u:=u) (s:=s) (fin:=λacc t=>some (⟨dZ,dF,acc⟩,bx s t,0)) (bad:=λe x=>nh e x) (λx v t hx=>abj.mf hx) (by
    intro m i t acc hm hi ha az;have an:=ayM b c d az;simp only [zG,HH,UP,hi,YW,UL];have hroom:room (acc.length+1) 56=true:=iF (by omega)
    cases g3:A' t with
    |error e=>
     have he:¬ e=0:=abj.dr _ _ g3;rw [g3]at an;obtain⟨v,a,an⟩:=an;rw [an,aj];simp only [U1,hroom,aF];obtain⟨m,rfl⟩:∃j,m=j+1:=⟨m-1,by omega⟩
     simp only [zG,HH,he,UN,ew,Bool.and_false,UK,NQ];exact⟨_,_,rfl⟩
    |ok r=>
     obtain⟨v,t3⟩:=r;rw [g3]at an;simp only at an ⊢
     rw [an,aj];simp only [U1,hroom,aF];rw [cu (by omega)]) (by
    intro m t acc ha az;simp only [zG,HH,UZ,UN,UK,NQ]) u n 0 t2 [] (by omega) (by omega) rfl k0
   cases af:hq A' u t2 with
   |error e=>rw [af]at dz;simp only [af]at dz ⊢;exact dz
   |ok r=>
    obtain⟨l,oU⟩:=r;rw [af]at dz;simp only [List.nil_append,af]at dz ⊢;simp only [x_,hu];exact dz
theorem ayO{t:UB}(w:t <:+ s):NR n s (bx s t)=some (res [] s<|yb t):=by
 unfold NR yb oi kD;rw[show(32:Int)=((32:Nat):Int)from rfl,wn w (by omega) (by omega)<|by omega,aj]
 cases h:jS 32 t with
 |error e=>rw[uz h,f9];simp only[ht<|qr h,UL,f9]
 |ok r=>
  let⟨u,y⟩:=r;let⟨H,N,Q⟩:=rx h;have z:y <:+ s:=oD ⟨dw u,H.symm⟩ w;have K:=z.length_le;rw[sW h,h_];simp only[YW,UR,UK]
  have p:=x8 (L:=λm i t g=>zH n ((u:Int),bx s y,0) s m (bx s t) 0 g (i:Int)) (f:=λ_ v=>v) (D:=ya) (u:=u) (s:=s) (fin:=λg t=>HJ n s (bx s t) 0 g) (bad:=λe x=>x=some ([],0,e)) (λx v t A=>RM.mf A) (by
   intro m i t g M B F w;have o:=ayN b c d w;simp only[zH,HK,UP,B,YW,UL];have k:room (g.length+1) 40=true:=iF (by omega)
   cases q:ya t with
   |error e=>
    have E:¬ e=0:=RM.dr _ _ q;rw[q]at o;let⟨v,a,o⟩:=o;rw[o,aj];simp only[U1,k,aF];obtain⟨m,rfl⟩:∃j,m=j+1:=⟨m-1,by omega⟩
    simp only[zH,HK,E,UN,ew,kL,UK,HJ,YY,UL]
   |ok r=>
    let⟨v,I⟩:=r;rw[q]at o;simp only at o ⊢
    rw[o,aj];simp only[U1,k,aF];rw[cu<|by omega]) (by
   intro m t g F w;simp only[zH,HK,UZ,UN,UK]) u n 0 y [] (by omega) (by omega) rfl z
  cases af:hq ya u y with
  |error e=>rw[af]at p;simp only[af]at p ⊢;exact p
  |ok r=>
   let⟨l,J⟩:=r;rw[af]at p;simp only[iK,x9,af]at p ⊢;refine p.trans ?_;let⟨P,O,q⟩:=(RM.rep u).gY _ _ _ af;simp only[HJ,YW,UR,UK];rw[RG b c (by omega)<|RO b q,aj]
   cases pF l<;>rfl
end
abbrev kQ:=List UB
def A_:eY kQ:=kD 64 (fH 24)
def akS(s:UB):dq s≠[]:=by unfold dq;simp[qs]
def Ba:eB A_ (cX dq) (λl=>l.length<=64/\∀v∈l,v.length<=24):=pE.x4 _ (by omega) (λv _=>akS v)
def abk(b:Bool):eY (kQ×kQ):=if b then ek A_ λ_=>A_ else aa9 ([],[])
def ot(b:Bool)(p:kQ×kQ):UB:=if b then cX dq p.1++cX dq p.2 else[]
def KJ(b:Bool)(p:kQ×kQ):Prop:=if b then(p.1.length<=64/\∀v∈p.1,v.length<=24)/\(p.2.length<=64/\∀v∈p.2,v.length<=24)else p=([],[])
def ayP:∀b,eB (abk b) (ot b)<|KJ b
 |true=>Ba.dep λ_ _=>Ba
 |false=>akg ([],[])
abbrev akT:=Int×Int×UB×List bJ×Bool×(kQ×kQ)
def abl:eY akT:=ek jm λ_=>ek jm λ_=>ek (fH 16) λ_=>ek (kD 6 om) λ_=>ek ux λb=>abk b
def pH(p:akT):BE:=⟨p.1,p.2.1,p.2.2.1,p.2.2.2.1,p.2.2.2.2.1,⟨false,p.2.2.2.2.2.1,p.2.2.2.2.2.2⟩⟩
def nK(r:BE):Prop:=hr r.Et/\hr r.Seq/\r.bk.length<=16/\(r.ax.length<=6/\∀v∈r.ax,ry v)/\KJ r.eV (r.bM.Reads,r.bM.cp)/\r.bM.fl=false
def hy(r:BE):UB:=ih r.Et++(ih r.Seq++(dq r.bk++(cX bX r.ax++(uy r.eV++ot r.eV (r.bM.Reads,r.bM.cp)))))
def RQ:eB (fH 16) dq (λs=>s.length<=16):=wk 16 (by omega)
def ayQ:eB (gw pH abl) hy nK:=
 (ol.dep λ_ _=>ol.dep λ_ _=>RQ.dep λ_ _=>(akP 6<|by omega).dep λ_ _=>aa8.dep λb _=>ayP b).map pH (λr=>(r.Et,r.Seq,r.bk,r.ax,r.eV,(r.bM.Reads,r.bM.cp))) nK hy
  (λr h=>⟨by let⟨a,b,c,d,e,f,g,i⟩:=r;have:f=false:=h.2.2.2.2.2;subst this;rfl,⟨h.1,h.2.1,h.2.2.1,h.2.2.2.1,trivial,h.2.2.2.2.1⟩,rfl⟩) (λa h=>⟨rfl,⟨h.1,h.2.1,h.2.2.1,h.2.2.2.1,h.2.2.2.2.2,rfl⟩⟩)
def wo(r:BE):Bool:=(decide (r.Et<=32)&&decide (r.Seq<=1099511627776))&&decide (rB r=0)
def Bb:eY BE:=oi wo 5 (gw pH abl)
def abm:eB Bb hy (λr=>nK r/\wo r=true):=ayQ.U2 _ _ (by omega)
def rG:eY (List BE):=kD 64 Bb
def RR:eB rG (cX hy) (λl=>l.length<=64/\∀v∈l,nK v/\wo v=true):=abm.x4 _ (by omega) (λv _=>by unfold hy ih;simp[qs])
def Bc:eY (List be):=kD 32 (gw (λp=>⟨p.1,p.2⟩)<|ek (fH 24) λ_=>jR)
def lK(h:be):UB:=dq h.Key++mN h.Count
def abn:eB (gw (λp=>⟨p.1,p.2⟩)<|ek (fH 24) λ_=>jR) lK (λh=>h.Key.length<=24/\eo h.Count):=
 (pE.dep λ_ _=>mg).map (λp=>⟨p.1,p.2⟩) (λh:be=>(h.Key,h.Count)) _ lK (λb h=>⟨rfl,⟨h.1,h.2⟩,rfl⟩) (λa h=>⟨rfl,⟨h.1,h.2⟩⟩)
def ayR:eB Bc (cX lK) (λl=>l.length<=32/\∀h∈l,h.Key.length<=24/\eo h.Count):=abn.x4 _ (by omega) (λv _=>by unfold lK dq;simp[qs])
def RS:eB (fH 16384) dq (λs=>s.length<=16384):=wk 16384 (by omega)
def abo:eY kQ:=kD 16 (fH 16384)
def ayS:eB abo (cX dq) (λl=>l.length<=16/\∀s∈l,s.length<=16384):=RS.x4 _ (by omega) (λv _=>akS v)
def abp{n:Nat}(e:2000<=n){r:BE}(h:nK r):uC n r:=by
 have a:=h.2.2.2.2.1
 have b:(r.bM.Reads.length<=64/\∀v∈r.bM.Reads,v.length<=24)/\(r.bM.cp.length<=64/\∀v∈r.bM.cp,v.length<=24):=by
  unfold KJ at a;cases hd:r.eV
  ·rw[hd]at a;simp only[iO,UY,ll]at a;rw[a.1,a.2];simp
  ·rw[hd]at a;exact a
 have hd:∀l:kQ,(∀v∈l,v.length<=24)->∀i,(l.getD i default).length<n:=λl d i=>uG (P:=λv:UB=>v.length<n) (λx c=>by have:=d x c;omega) (by show 0<n;omega) i
 exact⟨by have:=h.2.2.1;omega,by have:=h.2.2.2.1.1;omega,λi=>uG (P:=λv:bJ=>v.S.length<n) (λx c=>by have:=pG<|h.2.2.2.1.2 x c;omega) (by show 0<n;omega) i,by have:=b.1.1;omega,by have:=b.2.1;omega,by have:=b.1.1;omega,by have:=b.2.1;omega,hd _ b.1.2,hd _ b.2.2⟩
abbrev KK:BE:=⟨0,0,[],[],false,⟨false,[],[]⟩⟩
section
variable {n:Nat} (d:2000<=n) (g:n<=2^63) {s:UB} (o:s.length<min n 1000000000)
theorem abq{a e:Int}(b:e≠0):zE n ⟨s,a,e⟩=some (0,a,e):=by unfold zE;simp only[ht b,UL]
theorem RT{k a e:Int}(b:e≠0):zC n k ⟨s,a,e⟩=some (0,a,e):=by unfold zC;simp only[ht b,UL]
theorem ayT{a e:Int}(b:e≠0):C3 n ⟨s,a,e⟩=some (false,a,e):=by unfold C3;simp only[ht b,UL]
theorem RU{k a e:Int}(b:e≠0):zD n k ⟨s,a,e⟩=some ([],a,e):=by unfold zD;simp only[ht b,UL]
theorem ayU{a e:Int}(b:e≠0):C5 n ⟨s,a,e⟩=some (⟨0,0,[]⟩,a,e):=by unfold C5;simp only[ht b,UL]
include d g o
theorem akU{t:UB}(a:t <:+ s):zE n ⟨s,bx s t,0⟩=some (res 0 s<|jm t):=by
 unfold zE sk;simp only[YW,UR,UK];rw[Ff a (by omega)<|by omega,aj,aj]
theorem akV{k:Nat}(b:k<=1000){t:UB}(a:t <:+ s):zC n (k:Int) ⟨s,bx s t,0⟩=some (res 0 s<|sV k t):=by
 unfold zC sk;simp only[YW,UR,UK];rw[wn a (by omega) (by omega)<|by omega,aj,aj]
theorem ayV{t:UB}(a:t <:+ s):C3 n ⟨s,bx s t,0⟩=some (res false s<|ux t):=by
 unfold C3 sk;simp only[YW,UR,UK];rw[ayg a<|by omega,aj,aj]
theorem akW{k:Nat}(b:k<=1000){t:UB}(a:t <:+ s):zD n (k:Int) ⟨s,bx s t,0⟩=some (res [] s<|fH k t):=by
 unfold zD sk;simp only[YW,UR,UK];rw[Fg a (by omega) (by omega)<|by omega,aj,aj]
theorem ayW{t:UB}(a:t <:+ s):C5 n ⟨s,bx s t,0⟩=some (res ⟨0,0,[]⟩ s<|om t):=by
 unfold C5 sk;simp only[YW,UR,UK];rw[abb a (by omega)<|by omega,aj,aj]
theorem abr{u:Nat}(t:u<min n 1000000000){b c:Int}{B:iY}(w:B.s=s):∀(k m i:Nat) (a e:Int) (f:kQ),e≠0->i+k=u->k<m->f.length=i->nh e (vB n ((u:Int),b,c) B m a e f (i:Int)):=by
 intro k;induction k with
 |zero=>
  intro m i a e f h q p l;obtain⟨m,rfl⟩:∃j,m=j+1:=⟨m-1,by omega⟩
  obtain rfl:i=u:=by omega
  simp only[vB,C4,UZ,UN,UK,NM];exact⟨_,_,rfl⟩
 |succ k r=>
  intro m i a e f h q p l;obtain⟨m,rfl⟩:∃j,m=j+1:=⟨m-1,by omega⟩
  simp only[vB,C4,UP,show i<u by omega,YW,UL,RU h,aj,U1]
  rw[iF<|by omega,aF,cu<|by omega]
  exact r m (i+1) a e _ h (by omega) (by omega) (by simp[l])
theorem akX{t:UB}(k:t <:+ s):match A_ t with|.ok (l,j)=>xc n ⟨s,bx s t,0⟩=some (l,bx s j,0)|.error e=>nh e (xc n ⟨s,bx s t,0⟩):=by
 unfold xc A_ kD;rw[show(64:Int)=((64:Nat):Int)from rfl,akV d g o (by omega) k,aj]
 generalize bx s t=A
 cases h:jS 64 t with
 |error e=>
  rw[uz h,f9];exact abr d g o (u:=0) (by omega) (B:=⟨s,A,0⟩) rfl 0 n 0 0 e [] (qr h) rfl (by omega) rfl
 |ok r=>
  let⟨u,j⟩:=r;let⟨E,K,M⟩:=rx h;have q:j <:+ s:=oD ⟨dw u,E.symm⟩ k;have I:=q.length_le;rw[sW h,h_]
  have c:=x8 (L:=λm i t a=>vB n ((u:Int),bx s j,0) ⟨s,A,0⟩ m (bx s t) 0 a (i:Int)) (f:=λ_ v=>v) (D:=fH 24) (u:=u) (s:=s) (fin:=λa t=>some (a,bx s t,0)) (bad:=λe x=>nh e x) (λx v t w=>pE.mf w) (by
   intro m i t a J y p k;simp only[vB,C4,UP,y,YW,UL];rw[show(24:Int)=((24:Nat):Int)from rfl,akW d g o (by omega) k,aj]
   have b:room (a.length+1) 16=true:=iF (by omega)
   cases g3:fH 24 t with
   |error e=>
    have z:=pE.dr _ _ g3;rw[f9];simp only[U1,b,aF];rw[cu<|by omega]
    exact abr d g o (by omega) (B:=⟨s,A,0⟩) rfl (u-(i+1)) m (i+1) _ e _ z (by omega) (by omega) (by simp[p])
   |ok r=>
    let⟨v,F⟩:=r;rw[h_];simp only[U1,b,aF];rw[cu<|by omega]) (by
   intro m t a p k;simp only[vB,C4,UZ,UN,UK,NM]) u n 0 j [] (by omega) (by omega) rfl q
  cases af:hq (fH 24) u j with
  |error e=>rw[af]at c;simp only[af]at c ⊢;exact c
  |ok r=>
   let⟨l,H⟩:=r;rw[af]at c;simp only[iK,x9,af]at c ⊢;exact c
theorem ayX{a e:Int}(b:e≠0):nh e (xc n ⟨s,a,e⟩):=by
 unfold xc;rw[RT b,aj];exact abr d g o (u:=0) (by omega) (B:=⟨s,a,e⟩) rfl 0 n 0 a e [] b rfl (by omega) rfl
theorem ayY{r1 r2:Int×Int×Int}{r3:UB×Int×Int}{a e:Int}{l:List bJ}(b:e≠0):C6 n r1 r2 s r3 a e l=some (KK,0,e):=by
 unfold C6;rw[ayT b,aj];simp only[UK,vC,ht b,UL]
theorem KL{u:Nat}(t:u<min n 1000000000){b c:Int}{r1 r2:Int×Int×Int}{r3:UB×Int×Int}:∀(k m i:Nat) (a e:Int) (f:List bJ),e≠0->i+k=u->k<m->f.length=i->vD n r1 r2 ((u:Int),b,c) s r3 m a e f (i:Int)=some (KK,0,e):=by
 intro k;induction k with
 |zero=>
  intro m i a e f h q p l;obtain⟨m,rfl⟩:∃j,m=j+1:=⟨m-1,by omega⟩
  obtain rfl:i=u:=by omega
  simp only[vD,C7,UZ,UN,UK];exact ayY d g o h
 |succ k r=>
  intro m i a e f h q p l;obtain⟨m,rfl⟩:∃j,m=j+1:=⟨m-1,by omega⟩
  simp only[vD,C7,UP,show i<u by omega,YW,UL,ayU h,aj,U1]
  rw[iF<|by omega,aF,cu<|by omega]
  exact r m (i+1) a e _ h (by omega) (by omega) (by simp[l])
theorem akY{r1 r2:Int×Int×Int}{r3:UB×Int×Int}{l:List bJ}{r24:Bool×Int×Int}{t:UB}{ks ws:kQ}(e:hr r1.1)(c:hr r2.1)(h:uC n<|pH (r1.1,r2.1,r3.1,l,r24.1,(ks,ws))):
 vC n r1 r2 s r3 l r24 (bx s t) 0 ks ws=some (res KK s (if wo (pH (r1.1,r2.1,r3.1,l,r24.1,(ks,ws)))then .ok (pH (r1.1,r2.1,r3.1,l,r24.1,(ks,ws)),t)else .error 5)):=by
 unfold vC wo;unfold hr at e c;simp only[YW,UR,UK];by_cases a:r1.1<=32/\r2.1<=1099511627776
 ·simp only[show¬ 32<r1.1 by omega,show¬ 1099511627776<r2.1 by omega,UN,UK,wr (x:=r1.1) (by omega)<|by omega,wr (x:=r2.1) (by omega)<|by omega]
  rw[show p5 n ⟨r1.1,r2.1,r3.1,l,r24.1,⟨false,ks,ws⟩⟩=some (rB<|pH (r1.1,r2.1,r3.1,l,r24.1,(ks,ws)))from RF d g h,aj]
  rw[show decide ((pH (r1.1,r2.1,r3.1,l,r24.1,(ks,ws))).Et<=32)=true from fp a.1,show decide ((pH (r1.1,r2.1,r3.1,l,r24.1,(ks,ws))).Seq<=1099511627776)=true from fp a.2]
  by_cases b:rB (pH (r1.1,r2.1,r3.1,l,r24.1,(ks,ws)))=0
  ·simp only[b,YW,UR,UK,nG,U3];rfl
  ·simp only[b,UN,YY,UL,kL,iO,UY];rfl
 ·have i:(bif (decide<|32<r1.1)then true else(decide<|1099511627776<r2.1))=true:=by
   rw[dU,<-xy];exact fp (by omega)
  have f:(decide ((pH (r1.1,r2.1,r3.1,l,r24.1,(ks,ws))).Et<=32)&&decide ((pH (r1.1,r2.1,r3.1,l,r24.1,(ks,ws))).Seq<=1099511627776))=false:=by
   rw[<-qm];exact en a
  simp only[i,f,UL,jH,iO,UY];rfl
theorem ayZ{t:UB}(F:t <:+ s):NN n s (bx s t)=some (res KK s<|Bb t):=by
 unfold NN Bb oi gw abl ek;rw[akU d g o F,aj];cases g1:jm t with
 |error e=>
  have c:=ol.dr _ _ g1;rw[f9];simp only[abq c,RU c,RT c,aj];exact KL d g o (u:=0) (by omega) 0 n 0 _ e [] c rfl (by omega) rfl
 |ok r=>
  let⟨z,E⟩:=r;have U:=kh ol g1 F;have J:=(ol.gY _ _ _ g1).2;rw[h_];simp only
  rw[akU d g o U,aj];cases g2:jm E with
  |error e=>
   have c:=ol.dr _ _ g2;rw[f9];simp only[abq c,RU c,RT c,aj];exact KL d g o (u:=0) (by omega) 0 n 0 _ e [] c rfl (by omega) rfl
  |ok r=>
   let⟨A,B⟩:=r;have W:=kh ol g2 U;have M:=(ol.gY _ _ _ g2).2;rw[h_];simp only
   rw[show(16:Int)=((16:Nat):Int)from rfl,akW d g o (by omega) W,aj]
   cases g3:fH 16 B with
   |error e=>
    have c:=RQ.dr _ _ g3;rw[f9];simp only[abq c,RU c,RT c,aj];exact KL d g o (u:=0) (by omega) 0 n 0 _ e [] c rfl (by omega) rfl
   |ok r=>
    let⟨w,q⟩:=r;have Z:=kh RQ g3 W;have H:=(RQ.gY _ _ _ g3).2;rw[h_];simp only
    rw[show(6:Int)=((6:Nat):Int)from rfl,akV d g o (by omega) Z,aj]
    unfold kD;cases h:jS 6 q with
    |error e=>
     have c:=qr h;rw[uz h,f9];exact KL d g o (u:=0) (by omega) 0 n 0 _ e [] c rfl (by omega) rfl
    |ok r=>
     let⟨u,N⟩:=r;let⟨h1,h2,ah⟩:=rx h;have O:N <:+ s:=oD ⟨dw u,h1.symm⟩ Z;have hu:=O.length_le;rw[sW h,h_]
     have y:=x8 (L:=λm i t k=>vD n (z,bx s E,0) (A,bx s B,0) ((u:Int),bx s N,0) s (w,bx s q,0) m (bx s t) 0 k (i:Int)) (f:=λ_ v=>v) (D:=om) (u:=u) (s:=s) (fin:=λk t=>C6 n (z,bx s E,0) (A,bx s B,0) s (w,bx s q,0) (bx s t) 0 k) (bad:=λe x=>x=some (KK,0,e)) (λx v t hx=>wm.mf hx) (by
      intro m i t k hm hi X F;simp only[vD,C7,UP,hi,YW,UL];rw[ayW d g o F,aj];have p:room (k.length+1) 32=true:=iF (by omega)
      cases g3:om t with
      |error e=>
       have c:=wm.dr _ _ g3;rw[f9];simp only[U1,p,aF];rw[cu<|by omega]
       exact KL d g o (by omega) (u-(i+1)) m (i+1) _ e _ c (by omega) (by omega) (by simp[X])
      |ok r=>
       let⟨v,q⟩:=r;rw[h_];simp only[U1,p,aF];rw[cu<|by omega]) (by
      intro m t k X F;simp only[vD,C7,UZ,UN,UK]) u n 0 N [] (by omega) (by omega) rfl O
     cases af:hq om u N with
     |error e=>rw[af]at y;simp only[af]at y ⊢;exact y
     |ok r=>
      let⟨l,T⟩:=r;let⟨bz,bD,Y⟩:=(wm.rep u).gY _ _ _ af;have RK:T <:+ s:=kh (wm.rep u) af O;rw[af]at y;simp only[iK,x9,af]at y ⊢;refine y.trans ?_;unfold C6;rw[ayV d g o RK,aj];cases g5:ux T with
      |error e=>
       have c:=aa8.dr _ _ g5;rw[f9];simp only[UK,vC,ht c,UL,f9]
      |ok r=>
       let⟨b,K⟩:=r;have I:=kh aa8 g5 RK;rw[h_];cases b with
       |false=>
        simp only[UK];have S:nK (pH (z,A,w,l,false,([],[]))):=⟨J,M,H,⟨by show l.length<=6;omega,Y⟩,rfl,rfl⟩
        exact akY d g o (r1:=(z,bx s E,0)) (r2:=(A,bx s B,0)) (r3:=(w,bx s q,0)) (l:=l) (r24:=(false,bx s K,0)) (t:=K) (ks:=[]) (ws:=[]) J M<|abp d S
       |true=>
        have j:=akX d g o I;simp only[UL,abk,U3,ek];cases g6:A_ K with
        |error e=>
         have c:=Ba.dr _ _ g6;rw[g6]at j;let⟨v,a,j⟩:=j;rw[j,aj];let⟨ku,eA,qR⟩:=ayX d g o (a:=a) c;simp only[qR,aj,vC,ht c,UL,f9]
        |ok r=>
         let⟨ks,t6⟩:=r;have R:=kh Ba g6 I;have Q:=(Ba.gY _ _ _ g6).2;rw[g6]at j;simp only at j ⊢
         rw[j,aj];have j:=akX d g o R;simp only
         cases g7:A_ t6 with
         |error e=>
          have c:=Ba.dr _ _ g7;rw[g7]at j;let⟨v,a,j⟩:=j;rw[j,aj];simp only[vC,ht c,UL,f9]
         |ok r=>
          let⟨ws,t7⟩:=r;have P:=(Ba.gY _ _ _ g7).2;rw[g7]at j;simp only at j ⊢
          rw[j,aj];simp only
          have S:nK (pH (z,A,w,l,true,(ks,ws))):=⟨J,M,H,⟨by show l.length<=6;omega,Y⟩,⟨Q,P⟩,rfl⟩
          exact akY d g o (r1:=(z,bx s E,0)) (r2:=(A,bx s B,0)) (r3:=(w,bx s q,0)) (l:=l) (r24:=(true,bx s K,0)) (t:=t7) (ks:=ks) (ws:=ws) J M (abp d S)
theorem ay3{t:UB}(c:t <:+ s):NP n s (bx s t)=some (res [] s<|rG t):=by
 unfold NP rG kD;rw[show(64:Int)=((64:Nat):Int)from rfl,wn c (by omega) (by omega)<|by omega,aj]
 cases h:jS 64 t with
 |error e=>rw[uz h,f9];simp only[ht<|qr h,UL,f9]
 |ok r=>
  let⟨u,b⟩:=r;let⟨p,y,z⟩:=rx h;have f:b <:+ s:=oD ⟨dw u,p.symm⟩ c;have w:=f.length_le;rw[sW h,h_];simp only[YW,UR,UK];rw[show zF n s ((u:Int),bx s b,0) n [] 0 (bx s b)=_ from akr (L:=λm i t a=>zF n s ((u:Int),bx s b,0) m a (i:Int)<|bx s t) (D:=Bb) (u:=u) (s:=s) (fin:=λa t=>some (a,bx s t,0)) (bad:=λe=>some ([],0,e)) (λx v t j=>abm.mf j) ?_ ?_ (by omega) f]
  ·cases af:hq Bb u b with
   |error e=>rfl
   |ok r=>rfl
  ·intro m i t a k l c;simp only[zF,NO,UP,k,YW,UL];rw[ayZ d g o c,aj];cases ay:Bb t with
   |error e=>rw[f9];simp only[ht<|abm.dr _ _ ay,UL]
   |ok r=>
    let⟨x,q⟩:=r;rw[h_];simp only[YW,UR,UK,U1];rw[iF<|by omega,aF,cu<|by omega]
  ·intro m t a l c;simp only[zF,NO,UZ,UN,UK,V0]
end
section
variable {n:Nat} (c:2000<=n) (a:n<=2^63) {s:UB} (b:s.length<min n 1000000000)
include c a b
end
structure ak1(p:bk):Prop where
 v:n_ p=0
 i:uk p
 w:avF p<=250000
def hz(p:bk):UB:=if n_ p=0 then me p else[]
structure pI(p:bk):Prop where
 i:uk p
 n:p.BY.length<=300000
 f:ja p.Cq<=300000
 b:dV p.BZ<=300000
def ak1.sz{p:bk}(h:ak1 p):pI p:=by
 have a:p.BY.length+ja p.Cq+dV p.BZ<=250000:=h.w;exact⟨h.i,by omega,by omega,by omega⟩
def abs{n:Nat}{p:bk}(h:pI p)(c:100000000<=n):w_ n p=some (hz p):=by
 have e:=h.n;have d:=h.f;have g:=h.b;unfold hz;by_cases a:n_ p=0
 ·rw[eI a];exact axo p h.i a (by omega) h.f h.b
 ·rw[de a];unfold w_;rw[aao p (by omega) (by omega) (by omega) (by omega)<|by omega]
  simp only[aj,a,UN,YY,UL]
def ak2{n:Nat}{p:bk}(h:pI p)(c:100000000<=n):An n p=some (hz p):=by
 have e:=h.n;have d:=h.f;have g:=h.b;unfold hz;by_cases a:n_ p=0
 ·rw[eI a];exact axV p h.i a (by omega) h.f h.b
 ·rw[de a];unfold An;rw[ajb p (by omega) (by omega) (by omega) (by omega) (by omega) (by omega)<|by omega]
  simp only[aj,a,UN,YY,UL]
def ak3{p:bk}(h:pI p):(hz p).length<=1300000:=by
 unfold hz;by_cases a:n_ p=0
 ·rw[eI a];have:=ajY<|Rv h.i a
  have c:=h.b;omega
 ·rw[de a];simp
def aDF(x:aq):⟨x.bu,x.bi,x.Rows⟩=x:=rfl
def aDG(x:dv):⟨x.Br,x.aI⟩=x:=rfl
def aDH(x:BE):⟨x.Et,x.Seq,x.bk,x.ax,x.eV,⟨x.bM.fl,x.bM.Reads,x.bM.cp⟩⟩=x:=rfl
def aDI(x:bK):⟨x.Pos,⟨x.aq.bu,x.aq.bi,x.aq.Rows⟩,x.bY,x.b7,⟨x.EG.Br,x.EG.aI⟩,x.be,x.EK,x.cN⟩=x:=rfl
def wq(l:List bk):Bool:=(allI l.length λi=>!(decide (hz (l.getD i default)=[])||decide (16384<(((hz<|l.getD i default).length:Nat):Int)))&&(!decide (0<(i:Int))||Op.bytesLess (l.getD (pv i) default).BY (l.getD i default).BY))&&decide (l.length<=16)
def yc(l:List BE):Bool:=(allI l.length λi=>decide<|rB (l.getD i default)=0)&&decide (l.length<=64)
def gx(r:bK):Bool:=((((((((decide (0<=r.Pos)&&decide (r.Pos<=1099511627776))&&gN r.aq)&&decide (r.aq.bi=r.Pos))&&wq r.bY)&&pF r.b7)&&oW r.EG)&&uA r.be)&&yc r.EK)
structure wu(n:Nat)(r:bK):Prop where
 st:s0 n r.aq
 Bd:r.bY.length<n
 kR:∀i,pI<|r.bY.getD i default
 uI:r.b7.length<n
 nL:∀i,sZ n<|r.b7.getD i default
 pl:r.EG.aI.length<n
 Be:∀i,uF n<|r.EG.aI.getD i default
 az:r.be.length<n
 lp:∀i,(r.be.getD i default).Key.length<n
 ou:r.EK.length<n
 uJ:∀i,uC n (r.EK.getD i default)
def ak4:pI default:=by
 refine⟨⟨by show([]:UB).length<=_;simp,by show([]:List BM).length<=_;simp,λi a=>by exact absurd a (by show¬ i<([]:List BM).length;simp),trivial⟩,by show([]:UB).length<=_;simp,by show ja []<=_;simp[ja],by show dV []<=_;simp[dV]⟩
section
variable {n:Nat} (c:100000000<=n) (a:n<=2^63)
include c a
theorem ay4{l:List bk}(e:l.length<n)(h:∀i,pI<|l.getD i default):Ot n l=some (wq l):=by
 unfold Ot wq;rw[iA (L:=Dn n l) (U2:=λi=>!(decide (hz (l.getD i default)=[])||decide (16384<(((hz<|l.getD i default).length:Nat):Int)))&&(!decide (0<(i:Int))||Op.bytesLess (l.getD (pv i) default).BY (l.getD i default).BY)) (no:=false) (yes:=true) e,mi]
 ·simp only[fq];by_cases d:l.length<=16
  ·simp only[d,show¬ 16<l.length by omega,YW,UN,UK,oP]
  ·simp only[d,show 16<l.length by omega,YW,UN,UL,kL]
 ·intro m i b;simp only[Dn,Oq,UP,b,YW,UL,bW b,aF,aj,US,cu (show i<=2^63-2 by omega),abs (h i) c,mh b (show l.length<=2^63-1 by omega)]
  exact iT (by simp only[dU,ew,nD,oL,lb,<-qt])
 ·intro m;simp only[Dn,Oq,WF,UZ,UN,UK]
theorem ay5{l:List bk}(d:l.length<n)(h:∀i,pI<|l.getD i default):PW n l=some (wq l):=by
 unfold PW wq;rw[iA (L:=D6 n l) (U2:=λi=>!(decide (hz (l.getD i default)=[])||decide (16384<(((hz<|l.getD i default).length:Nat):Int)))&&(!decide (0<(i:Int))||Op.bytesLess (l.getD (pv i) default).BY (l.getD i default).BY)) (no:=false) (yes:=decide<|l.length<=16) d,sX]
 ·intro m i b;simp only[D6,PV,UP,b,YW,UL,bW b,aF,aj,US,cu (show i<=2^63-2 by omega),ak2 (h i) c,A4 b,mh b (show l.length<=2^63-1 by omega),U4]
  exact iT (by simp only[dU,ew,nD,oL,lb])
 ·intro m;simp only[D6,PV,Yx,UZ,UN,UK,mH]
theorem ak5(x y:Int):decide (x<y) = !decide (y<=x):=by
 by_cases h:y<=x
 ·rw[fp h,en<|by omega];rfl
 ·rw[en h,fp<|by omega];rfl
theorem Fp{r:bK}(h:wu n r):tW n r=some (gx r):=by
 have e:zY n r n 0=some (if(allI r.EK.length λi=>decide<|rB (r.EK.getD i default)=0) then((pF r.b7&&oW r.EG)&&uA r.be)else false):=by
  refine iA (L:=zY n r) h.ou ?_ ?_
  ·intro m i b;simp only[zY,Ou,UP,b,YW,UL,bW b,aF,US,cu (show i<=2^63-2 by have:=h.ou;omega)]
   rw[RF (by omega) a<|h.uJ i,aj]
   exact iT rfl
  ·intro m;simp only[zY,Ou,WG,UZ,UN,UK];rw[RG (by omega) a h.uI h.nL,akA (by omega) a h.pl h.Be,ayp (by omega) a h.az]
   simp only[aj,qu,ew];cases pF r.b7<;>cases oW r.EG<;>rfl
 unfold tW;rw[e,Fj (by omega) a h.st,ay4 c a h.Bd h.kR]
 simp only[aj,qu,dU,ew,fq];unfold gx yc;rw[show decide (r.Pos<0) = !decide (0<=r.Pos)from ak5 c a _ _,show decide (1099511627776<r.Pos) = !decide (r.Pos<=1099511627776)from ak5 c a _ _]
 by_cases d:r.EK.length<=64
 ·simp only[d,show¬ 64<r.EK.length by omega,YW,UN,oP,wE,sX]
  cases decide (0<=r.Pos)<;>cases decide (r.Pos<=1099511627776)<;>cases gN r.aq<;>cases decide (r.aq.bi=r.Pos)<;>cases wq r.bY<;>cases pF r.b7<;>cases oW r.EG<;>cases uA r.be<;>simp
 ·simp only[d,show 64<r.EK.length by omega,YW,UN,kL,U4,UL]
theorem ay6{l:List BE}(d:l.length<n)(h:∀i,uC n<|l.getD i default):P0 n l=some (yc l):=by
 unfold P0 yc;rw[iA (L:=D8 n l) (U2:=λi=>decide<|rB (l.getD i default)=0) (no:=false) (yes:=decide<|l.length<=64) d,sX]
 ·intro m i b;simp only[D8,PZ,UP,b,YW,UL,bW b,aF,aj,US,cu (show i<=2^63-2 by omega),akx (show 2000<=n by omega) a<|h i]
  exact iT rfl
 ·intro m;simp only[D8,PZ,YA,UZ,UN,UK,mH]
theorem abt{r:bK}(h:wu n r):D9 n r=some (gx r):=by
 unfold D9 gx;rw[abf (by omega) a h.st,ay5 c a h.Bd h.kR,akE (by omega) a h.uI h.nL,ayx (by omega) a h.pl h.Be,ayq (by omega) a h.az h.lp,ay6 c a h.ou h.uJ]
 simp only[aj,qu,ew];cases decide (0<=r.Pos)<;>cases decide (r.Pos<=1099511627776)<;>cases gN r.aq<;>cases decide (r.aq.bi=r.Pos)<;>cases wq r.bY<;>cases pF r.b7<;>cases oW r.EG<;>cases uA r.be<;>rfl
omit c a in
theorem uK{L:Nat->Int->UM}{len m:Nat}(d:len<m)(step:∀m i,i<len->L (m+1) (i:Int)=L m ((i+1:Nat):Int))(b:∀m,L (m+1) (len:Int)=some true):L m 0=some true:=by
 have:=iA (U2:=λ_=>true) (no:=false) (yes:=true) d (λm i e=>by rw[step m i e,eI rfl]) b
 rw[this,mi]
 congr 1
 rw[hN];exact λ_ _=>rfl
theorem ay7{s:aq}(h:s0 n s):O9 n s s=some true:=by
 have g:=h.rows;unfold O9;simp only[YW,UR,UK];refine uK (L:=xo n s s) g (λm i e=>?_)<|λm=>?_
 ·have f:=(h.row i).rj;simp only[xo,O8,UP,e,YW,UL,bW e,aF,US,UR,UK]
  have:=akB (L:=DK n (xo n s s m) (i:Int) s s) (len:=(s.Rows.getD i default).aR.length) (U2:=λ_=>true) (no:=false) (yes:=xo n s s m ((i+1:Nat):Int)) (m:=n) f (λb k d=>by
   simp only[DK,O7,UP,US,d,YW,UL,bW d,aF,nG,UR,UK,U3,cu (show k<=2^63-2 by omega)]) (λb=>by
   simp only[DK,O7,Xt,US,UZ,UN,UK,cu (show i<=2^63-2 by omega)])
  rw[this,eI];rw[hN];exact λ_ _=>rfl
 ·simp only[xo,O8,Xs,UZ,UN,UK]
theorem ay9{l:List bk}(g:l.length<n)(h:∀i,pI<|l.getD i default):O6 n l l=some true:=by
 unfold O6;simp only[YW,UR,UK];refine uK (L:=DJ n l l) g (λm i d=>?_)<|λm=>?_
 ·have e:=h i;have j:=e.f;have o:=e.b;have k:=ES (l.getD i default).Cq;simp only[DJ,O5,UP,d,YW,UL,bW d,aF,US,av3 (n:=n) (l.getD i default) (by omega) (by omega) (by omega)<|by omega,aj,UR,UK,cu (show i<=2^63-2 by omega)]
 ·simp only[DJ,O5,Xr,UZ,UN,UK]
theorem ay'{o:Bt}(h:A6 n o):IA n o o=some true:=by
 have d:=h.out;unfold IA;simp only[YW,UR,UK];refine uK (L:=DO n o o) d (λm i b=>?_)<|λm=>?_
 ·simp only[DO,Pe,UP,b,YW,UL,bW b,aF,US,nG,UR,UK,cu (show i<=2^63-2 by omega)]
 ·simp only[DO,Pe,Xy,UZ,UN,UK]
theorem ay_{s:b3}(h:sZ n s):Pg n s.ce s.ce=some true:=by
 have d:=h.rep;unfold Pg;simp only[YW,UR,UK];refine uK (L:=DP n s.ce s.ce) d (λm i b=>?_)<|λm=>?_
 ·have:=ay' c a<|h.out i
  simp only[DP,Pf,Xz,UP,b,YW,UL,bW b,aF,US];rw[show IA n ⟨(s.ce.getD i default).Bt.Status,(s.ce.getD i default).Bt.Code,(s.ce.getD i default).Bt.Out⟩ ⟨(s.ce.getD i default).Bt.Status,(s.ce.getD i default).Bt.Code,(s.ce.getD i default).Bt.Out⟩=some true from this]
  simp only[aj,UL,UR,UK,cu (show i<=2^63-2 by omega)]
 ·simp only[DP,Pf,XA,UZ,UN,UK]
theorem aza{l:List b3}(d:l.length<n)(h:∀i,sZ n<|l.getD i default):Pi n l l=some true:=by
 unfold Pi;simp only[YW,UR,UK];refine uK (L:=DQ n l l) d (λm i b=>?_)<|λm=>?_
 ·simp only[DQ,Ph,UP,b,YW,UL,bW b,aF,US,ay_ c a<|h i,aj,UR,YY,UK,jJ,cu (show i<=2^63-2 by omega)]
 ·simp only[DQ,Ph,XB,UZ,UN,UK]
theorem azb{p:dv}(d:p.aI.length<n):O_ n p p=some true:=by
 unfold O_;simp only[YW,UR,UK];refine uK (L:=DL n p p) d (λm i b=>?_)<|λm=>?_
 ·simp only[DL,O',UP,b,YW,UL,bW b,aF,US,nG,UR,UK,cu (show i<=2^63-2 by omega)]
 ·simp only[DL,O',Xu,UZ,UN,UK]
theorem azc{l:List be}(d:l.length<n):Pb n l l=some true:=by
 unfold Pb;simp only[YW,UR,UK];refine uK (L:=DM n l l) d (λm i b=>?_)<|λm=>?_
 ·simp only[DM,Pa,UP,b,YW,UL,bW b,aF,US,nG,UR,UK,cu (show i<=2^63-2 by omega)]
 ·simp only[DM,Pa,Xv,UZ,UN,UK]
theorem abu{l:kQ}(d:l.length<n):Ae n l l=some true:=by
 unfold Ae;simp only[YW,UR,UK];refine uK (L:=DF n l l) d (λm i b=>?_)<|λm=>?_
 ·simp only[DF,OW,UP,b,YW,UL,bW b,aF,US,UR,UK,cu (show i<=2^63-2 by omega)]
 ·simp only[DF,OW,W7,UZ,UN,UK]
theorem azd{r:BE}(h:uC n r):Pd n r r=some true:=by
 have d:=h.args;unfold Pd Xw;rw[abu c a h.KE,abu c a h.KF];simp only[YW,UR,UK,beq_self_eq_true,YY,UL,aj];refine uK (L:=DN n r r) d (λm i b=>?_)<|λm=>?_
 ·simp only[DN,Pc,UP,b,YW,UL,bW b,aF,US,nG,UR,UK,cu (show i<=2^63-2 by omega)]
 ·simp only[DN,Pc,Xx,UZ,UN,UK]
theorem aze{r:bK}(h:wu n r):Pk n r r=some true:=by
 have d:=h.ou;unfold Pk;rw[ay7 c a h.st,ay9 c a h.Bd h.kR,aza c a h.uI h.nL,azb c a h.pl,azc c a h.az];simp only[YW,UR,YY,UK,UL,aj];refine uK (L:=DR n r r) d (λm i b=>?_)<|λm=>?_
 ·simp only[DR,Pj,UP,b,YW,UL,bW b,aF,US,azd c a<|h.uJ i,aj,UR,UK,cu (show i<=2^63-2 by omega)]
 ·simp only[DR,Pj,XC,UZ,UN,UK]
end
abbrev Fq:=Int×List aQ×kQ×List b3×dv×List be×List BE×Int
def RV:eY Fq:=ek jR λ_=>ek Fl λ_=>ek abo λ_=>ek yb λ_=>ek x' λ_=>ek Bc λ_=>ek rG λ_=>jm
def gy(p:Fq):UB:=mN p.1++(cX jT p.2.1++(cX dq p.2.2.1++(cX jc p.2.2.2.1++(ld p.2.2.2.2.1++(cX lK p.2.2.2.2.2.1++(cX hy p.2.2.2.2.2.2.1++ih p.2.2.2.2.2.2.2))))))
structure wv(p:Fq):Prop where
 pos:eo p.1
 kR:(p.2.1.length<=2147483647/\∀v∈p.2.1,s2 v)/\mj p.2.1=true
 src:p.2.2.1.length<=16/\∀s∈p.2.2.1,s.length<=16384
 nL:(p.2.2.2.1.length<=32/\∀v∈p.2.2.2.1,rF v)/\pF p.2.2.2.1=true
 uL:(eo p.2.2.2.2.1.Br/\p.2.2.2.2.1.aI.length<=16/\∀v∈p.2.2.2.2.1.aI,rE v)/\oW p.2.2.2.2.1=true
 az:p.2.2.2.2.2.1.length<=32/\∀h∈p.2.2.2.2.2.1,h.Key.length<=24/\eo h.Count
 ou:p.2.2.2.2.2.2.1.length<=64/\∀v∈p.2.2.2.2.2.2.1,nK v/\wo v=true
 RW:hr p.2.2.2.2.2.2.2
def azf:eB RV gy wv:=
 (mg.dep λ_ _=>RH.dep λ_ _=>ayS.dep λ_ _=>RN.dep λ_ _=>RI.dep λ_ _=>ayR.dep λ_ _=>RR.dep λ_ _=>ol).as _ _
  (λv=>⟨λh=>⟨h.pos,h.kR,h.src,h.nL,h.uL,h.az,h.ou,h.RW⟩,λh=>⟨h.1,h.2.1,h.2.2.1,h.2.2.2.1,h.2.2.2.2.1,h.2.2.2.2.2.1,h.2.2.2.2.2.2.1,h.2.2.2.2.2.2.2⟩⟩) (λv _=>rfl)
def azg{k:Nat}{t:UB}{e:Int}(h:sV k t = .error e):e≠0:=by
 unfold sV gw at h;cases h2:jS k t with
 |error f=>rw[h2]at h;cases h;exact qr h2
 |ok r=>rw[h2]at h;cases h
def jd{α:Type}(z:α)(s:UB)(a:Int):Except Int (α×UB)->α×Int×Int
 |.ok (v,t)=>(v,bx s t,0)
 |.error e=>(z,a,e)
section
variable {n:Nat} (w:100000000<=n) (d:n<=2^63) {s:UB} (o:s.length<min n 1000000000)
theorem yd{α:Type}{z:α}{D:eY α}{t:UB}{a:Int}(h0:∀e,D t = .error e->e≠0):(bif (!decide ((res z s<|D t).2.2=0))then some (z,a,(res z s<|D t).2.2)else some ((res z s<|D t).1,(res z s<|D t).2.1,(res z s<|D t).2.2))=some (jd z s a<|D t):=by
 cases h:D t with
 |error e=>rw[f9];simp only[ht<|h0 e h,UL];rfl
 |ok r=>let⟨v,b⟩:=r;rfl
theorem azh{a e:Int}(b:e≠0):zJ n ⟨s,a,e⟩=some (0,a,e):=by unfold zJ;simp only[ht b,UL]
theorem azi{a e:Int}(b:e≠0):CY n ⟨s,a,e⟩=some ([],a,e):=by unfold CY;simp only[ht b,UL]
theorem KM{p a e:Int}(b:e≠0):zI n p ⟨s,a,e⟩=some (0,a,e):=by unfold zI;simp only[ht b,UL]
theorem azj{a e:Int}(b:e≠0):C_ n ⟨s,a,e⟩=some ([],a,e):=by unfold C_;simp only[ht b,UL]
theorem ak6{a e:Int}(b:e≠0):C2 n ⟨s,a,e⟩=some (⟨0,[]⟩,a,e):=by unfold C2;simp only[ht b,UL]
theorem azk{a e:Int}(b:e≠0):C8 n ⟨s,a,e⟩=some ([],a,e):=by unfold C8;simp only[ht b,UL]
theorem ak7{a e:Int}(b:e≠0):Da n ⟨s,a,e⟩=some (0,a,e):=by unfold Da;simp only[ht b,UL]
include w d o
theorem ak8{t:UB}(a:t <:+ s):zJ n ⟨s,bx s t,0⟩=some (jd 0 s (bx s t)<|jR t):=by
 unfold zJ;simp only[YW,UR,UK];rw[aba a (by omega)<|by omega,aj];exact yd (λe h=>mg.dr _ _ h)
theorem azl{t:UB}(a:t <:+ s):CY n ⟨s,bx s t,0⟩=some (jd [] s (bx s t)<|Fl t):=by
 unfold CY;simp only[YW,UR,UK];rw[ayG (by omega) d o a,aj];exact yd (λe h=>RH.dr _ _ h)
theorem ak9{k:Nat}(b:k<=1000){t:UB}(a:t <:+ s):zI n (k:Int) ⟨s,bx s t,0⟩=some (jd 0 s (bx s t)<|sV k t):=by
 unfold zI V1;simp only[YW,UR,UK];rw[wn a (by omega) (by omega)<|by omega,aj,aj];exact yd (λe h=>azg h)
theorem ak'{k:Nat}(b:k<=20000){t:UB}(a:t <:+ s):HL n (k:Int) ⟨s,bx s t,0⟩=some (jd [] s (bx s t)<|fH k t):=by
 unfold HL V2;simp only[YW,UR,UK];rw[Fg a (by omega) (by omega)<|by omega,aj,aj];exact yd (λe h=>(wk k<|by omega).dr _ _ h)
theorem azm{t:UB}(a:t <:+ s):C_ n ⟨s,bx s t,0⟩=some (jd [] s (bx s t)<|yb t):=by
 unfold C_;simp only[YW,UR,UK];rw[ayO (by omega) d o a,aj];exact yd (λe h=>RN.dr _ _ h)
theorem azn{t:UB}(a:t <:+ s):C2 n ⟨s,bx s t,0⟩=some (jd ⟨0,[]⟩ s (bx s t)<|x' t):=by
 unfold C2;simp only[YW,UR,UK];rw[ayJ (by omega) d o a,aj];exact yd (λe h=>RI.dr _ _ h)
theorem azo{t:UB}(a:t <:+ s):C8 n ⟨s,bx s t,0⟩=some (jd [] s (bx s t)<|rG t):=by
 unfold C8;simp only[YW,UR,UK];rw[ay3 (by omega) d o a,aj];exact yd (λe h=>RR.dr _ _ h)
theorem azp{t:UB}(a:t <:+ s):Da n ⟨s,bx s t,0⟩=some (jd 0 s (bx s t)<|jm t):=by
 unfold Da;simp only[YW,UR,UK];rw[Ff a (by omega)<|by omega,aj];exact yd (λe h=>ol.dr _ _ h)
theorem azq{b:fQ}(f:b.s=s){r1 r26 r27 r2 v25}{a e:Int}{l:List be}(c:e≠0):nh e (xe n b r1 r26 r27 r2 v25 a e l):=by
 unfold xe;rw[azk c,aj,ak7 c,aj];exact⟨_,_,rfl⟩
theorem Fr{b:fQ}(h:b.s=s){r1 r26 r27 r2 v25}{a e c:Int}{l:List be}{m:Nat}(f:e≠0):nh e (tQ n b r1 r26 r27 r2 v25 (m+1) a e l c):=by
 have g:decide (e=0)=false:=en f;simp only[tQ,HN,g,ew,kL,UK];exact azq w d o h f
theorem azr{b:fQ}(f:b.s=s){r1 r2}{a e:Int}{l:kQ}(c:e≠0):nh e (xf n b r1 r2 a e l):=by
 unfold xf CT;rw[azj c,aj,ak6 c,aj,aj,KM c,aj];obtain⟨m,rfl⟩:∃j,n=j+1:=⟨n-1,by omega⟩
 exact Fr w d o f c
theorem RX{b:fQ}(h:b.s=s){r1 r2}{a e c:Int}{l:kQ}{m:Nat}(f:e≠0):nh e (xg n b r1 r2 (m+1) a e l c):=by
 have g:decide (e=0)=false:=en f;simp only[xg,HO,g,ew,kL,UK];exact azr w d o h f
theorem azs{b:fQ}(h:b.s=s){r1:Int×Int×Int}{r26:List b3×Int×Int}{r27:dv×Int×Int}{r2:List aQ×Int×Int}{v25:kQ}{l:List be}{t:UB}(a:t <:+ s):
 match ek rG (λ_=>jm) t with|.ok (p,i)=>xe n b r1 r26 r27 r2 v25 (bx s t) 0 l=some (⟨⟨r1.1,⟨0,0,[]⟩,[],r26.1,r27.1,l,p.1,p.2⟩,r2.1,v25⟩,bx s i,0)|.error e=>nh e (xe n b r1 r26 r27 r2 v25 (bx s t) 0 l):=by
 unfold xe ek;rw[h,azo w d o a,aj];cases g1:rG t with
 |error e=>
  have g:=RR.dr _ _ g1;simp only[jd];rw[ak7 g,aj];exact⟨_,_,rfl⟩
 |ok r=>
  let⟨j,c⟩:=r;have f:=kh RR g1 a;simp only[jd];rw[azp w d o f,aj];cases g2:jm c with
  |error e=>exact⟨_,_,rfl⟩
  |ok r=>rfl
theorem azt{b:fQ}(A:b.s=s){r1:Int×Int×Int}{r26:List b3×Int×Int}{r27:dv×Int×Int}{r2:List aQ×Int×Int}{v25:kQ}{u:Nat}(O:u<min n 1000000000){t:UB}(y:t <:+ s):
 match ek (hq (gw (λp=>(⟨p.1,p.2⟩:be))<|ek (fH 24) λ_=>jR) u) (λ_=>ek rG<|λ_=>jm) t with|.ok (p,M)=>tQ n b r1 r26 r27 r2 v25 n (bx s t) 0 [] (u:Int)=some (⟨⟨r1.1,⟨0,0,[]⟩,[],r26.1,r27.1,p.1,p.2.1,p.2.2⟩,r2.1,v25⟩,bx s M,0)|.error e=>nh e (tQ n b r1 r26 r27 r2 v25 n (bx s t) 0 [] (u:Int)):=by
 have k:=x8 (L:=λm i t c=>tQ n b r1 r26 r27 r2 v25 m (bx s t) 0 c ((u-i:Nat):Int)) (f:=λ_ v=>v) (D:=gw (λp=>(⟨p.1,p.2⟩:be))<|ek (fH 24) λ_=>jR) (u:=u) (s:=s) (fin:=λc t=>xe n b r1 r26 r27 r2 v25 (bx s t) 0 c) (bad:=λe x=>nh e x) (λx v t I=>abn.mf I) (by
  intro m i t c P Q K y;have J:(0:Int)<((u-i:Nat):Int):=by omega
  simp only[tQ,HN,J,YW,UL,HM,aj];rw[A,show(24:Int)=((24:Nat):Int)from rfl,ak' w d o (by omega) y,aj]
  have a:room (c.length+1) 24=true:=iF (by omega)
  obtain⟨m,rfl⟩:∃j,m=j+1:=⟨m-1,by omega⟩
  unfold gw ek;cases g1:fH 24 t with
  |error e=>
   have z:=pE.dr _ _ g1;simp only[jd];rw[azh z,aj];simp only[U1,show(((24:Nat):Int)).toNat=24 from rfl,a,aF]
   exact Fr w d o A z
  |ok r=>
   let⟨R,B⟩:=r;have H:=kh pE g1 y;simp only[jd];rw[ak8 w d o H,aj];cases g2:jR B with
   |error e=>
    have z:=mg.dr _ _ g2;simp only[jd,U1,a,aF];exact Fr w d o A z
   |ok r=>
    let⟨S,N⟩:=r;simp only[jd,U1,a,aF];rw[show YV (((u-i:Nat):Int)-1)=((u-(i+1):Nat):Int)by rw[wr]<;>omega]) (by
  intro m t c K y;simp only[tQ,HN,tL,show¬ (0:Int)<((0:Nat):Int)by omega,UN,UK]) u n 0 t [] (by omega) (by omega) rfl y
 simp only[pN]at k;unfold ek;cases af:hq (gw (λp=>(⟨p.1,p.2⟩:be))<|ek (fH 24) λ_=>jR) u t with
 |error e=>unfold ek at af;rw[af];unfold ek at k;rw[af]at k;exact k
 |ok r=>
  let⟨l,F⟩:=r;have E:=kh (abn.rep u) af y;rw[af]at k;unfold ek at af;rw[af];simp only[iK,x9]at k ⊢;rw[k];have h:=azs w d o A (r1:=r1) (r26:=r26) (r27:=r27) (r2:=r2) (v25:=v25) (l:=l) E;unfold ek at h;cases g:rG F with
  |error e=>rw[g]at h;exact h
  |ok r=>
   let⟨q,B⟩:=r;rw[g]at h;simp only at h ⊢
   cases g':jm B with
   |error e=>rw[g']at h;exact h
   |ok r=>rw[g']at h;exact h
end
def ww{α β:Type}{D:eY α}{k:α->eY β}{t:UB}{e:Int}(h:D t = .error e):ek D k t = .error e:=by unfold ek;rw[h]
def Bf{α β:Type}{D:eY α}{k:α->eY β}{t a:UB}{v:α}(h:D t = .ok (v,a)):ek D k t=match k v a with|.ok (w,u)=>.ok ((v,w),u)|.error e=>.error e:=by unfold ek;rw[h];rfl
def ak_{t:UB}:Bc t=match jS 32 t with|.ok (u,t)=>hq (gw (λp=>⟨p.1,p.2⟩)<|ek (fH 24) λ_=>jR) u t|.error e=>.error e:=rfl
abbrev tailD:eY (List b3×dv×List be×List BE×Int):=ek yb λ_=>ek x' λ_=>ek Bc λ_=>ek rG λ_=>jm
section
variable {n:Nat} (o:100000000<=n) (d:n<=2^63) {s:UB} (k:s.length<min n 1000000000)
include o d k
theorem azu{b:fQ}(y:b.s=s){r1:Int×Int×Int}{r2:List aQ×Int×Int}{v25:kQ}{t:UB}(I:t <:+ s):
 match tailD t with|.ok (p,z)=>xf n b r1 r2 (bx s t) 0 v25=some (⟨⟨r1.1,⟨0,0,[]⟩,[],p.1,p.2.1,p.2.2.1,p.2.2.2.1,p.2.2.2.2⟩,r2.1,v25⟩,bx s z,0)|.error e=>nh e (xf n b r1 r2 (bx s t) 0 v25):=by
 unfold xf CT tailD;obtain⟨uH,iC⟩:∃j,n=j+1:=⟨n-1,by omega⟩
 rw[y,azm o d k I,aj];cases g1:yb t with
 |error e=>
  have f:=RN.dr _ _ g1;rw[ww g1];simp only[jd];rw[ak6 f,aj,aj,KM f,aj];have:=Fr o d k y (r1:=r1) (r26:=([],bx s t,e)) (r27:=(⟨0,[]⟩,bx s t,e)) (r2:=r2) (v25:=v25) (a:=bx s t) (c:=0) (l:=[]) (m:=uH) f
  rw[<-iC]at this;exact this
 |ok r=>
  let⟨A,w⟩:=r;have B:=kh RN g1 I;rw[Bf g1];simp only[jd];rw[azn o d k B,aj,aj];cases g2:x' w with
  |error e=>
   have f:=RI.dr _ _ g2;rw[ww g2];simp only[jd];rw[KM f,aj];have:=Fr o d k y (r1:=r1) (r26:=(A,bx s w,0)) (r27:=(⟨0,[]⟩,bx s w,e)) (r2:=r2) (v25:=v25) (a:=bx s w) (c:=0) (l:=[]) (m:=uH) f
   rw[<-iC]at this;exact this
  |ok r=>
   let⟨H,q⟩:=r;have E:=kh RI g2 B;rw[Bf g2];simp only[jd];rw[show(32:Int)=((32:Nat):Int)from rfl,ak9 o d k (by omega) E,aj]
   cases h:jS 32 q with
   |error e=>
    have f:=qr h;have x:Bc q = .error e:=by rw[ak_,h]
    rw[ww x,uz h];simp only[jd];have:=Fr o d k y (r1:=r1) (r26:=(A,bx s w,0)) (r27:=(H,bx s q,0)) (r2:=r2) (v25:=v25) (a:=bx s q) (c:=0) (l:=[]) (m:=uH) f
    rw[<-iC]at this;exact this
   |ok r=>
    let⟨u,z⟩:=r;let⟨K,M,N⟩:=rx h;have F:z <:+ s:=oD ⟨dw u,K.symm⟩ E;have L:=F.length_le;rw[sW h];simp only[jd];have i:=azt o d k y (r1:=r1) (r26:=(A,bx s w,0)) (r27:=(H,bx s q,0)) (r2:=r2) (v25:=v25) (u:=u) (by omega) F
    have x:Bc q=hq (gw (λp=>(⟨p.1,p.2⟩:be))<|ek (fH 24) λ_=>jR) u z:=by rw[ak_,h]
    cases af:hq (gw (λp=>(⟨p.1,p.2⟩:be))<|ek (fH 24) λ_=>jR) u z with
    |error e=>
     rw[ww af]at i;rw[af]at x;rw[ww x];exact i
    |ok r=>
     let⟨l,J⟩:=r;rw[Bf af]at i;rw[af]at x;rw[Bf x];cases g:ek rG (λ_=>jm) J with
     |error e=>rw[g]at i;exact i
     |ok r=>rw[g]at i;exact i
theorem azv:match RV s with|.ok (p,J)=>HP n ⟨s,0,0⟩=some (⟨⟨p.1,⟨0,0,[]⟩,[],p.2.2.2.1,p.2.2.2.2.1,p.2.2.2.2.2.1,p.2.2.2.2.2.2.1,p.2.2.2.2.2.2.2⟩,p.2.1,p.2.2.1⟩,bx s J,0)|.error e=>nh e (HP n ⟨s,0,0⟩):=by
 unfold HP CT RV;obtain⟨uH,iC⟩:∃j,n=j+1:=⟨n-1,by omega⟩
 have E:(⟨s,0,0⟩:fQ).s=s:=rfl;have K:s <:+ s:=List.suffix_refl s;rw[show(⟨s,0,0⟩:fQ)=⟨s,bx s s,0⟩by rw[aki],ak8 o d k K,aj]
 generalize X:(⟨s,bx s s,0⟩:fQ)=B
 have E:B.s=s:=by rw[<-X]
 rw[E];cases g1:jR s with
 |error e=>
  have w:=mg.dr _ _ g1;rw[ww g1];simp only[jd];rw[azi w,aj,aj,KM w,aj];have:=RX o d k E (r1:=(0,bx s s,e)) (r2:=([],bx s s,e)) (a:=bx s s) (c:=0) (l:=[]) (m:=uH) w
  rw[<-iC]at this;exact this
 |ok r=>
  obtain⟨H,y⟩:=r;have P:=kh mg g1 K;rw[Bf g1];simp only[jd];rw[azl o d k P,aj,aj];cases g2:Fl y with
  |error e=>
   have w:=RH.dr _ _ g2;rw[ww g2];simp only[jd];rw[KM w,aj];have:=RX o d k E (r1:=(H,bx s y,0)) (r2:=([],bx s y,e)) (a:=bx s y) (c:=0) (l:=[]) (m:=uH) w
   rw[<-iC]at this;exact this
  |ok r=>
   obtain⟨M,A⟩:=r;have Q:=kh RH g2 P;rw[Bf g2];simp only[jd];rw[show(16:Int)=((16:Nat):Int)from rfl,ak9 o d k (by omega) Q,aj]
   have z:abo A=match jS 16 A with|.ok (u,t)=>hq (fH 16384) u t|.error e=>.error e:=rfl
   cases h:jS 16 A with
   |error e=>
    have w:=qr h;rw[h]at z;rw[ww z,uz h];simp only[jd];have:=RX o d k E (r1:=(H,bx s y,0)) (r2:=(M,bx s A,0)) (a:=bx s A) (c:=0) (l:=[]) (m:=uH) w
    rw[<-iC]at this;exact this
   |ok r=>
    obtain⟨u,J⟩:=r;obtain⟨W,h2,ah⟩:=rx h;have N:J <:+ s:=oD ⟨dw u,W.symm⟩ Q;have Y:=N.length_le;rw[h]at z;rw[sW h];simp only[jd]
    have F:=x8 (L:=λm i t b=>xg n B (H,bx s y,0) (M,bx s A,0) m (bx s t) 0 b ((u-i:Nat):Int)) (f:=λ_ v=>v) (D:=fH 16384) (u:=u) (s:=s) (fin:=λb t=>xf n B (H,bx s y,0) (M,bx s A,0) (bx s t) 0 b) (bad:=λe x=>nh e x) (λx v t S=>RS.mf S) (by
     intro m i t b Z hi U K;have T:(0:Int)<((u-i:Nat):Int):=by omega
     simp only[xg,HO,T,YW,UL,HM,aj];rw[E,show(16384:Int)=((16384:Nat):Int)from rfl,ak' o d k (by omega) K,aj]
     have q:room (b.length+1) 16=true:=iF (by omega)
     obtain⟨m,rfl⟩:∃j,m=j+1:=⟨m-1,by omega⟩
     cases g1:fH 16384 t with
     |error e=>
      have w:=RS.dr _ _ g1;simp only[jd,U1,q,aF];exact RX o d k E w
     |ok r=>
      obtain⟨H,y⟩:=r;simp only[jd,U1,q,aF];rw[show YV (((u-i:Nat):Int)-1)=((u-(i+1):Nat):Int)by rw[wr]<;>omega]) (by
     intro m t b U K;simp only[xg,HO,tL,show¬ (0:Int)<((0:Nat):Int)by omega,UN,UK]) u n 0 J [] (by omega) (by omega) rfl N
    simp only[pN]at F;cases af:hq (fH 16384) u J with
    |error e=>
     rw[af]at F;simp only at z
     rw[af]at z;rw[ww z];exact F
    |ok r=>
     obtain⟨l,R⟩:=r;have O:=kh (RS.rep u) af N;rw[af]at F;simp only at z
     rw[af]at z;rw[Bf z];simp only[iK,x9]at F ⊢;rw[F];have I:=azu o d k E (r1:=(H,bx s y,0)) (r2:=(M,bx s A,0)) (v25:=l) O;unfold tailD at I;cases g:(ek yb λ_=>ek x' λ_=>ek Bc λ_=>ek rG λ_=>jm) R with
     |error e=>rw[g]at I;exact I
     |ok r=>rw[g]at I;exact I
end
abbrev RY:bK:=⟨0,⟨0,0,[]⟩,[],[],⟨0,[]⟩,[],[],0⟩
def azw(l:List aQ)(a:Int)(i:Nat)(hi:i<l.length):((ii l a).Rows.getD i default)=⟨(l.getD i default).Key,[⟨a,(l.getD i default).aY⟩]⟩:=by
 unfold ii;simp[ie,hi]
def azx{n:Nat}(e:2000<=n){l:List aQ}(f:l.length<n)(h:∀p∈l,s2 p)(a:Int):s0 n (ii l a):=by
 refine⟨by unfold ii;simpa using f,λi=>?_⟩
 by_cases c:i<l.length
 ·rw[azw l a i c];have b:=akM e<|h _<|nJ c;refine⟨b.1,by show 1<n;omega,λk=>?_⟩
  refine uG (P:=λv:Br=>v.aY.S.length<n) (λx d=>?_) (by show 0<n;omega) k
  rw[lZ.1 d];exact b.2
 ·have:(ii l a).Rows.getD i default=default:=by
   unfold ii;rw[ie,ye (by simp;omega)];rfl
  rw[this];refine⟨by show 0<n;omega,by show 0<n;omega,λk=>?_⟩
  show(([]:List Br).getD k default).aY.S.length<n
  simp[List.getD];show 0<n
  omega
def ala{n:Nat}(b:2000<=n):uC n default:=abp b ⟨by show hr 0;unfold hr;omega,by show hr 0;unfold hr;omega,by show([]:UB).length<=16;simp,⟨by show([]:List bJ).length<=6;simp,λv a=>by cases a⟩,rfl,rfl⟩
def alb{p:Fq}(h:wv p):p.2.1.length<=(gy p).length:=by
 have a:=Fc (E:=jT) (l:=p.2.1) λv _=>by unfold jT dq;simp[qs]
 unfold gy;rw[show cX jT p.2.1=dw p.2.1.length++eZ jT p.2.1 from rfl]
 simp only[UO];omega
def KN{n:Nat}(c:2000<=n):wu n RY:=by
 have b:∀{α:Type} (l:List α),l=[]->l.length<n:=λl h=>by rw[h];show 0<n;omega
 exact {
  st:=by
   refine⟨b _ rfl,λi=>⟨?_,?_,λk=>?_⟩⟩
   ·show 0<n;omega
   ·exact b _ rfl
   ·show 0<n;omega
  Bd:=b _ rfl
  kR:=λi=>uG (P:=pI) (λx a=>absurd a (by show¬ x∈[];simp)) ak4 i
  uI:=b _ rfl
  nL:=RO c (λx a=>by cases a)
  pl:=b _ rfl
  Be:=akN (by omega) (λx a=>by cases a)
  az:=b _ rfl
  lp:=λi=>by show 0<n;omega
  ou:=b _ rfl
  uJ:=λi=>uG (P:=uC n) (λx a=>absurd a (by show¬ x∈[];simp)) (ala c) i}
def abw{s t:UB}(h:t <:+ s):(bx s t=(s.length:Int))↔t=[]:=by
 have:=h.length_le
 unfold bx;constructor
 ·intro e;have:t.length=0:=by omega
  exact gQ this
 ·intro e;subst e;simp
section
variable {n:Nat} (c:100000000<=n) (a:n<=2^63) {s:UB} (b:s.length<=4000)
include c a b
end
def ml{α R:Type}[Inhabited α]{l:List α}{E:α->UB}{B:Nat}{L:Nat->UB->Nat->Option R}{fin:UB->Option R}
 (d:∀m i a,i<l.length->a.length+(E<|l.getD i default).length<=B->L (m+1) a i=L m (a++E (l.getD i default)) (i+1))
 (e:∀m a,a.length<=B->L (m+1) a l.length=fin a):
 ∀m i a,l.length<m+i->i<=l.length->a.length+(eZ E<|l.drop i).length<=B->L m a i=fin (a++eZ E (l.drop i)):=by
 intro m;induction m with
 |zero=>intro i a g f;omega
 |succ m h=>
  intro i a g f b;by_cases c:i<l.length
  ·rw[gl l i default c,AZ]at b ⊢;rw[UO]at b;rw[d m i a c<|by omega,h (i+1) _ (by omega) (by omega) (by rw[UO];omega),eO]
  ·obtain rfl:i=l.length:=by omega
   rw[i_ l _ c,ax1]at b ⊢;rw[e m a<|by simpa using b,gJ]
def Fs{n:Nat}(a:10<=n){z:Int}(h:hr z):iL n (IntKind.u64.wrap z)=some (ih z):=by
 let⟨c,b⟩:=h;have e:IntKind.u64.wrap z=(z.toNat:Int):=by rw[IntKind.wrap_u64];omega
 rw[e];exact wi a (by omega)
def wx{n:Nat}(a:10<=n){k:Nat}(h:k<2^64):iL n (IntKind.u64.wrap (k:Int))=some (dw k):=by
 rw[qo h];exact wi a h
def mm{n:Nat}{s t:UB}(h:t.length+s.length<=10000000):kK n s (hT t)=some ((s.length:Int),hT<|t++s):=by
 unfold kK CJ;simp only[aj,E9,aa0 (show t.length+s.length<=140737488355328 by omega),aF]
 rw[aaX];rfl
def RZ{n:Nat}{t:UB}(h:t.length<=10000000):tJ n (hT t)=some (t,hT t):=by
 unfold tJ;simp only[Kv,Ku,E9,show t.length<=2^63-1 by omega,YW,nG,aF]
def mn{α:Type}[Inhabited α]{P:α->Prop}{l:List α}(h:∀x∈l,P x){i:Nat}(hi:i<l.length):P (l.getD i default):=by
 rw[ie,ed hi];exact h _ (pj hi)
def azy{n:Nat}(g:2000<=n){l:List aQ}(q:l.length<n)(h:∀p∈l,s2 p)(f:(cX jT l).length<=1000000):Nw n l=some (cX jT l):=by
 have hlen:l.length<=(eZ jT l).length:=Fc λv _=>by unfold jT dq;simp[qs]
 unfold cX at f ⊢;rw[UO]at f
 have b:=ml (l:=l) (E:=jT) (B:=2000000) (L:=λm a i=>CP n l m (hT a) (i:Int)) (fin:=λa=>some a)
  (λm i a c d=>by
   let⟨k,e⟩:=mn h c;have o:=pG e;unfold jT at d ⊢;rw[UO]at d;simp only[CP,Nv,c,bW c,US,UP,YW,UL,aF,cu (show i<=2^63-2 by omega)]
   rw[ur (by omega)<|by omega,aj,mm<|by omega,aj,
    show zm n ⟨((l.getD i default).aY).Cc,((l.getD i default).aY).N,((l.getD i default).aY).S⟩=_ from aa3 (v:=(l.getD i default).aY) (by omega) e.2 (by omega),aj,
    mm (by rw[UO];omega),aj,eO])
  (λm a j=>by
   simp only[CP,Nv,UP,hS,UN,UK,VL];rw[RZ<|by omega,aj])
 unfold Nw;rw[wx (by omega)<|by omega,aj,aaY,mm (by simp;omega),aj]
 exact b n 0 _ (by omega) (by omega) (by simp;omega)
def azz{n:Nat}(q:2000<=n){p:dv}(e:eo p.Br)(t:p.aI.length<=16)(h:∀x∈p.aI,rE x)(f:(ld p).length<=1000000):G9 n p=some (ld p):=by
 have o:=qp e;unfold ld cX at f ⊢;simp only[UO]at f
 have b:=ml (l:=p.aI) (E:=rD) (B:=2000000) (L:=λm a i=>CB n p m (i:Int) a) (fin:=λa=>some a)
  (λm i a c d=>by
   let⟨g,s,k,j,u⟩:=mn h c;unfold rD at d ⊢;simp only[UO]at d;simp only[CB,MS,c,bW c,US,UP,YW,UL,aF,cu (show i<=2^63-2 by omega)]
   rw[AY (by omega) g,aj,ur (by omega)<|by omega,aj,AY (by omega) k,aj,AY (by omega) j,aj,ur (by omega)<|by omega,aj]
   simp (disch:=omega) only[kv,dW,aF,eO])
  (λm a r=>by simp only[CB,MS,UP,hS,UN,UK,aEk])
 unfold G9;rw[AY (by omega) e,aj,wx (by omega)<|by omega,aj,dW<|by omega,aF,<-eO]
 exact b n 0 _ (by omega) (by omega) (by simp only[UO,gj];omega)
def alc{n:Nat}(e:2000<=n){l:kQ}(k:l.length<=64)(h:∀x∈l,x.length<=24)(d:(cX dq l).length<=1000000):G2 n l=some (cX dq l):=by
 unfold cX at d ⊢;simp only[UO]at d
 have b:=ml (l:=l) (E:=dq) (B:=2000000) (L:=λm a i=>Cu n l m (i:Int) a) (fin:=λa=>some a)
  (λm i a c f=>by
   have j:=mn h c;simp only[Cu,ML,c,bW c,US,UP,YW,UL,aF,cu (show i<=2^63-2 by omega)]
   rw[ur (by omega)<|by omega,aj]
   simp (disch:=omega) only[dW,aF])
  (λm a g=>by simp only[Cu,ML,UP,hS,UN,UK,aEe])
 unfold G2;rw[wx (by omega)<|by omega,aj]
 exact b n 0 _ (by omega) (by omega) (by rw[gj];omega)
def lL{z:Int}(h:hr z):(ih z).length<=10:=kg (by let⟨b,a⟩:=h;omega)
def abx{o:Bt}(h:oq o):hr o.Status/\hr o.Code:=⟨⟨h.1.1,by have:=h.1.2;omega⟩,⟨h.2.1.1,by have:=h.2.1.2;omega⟩⟩
def R0{α β:Type}(E:β->UB)(f:α->β)(l:List α):eZ E (l.map f)=eZ (λx=>E<|f x) l:=by
 unfold eZ;rw[yi];rfl
section
variable {n:Nat} (b:2000<=n)
include b
theorem azA(a g:List Int->Int->Option UB)(l:List b3)(i j:Nat)(h:j<=2^63-2)(f:oq<|(((l.getD i default).ce).getD j default).Bt)(acc:UB)
 (o:acc.length+(eZ bX<|(((l.getD i default).ce).getD j default).Bt.Out).length<=2000000):
 zw n a g l (i:Int) (j:Int) n (hT acc) 0=a (hT<|acc++eZ bX ((((l.getD i default).ce).getD j default).Bt.Out)) ((j+1:Nat):Int):=by
 have s:=f.2.2.1
 have c:=ml (l:=(((l.getD i default).ce).getD j default).Bt.Out) (E:=bX) (B:=2000000) (L:=λm acc k=>zw n a g l (i:Int) (j:Int) m (hT acc) (k:Int)) (fin:=λacc=>a (hT acc) ((j+1:Nat):Int))
  (λm k acc d p=>by
   have e:=mn f.2.2.2 d;have r:=pG e;simp only[zw,Nr,US,d,bW d,UP,YW,UL,aF,cu (show k<=2^63-2 by omega)]
   rw[aa3 (by omega) e.2<|by omega,aj,mm<|by omega,aj])
  (λm acc q=>by
   simp only[zw,Nr,US,UP,hS,UN,UK,VI,cu h])
 have:=c n 0 acc (by omega) (by omega) (by rw[gj];exact o)
 rw[gj]at this;exact this
theorem azB(a:List Int->Int->Option UB)(l:List b3)(i:Nat)(hi:i<=2^63-2)(w:(l.getD i default).ce.length<=1000)(p:∀r∈(l.getD i default).ce,oq r.Bt)(acc:UB)
 (k:acc.length+(eZ (λr:fk=>oo r.Bt) (l.getD i default).ce).length<=2000000):
 zy n a l (i:Int) n (hT acc) 0=a (hT<|acc++eZ (λr:fk=>oo r.Bt) (l.getD i default).ce) ((i+1:Nat):Int):=by
 have c:=ml (l:=(l.getD i default).ce) (E:=λr:fk=>oo r.Bt) (B:=2000000) (L:=λm acc j=>zy n a l (i:Int) m (hT acc) (j:Int)) (fin:=λacc=>a (hT acc) ((i+1:Nat):Int))
  (λm j acc d f=>by
   have e:=mn (P:=λr:fk=>oq r.Bt) p d
   let⟨h,g⟩:=abx e;have x:=e.2.2.1;have t:=lL h;have q:=lL g;have o:=kg (u:=(((l.getD i default).ce).getD j default).Bt.Out.length) (by omega)
   unfold oo cX at f ⊢;simp only[UO]at f;simp only[zy,Ns,US,d,bW d,UP,YW,UL,aF]
   rw[Fs (by omega) h,aj,Fs (by omega) g,aj,dW<|by omega,aF,wx (by omega)<|by omega,aj,dW (by rw[UO];omega),aF,
    mm (by simp only[UO];omega),aj]
   refine(azA b _ a l i j (by omega) e _ (by simp only[UO];omega)).trans ?_
   simp only[eO])
  (λm acc s=>by
   simp only[zy,Ns,US,UP,hS,UN,UK,VH,cu hi])
 have:=c n 0 acc (by omega) (by omega) (by rw[gj];exact k)
 rw[gj]at this;exact this
theorem azD{l:List b3}(o:vv n l=some true)(J:l.length<=32)(h:∀s∈l,rF s)(j:(cX jc l).length<=1000000):Hs n l=some (cX jc l):=by
 unfold cX at j ⊢;simp only[UO]at j
 have c:=ml (l:=l) (E:=jc) (B:=2000000) (L:=λm a i=>CO n l m (hT a) (i:Int)) (fin:=λa=>some a)
  (λm i a d e=>by
   have p:=mn h d;let⟨⟨I,H⟩,⟨t,q⟩,K,w,u⟩:=p;have g:hr (l.getD i default).Et:=⟨by omega,by omega⟩
   have k:hr (l.getD i default).Next:=⟨by omega,by omega⟩
   have F:=lL g;have y:=lL k;have z:=Fo ⟨t,q⟩;have f:(l.getD i default).ce.length<=1000:=by rw[jz]at w;omega
   have x:∀r∈(l.getD i default).ce,oq r.Bt:=λr f=>u _<|zQ f
   unfold jc at e ⊢;rw[R0]at e ⊢;simp only[UO]at e;simp only[CO,Nu,US,d,bW d,UP,YW,UL,aF];rw[Fs (by omega) g,aj,Fs (by omega) k,aj,dW<|by omega,aF,mm (by simp only[UO];omega),aj]
   refine(azB b _ l i (by omega) f x _ (by simp only[UO];omega)).trans ?_
   simp only[eO])
  (λm a A=>by
   simp only[CO,Nu,UP,hS,UN,UK,VG];rw[RZ<|by omega,aj])
 unfold Hs;rw[o,aj,UR,UK,wx (by omega)<|by omega,aj,aaY,mm (by simp;omega),aj]
 have:=c n 0 (dw l.length) (by omega) (by omega) (by rw[gj];omega)
 rw[gj]at this;exact this
theorem azE(k:UB)(v:bJ)(a:Int):p7 n ⟨k,[⟨a,v⟩]⟩ a=some v:=by
 obtain⟨m,rfl⟩:∃m,n=m+3:=⟨n-3,by omega⟩
 unfold p7 CA
 have e:vt (m+3) a ⟨k,[⟨a,v⟩]⟩ (m+3) 0=some 1:=by
  have w:YV (0+1)=1:=rfl;simp only[vt,G6,G5,w];have f:decide ((0:Int)<(([⟨a,v⟩]:List Br).length:Nat))=true:=rfl;have d:decide ((1:Int)<(([⟨a,v⟩]:List Br).length:Nat))=false:=rfl;have c:aP 0 ([⟨a,v⟩]:List Br).length=true:=rfl;have g:(([⟨a,v⟩]:List Br).getD (0:Int).toNat default).br=a:=rfl;simp only[f,d,c,g,wV,YW,UR,YY,kI,jJ,aF,UL,UK]
 rw[e,aj];rfl
theorem azF{l:List aQ}{a:Int}(s:l.length<=4000)(g:l.length<n)(h:∀i,i<l.length->(l.getD i default).aY.Cc≠0)(f:vr n (ii l a)=some true):tH n (ii l a) a=some (l,0):=by
 have j:∀i,i<l.length->(ii l a).Rows.getD i default=⟨(l.getD i default).Key,[⟨a,(l.getD i default).aY⟩]⟩:=λi d=>by
  unfold ii;simp only[ie,gV,ed d,lC,nB]
 have hlen:(ii l a).Rows.length=l.length:=by unfold ii;simp
 have e:∀m i c,l.length<m+i->i<=l.length->c.length<=i->vu n a (ii l a) m (i:Int) c=some (c++l.drop i,0):=by
  intro m;induction m with
  |zero=>intro i c o k;omega
  |succ m q=>
   intro i c o k r;simp only[vu,G8,hlen,UP];by_cases d:i<l.length
   ·simp only[d,bW d,US,YW,UL,aF];rw[j i d,azE b,aj];simp only[h i d,UN,YY,UL,U1,w8,cu (show i<=2^63-2 by omega),iF (show(c.length+1)*48<=140737488355328 by omega),aF]
    rw[q (i+1) _ (by omega) (by omega) (by rw[UO,U1];omega),gl l i default d]
    simp
   ·obtain rfl:i=l.length:=by omega
    simp only[hS,UN,UK,G7,i_ l _ d,gJ]
 unfold tH;rw[f,aj]
 have p:zn n (ii l a) a=some 0:=by
  unfold zn ii;simp only[UZ,UN,UK]
 simp only[UR,UK,p,aj,YW];exact e n 0 [] (by omega) (by omega) (by simp)
end
end Go.Ab.Y

/- The plain law: what the functions compute answers as the statement says. -/
import Derived.Test.YtndmefekdnfmaaaGreatDoorPlainC
set_option linter.all false
namespace Go.Ab.Y
open Go Go.Ab Go.Proofs Tryz
def azG{n:Nat}(a:10<=n){z:Int}(h:hr z):iL n z=some (ih z):=by
 let⟨c,b⟩:=h;have e:z=(z.toNat:Int):=by omega
 have:=wi (n:=n) (u:=z.toNat) a (by omega)
 rw[<-e]at this;exact this
def azH{n:Nat}(b:Bool):UV n b=some (uy b):=by cases b<;>rfl
def KO(b:Bool):(uy b).length=1:=by cases b<;>rfl
section
variable {n:Nat} (a:2000<=n)
include a
theorem azI{r:BE}(h:nK r)(b:UB)(c:b.length+(uy r.eV++ot r.eV (r.bM.Reads,r.bM.cp)).length<=2000000)(d:(ot r.eV (r.bM.Reads,r.bM.cp)).length<=1000000):
 G4 n r b=some (b++(uy r.eV++ot r.eV (r.bM.Reads,r.bM.cp))):=by
 have g:=h.2.2.2.2.1;rw[UO]at c;unfold G4;rw[azH,aj,dW<|by omega,aF]
 cases hd:r.eV
 ·simp only[UK,G3,ot,UY,iO,gJ]
 ·rw[hd]at g c d;let⟨⟨j,i⟩,f,e⟩:=g;simp only at j i f e
  simp only[ot,U3,UO]at c d;rw[UL,alc a j i<|by omega,aj,alc a f e<|by omega,aj]
  simp (disch:=omega) only[kv,dW,aF,G3,ot,nY,eO]
theorem azJ{r:BE}(t:p5 n r=some 0)(h:nK r)(e:(hy r).length<=1000000):MN n r=some (hy r):=by
 let⟨o,k,Q,⟨P,j⟩,y,z⟩:=id h;have K:=lL o;have H:=lL k;unfold hy cX at e ⊢;simp only[UO]at e
 have c:=ml (l:=r.ax) (E:=bX) (B:=900000) (L:=λm b i=>Cv n r m b (i:Int)) (fin:=λb=>G4 n r b)
  (λm i b d I=>by
   have f:=mn j d;have R:=pG f;simp only[Cv,MM,d,bW d,US,UP,YW,UL,aF,cu (show i<=2^63-2 by omega)]
   rw[aa3 (by omega) f.2<|by omega,aj,dW<|by omega,aF])
  (λm b J=>by simp only[Cv,MM,UP,hS,UN,UK])
 unfold MN;rw[t,aj];simp only[YW,UR,UK];have F:=uu (s:=r.bk) (by omega)
 have S:=kg (u:=r.ax.length) (by omega)
 have A:(eZ bX r.ax).length<=1000:=by
  have:∀l:List bJ,(∀v∈l,ry v)->(eZ bX l).length<=100*l.length:=by
   intro l;induction l with
   |nil=>intro _;simp[eZ]
   |cons v l x=>
    intro p;have g:=p v (by simp)
    have O:=aa5 g.2 (by have:=pG g;omega)
    have N:=pG g;have M:=x λw q=>p w (by simp[q])
    rw[AZ,UO,UT];omega
  have:=this r.ax j
  omega
 rw[Fs (by omega) o,aj,Fs (by omega) k,aj,dW<|by omega,aF,ur (by omega)<|by omega,aj,dW (by simp only[UO];omega),aF,
  wx (by omega) (by omega),aj,dW (by simp only[UO];omega),aF]
 have:=c n 0 (((ih r.Et++ih r.Seq)++dq r.bk)++dw r.ax.length) (by omega) (by omega) (by rw[gj];simp only[UO];omega)
 rw[gj]at this;refine this.trans ?_;rw[azI a h _ (by simp only[UO,KO];simp only[UO,KO]at e;omega)<|by omega]
 simp only[eO]
theorem azK{l:List BE}(o:l.length<=64)(h:∀r∈l,nK r/\p5 n r=some 0)(f:(cX hy l).length<=900000):Cx n l=some (cX hy l):=by
 unfold cX at f ⊢;simp only[UO]at f
 have c:=ml (l:=l) (E:=hy) (B:=1000000) (L:=λm b i=>Cw n l m (i:Int) b) (fin:=λb=>some b)
  (λm i b d j=>by
   let⟨g,e⟩:=mn h d;simp only[Cw,MO,d,bW d,US,UP,YW,UL,aF,cu (show i<=2^63-2 by omega)]
   rw[e,aj];simp only[YW,UR,UK];rw[azJ a e g<|by omega,aj,dW<|by omega,aF])
  (λm b k=>by simp only[Cw,MO,UP,hS,UN,UK,aEv])
 unfold Cx;simp only[fq,show¬ 64<l.length by omega,UN,UK]
 rw[wx (by omega)<|by omega,aj]
 have:=c n 0 (dw l.length) (by omega) (by omega) (by rw[gj];omega)
 rw[gj]at this;exact this
theorem azL{r:bK}(d:Cx n r.EK=some (cX hy r.EK))(c:hr r.cN)(b:UB)(e:b.length+(cX hy r.EK).length<=3000000):
 Ht n r (hT b)=some (b++(cX hy r.EK++ih r.cN)):=by
 have:=lL c
 unfold Ht;rw[d,aj,mm<|by omega,aj,azG (by omega) c,aj,mm (by rw[UO];omega),aj,RZ (by simp only[UO];omega),aj]
 simp only[eO]
theorem azM{r:bK}(o:Hs n r.b7=some (cX jc r.b7))(k:G9 n r.EG=some (ld r.EG))(f:r.be.length<=32/\∀h∈r.be,h.Key.length<=24/\eo h.Count)
 (t:Cx n r.EK=some (cX hy r.EK)) (j:hr r.cN) (b:UB) (q:b.length+(cX jc r.b7).length+(ld r.EG).length+(cX lK r.be).length+(cX hy r.EK).length<=2000000):
 CR n r (hT b)=some (b++(cX jc r.b7++(ld r.EG++(cX lK r.be++(cX hy r.EK++ih r.cN))))):=by
 let⟨f,s⟩:=f;have y:=kg (u:=r.be.length) (by omega)
 have g:=q;rw[show(cX lK r.be).length=(dw r.be.length).length+(eZ lK r.be).length by unfold cX;simp]at g
 have c:=ml (l:=r.be) (E:=lK) (B:=2000000) (L:=λm b i=>CQ n r m (hT b) (i:Int)) (fin:=λb=>Ht n r<|hT b)
  (λm i b d e=>by
   let⟨x,p⟩:=mn s d;unfold lK at e ⊢;rw[UO]at e;simp only[CQ,Nx,d,bW d,US,UP,YW,UL,aF,cu (show i<=2^63-2 by omega)]
   rw[ur (by omega)<|by omega,aj,mm<|by omega,aj,AY (by omega) p,aj,mm (by rw[UO];omega),aj,eO])
  (λm b w=>by simp only[CQ,Nx,UP,hS,UN,UK])
 unfold CR;rw[o,aj,mm<|by omega,aj,k,aj,mm (by rw[UO];omega),aj,wx (by omega)<|by omega,aj,mm (by simp only[UO];omega),aj]
 have:=c n 0 (((b++cX jc r.b7)++ld r.EG)++dw r.be.length) (by omega) (by omega) (by rw[gj];simp only[UO];omega)
 rw[gj]at this;refine this.trans ?_;rw[azL a t j _ (by simp only[UO];omega)]
 unfold cX;simp only[eO]
end
section
variable {n:Nat} (a:100000000<=n) (b:n<=2^63)
include a b
end
section
variable {n:Nat} (c:100000000<=n) (a:n<=2^63) {s:UB} (b:s.length<=4000)
include c a b
end
def Ft{n:Nat}(a:10<=n){z:Int}(h:hr z):iQ n (IntKind.u64.wrap z)=some (ih z):=by
 let⟨c,b⟩:=h;have e:IntKind.u64.wrap z=(z.toNat:Int):=by rw[IntKind.wrap_u64];omega
 rw[e];exact wj a (by omega)
def wz{n:Nat}(a:10<=n){k:Nat}(h:k<2^64):iQ n (IntKind.u64.wrap (k:Int))=some (dw k):=by
 rw[qo h];exact wj a h
def azN{n:Nat}(a:10<=n){z:Int}(h:hr z):iQ n z=some (ih z):=by
 let⟨c,b⟩:=h;have e:z=(z.toNat:Int):=by omega
 have:=wj (n:=n) (u:=z.toNat) a (by omega)
 rw[<-e]at this;exact this
def azO{n:Nat}(b:Bool):YJ n b=some (uy b):=by cases b<;>rfl
section
variable {n:Nat} (a:2000<=n)
include a
theorem azP{l:List aQ}(q:l.length<n)(h:∀p∈l,s2 p)(g:(cX jT l).length<=1000000):P6 n l=some (cX jT l):=by
 have hlen:l.length<=(eZ jT l).length:=Fc λv _=>by unfold jT dq;simp[qs]
 unfold cX at g ⊢;rw[UO]at g
 have c:=ml (l:=l) (E:=jT) (B:=2000000) (L:=λm b i=>Ed n l m b (i:Int)) (fin:=λb=>some b)
  (λm i b d e=>by
   let⟨k,f⟩:=mn h d;have o:=pG f;unfold jT at e ⊢;rw[UO]at e;simp only[Ed,P5,d,bW d,US,UP,YW,UL,aF,cu (show i<=2^63-2 by omega)]
   rw[ut (by omega)<|by omega,aj,dW<|by omega,aF,aa4 (by omega) f.2<|by omega,aj,dW (by rw[UO];omega),aF,eO])
  (λm b j=>by simp only[Ed,P5,UP,hS,UN,UK,YH])
 unfold P6;rw[wz (by omega)<|by omega,aj]
 exact c n 0 _ (by omega) (by omega) (by rw[gj];omega)
theorem azQ{p:dv}(f:eo p.Br)(t:p.aI.length<=16)(h:∀x∈p.aI,rE x)(g:(ld p).length<=1000000):I1 n p=some (ld p):=by
 have q:=qp f;unfold ld cX at g ⊢;simp only[UO]at g
 have c:=ml (l:=p.aI) (E:=rD) (B:=2000000) (L:=λm b i=>Ee n p m b (i:Int)) (fin:=λb=>some b)
  (λm i b d e=>by
   let⟨j,s,o,k,u⟩:=mn h d;unfold rD at e ⊢;simp only[UO]at e;simp only[Ee,P7,d,bW d,US,UP,YW,UL,aF,cu (show i<=2^63-2 by omega)]
   rw[AX (by omega) j,aj,ut (by omega)<|by omega,aj,AX (by omega) o,aj,AX (by omega) k,aj,ut (by omega)<|by omega,aj]
   simp (disch:=omega) only[kv,dW,aF,eO])
  (λm b r=>by simp only[Ee,P7,UP,hS,UN,UK,YI])
 unfold I1;rw[AX (by omega) f,aj,wz (by omega)<|by omega,aj,dW<|by omega,aF,<-eO]
 exact c n 0 _ (by omega) (by omega) (by simp only[UO,gj];omega)
theorem ald{l:kQ}(k:l.length<=64)(h:∀x∈l,x.length<=24)(e:(cX dq l).length<=1000000):I2 n l=some (cX dq l):=by
 unfold cX at e ⊢;simp only[UO]at e
 have c:=ml (l:=l) (E:=dq) (B:=2000000) (L:=λm b i=>Ef n l m b (i:Int)) (fin:=λb=>some b)
  (λm i b d f=>by
   have j:=mn h d;simp only[Ef,P8,d,bW d,US,UP,YW,UL,aF,cu (show i<=2^63-2 by omega)]
   rw[ut (by omega)<|by omega,aj]
   simp (disch:=omega) only[dW,aF])
  (λm b g=>by simp only[Ef,P8,UP,hS,UN,UK,YK])
 unfold I2;rw[wz (by omega)<|by omega,aj]
 exact c n 0 _ (by omega) (by omega) (by rw[gj];omega)
theorem azR{o:Bt}(e:oq o)(h:(oo o).length<=1000000):Qb n o=some (oo o):=by
 let⟨f,j⟩:=abx e;have t:=e.2.2.1;have s:=lL f;have p:=lL j;have k:=kg (u:=o.Out.length) (by omega)
 unfold oo cX at h ⊢;simp only[UO]at h
 have c:=ml (l:=o.Out) (E:=bX) (B:=2000000) (L:=λm b i=>Ej n o m b (i:Int)) (fin:=λb=>some b)
  (λm i b d q=>by
   have g:=mn e.2.2.2 d;have f:=pG g;simp only[Ej,Qa,d,bW d,US,UP,YW,UL,aF,cu (show i<=2^63-2 by omega)]
   rw[aa4 (by omega) g.2<|by omega,aj,dW<|by omega,aF])
  (λm b r=>by simp only[Ej,Qa,UP,hS,UN,UK,YM])
 unfold Qb;rw[Ft (by omega) f,aj,Ft (by omega) j,aj,dW<|by omega,aF,wz (by omega)<|by omega,aj,dW (by rw[UO];omega),aF]
 have:=c n 0 ((ih o.Status++ih o.Code)++dw o.Out.length) (by omega) (by omega) (by rw[gj];simp only[UO];omega)
 rw[gj]at this;refine this.trans ?_;simp only[eO]
theorem azS(c:UB->Int->Option UB)(l:List b3)(i:Nat)(f:i<l.length)(hi:i<=2^63-2)(q:(l.getD i default).ce.length<=1000)(k:∀r∈(l.getD i default).ce,oq r.Bt)(b:UB)
 (h:b.length+(eZ (λr:fk=>oo r.Bt) (l.getD i default).ce).length<=1000000):
 Ap n c l (i:Int) n b 0=c (b++eZ (λr:fk=>oo r.Bt) (l.getD i default).ce) ((i+1:Nat):Int):=by
 have d:=ml (l:=(l.getD i default).ce) (E:=λr:fk=>oo r.Bt) (B:=1000000) (L:=λm b j=>Ap n c l (i:Int) m b (j:Int)) (fin:=λb=>c b ((i+1:Nat):Int))
  (λm j b e o=>by
   have g:=mn (P:=λr:fk=>oq r.Bt) k e
   simp only[Ap,Qd,US,e,bW e,bW f,UP,YW,UL,aF,cu (show j<=2^63-2 by omega)]
   rw[azR a g<|by omega,aj,dW<|by omega,aF])
  (λm b p=>by
   simp only[Ap,Qd,US,bW f,aF,UP,hS,UN,UK,YO,cu hi])
 have:=d n 0 b (by omega) (by omega) (by rw[gj];exact h)
 rw[gj]at this;exact this
theorem azT{l:List b3}(o:Aj n l=some true)(J:l.length<=32)(h:∀s∈l,rF s)(j:(cX jc l).length<=900000):I5 n l=some (cX jc l):=by
 unfold cX at j ⊢;simp only[UO]at j
 have d:=ml (l:=l) (E:=jc) (B:=1000000) (L:=λm b i=>Ek n l m b (i:Int)) (fin:=λb=>some b)
  (λm i b c e=>by
   have p:=mn h c;let⟨⟨I,H⟩,⟨t,q⟩,K,w,u⟩:=p;have g:hr (l.getD i default).Et:=⟨by omega,by omega⟩
   have k:hr (l.getD i default).Next:=⟨by omega,by omega⟩
   have F:=lL g;have y:=lL k;have z:=Fo ⟨t,q⟩;have f:(l.getD i default).ce.length<=1000:=by rw[jz]at w;omega
   have x:∀r∈(l.getD i default).ce,oq r.Bt:=λr f=>u _<|zQ f
   unfold jc at e ⊢;rw[R0]at e ⊢;simp only[UO]at e;simp only[Ek,Qe,US,c,bW c,UP,YW,UL,aF];rw[Ft (by omega) g,aj,dW<|by omega,aF,Ft (by omega) k,aj,dW (by rw[UO];omega),aF]
   refine(azS a _ l i c (by omega) f x _ (by simp only[UO];omega)).trans ?_
   simp only[eO])
  (λm b A=>by simp only[Ek,Qe,UP,hS,UN,UK,YN])
 unfold I5;rw[o,aj,UR,UK,wz (by omega)<|by omega,aj]
 have:=d n 0 (dw l.length) (by omega) (by omega) (by rw[gj];omega)
 rw[gj]at this;exact this
end
section
variable {n:Nat} (a:2000<=n)
include a
theorem azU{r:BE}(h:nK r)(b:UB)(c:b.length+(uy r.eV++ot r.eV (r.bM.Reads,r.bM.cp)).length<=2000000)(d:(ot r.eV (r.bM.Reads,r.bM.cp)).length<=1000000):
 I4 n r b=some (b++(uy r.eV++ot r.eV (r.bM.Reads,r.bM.cp))):=by
 have g:=h.2.2.2.2.1;rw[UO]at c;unfold I4;rw[azO,aj,dW<|by omega,aF]
 cases hd:r.eV
 ·simp only[UK,I3,ot,UY,iO,gJ]
 ·rw[hd]at g c d;let⟨⟨j,i⟩,f,e⟩:=g;simp only at j i f e
  simp only[ot,U3,UO]at c d;rw[UL,ald a j i<|by omega,aj,dW (by rw[UO];omega),aF,ald a f e<|by omega,aj]
  simp (disch:=omega) only[kv,dW,aF,I3,ot,nY,eO]
theorem azV{r:BE}(t:t' n r=some 0)(h:nK r)(e:(hy r).length<=1000000):P' n r=some (hy r):=by
 let⟨o,k,Q,⟨P,j⟩,y,z⟩:=id h;have K:=lL o;have H:=lL k;unfold hy cX at e ⊢;simp only[UO]at e
 have c:=ml (l:=r.ax) (E:=bX) (B:=900000) (L:=λm b i=>Eg n r m b (i:Int)) (fin:=λb=>I4 n r b)
  (λm i b d I=>by
   have f:=mn j d;have R:=pG f;simp only[Eg,P9,d,bW d,US,UP,YW,UL,aF,cu (show i<=2^63-2 by omega)]
   rw[aa4 (by omega) f.2<|by omega,aj,dW<|by omega,aF])
  (λm b J=>by simp only[Eg,P9,UP,hS,UN,UK])
 unfold P';rw[t,aj];simp only[YW,UR,UK];have F:=uu (s:=r.bk) (by omega)
 have S:=kg (u:=r.ax.length) (by omega)
 have A:(eZ bX r.ax).length<=1000:=by
  have:∀l:List bJ,(∀v∈l,ry v)->(eZ bX l).length<=100*l.length:=by
   intro l;induction l with
   |nil=>intro _;simp[eZ]
   |cons v l x=>
    intro p;have g:=p v (by simp)
    have O:=aa5 g.2 (by have:=pG g;omega)
    have N:=pG g;have M:=x λw q=>p w (by simp[q])
    rw[AZ,UO,UT];omega
  have:=this r.ax j
  omega
 rw[Ft (by omega) o,aj,Ft (by omega) k,aj,dW<|by omega,aF,ut (by omega)<|by omega,aj,dW (by simp only[UO];omega),aF,
  wz (by omega) (by omega),aj,dW (by simp only[UO];omega),aF]
 have:=c n 0 (((ih r.Et++ih r.Seq)++dq r.bk)++dw r.ax.length) (by omega) (by omega) (by rw[gj];simp only[UO];omega)
 rw[gj]at this;refine this.trans ?_;rw[azU a h _ (by simp only[UO,KO];simp only[UO,KO]at e;omega)<|by omega]
 simp only[eO]
theorem azW{l:List BE}(o:l.length<=64)(h:∀r∈l,nK r/\t' n r=some 0)(f:(cX hy l).length<=900000):Ei n l=some (cX hy l):=by
 unfold cX at f ⊢;simp only[UO]at f
 have c:=ml (l:=l) (E:=hy) (B:=1000000) (L:=λm b i=>Eh n l m b (i:Int)) (fin:=λb=>some b)
  (λm i b d j=>by
   let⟨g,e⟩:=mn h d;simp only[Eh,P_,d,bW d,US,UP,YW,UL,aF,cu (show i<=2^63-2 by omega)]
   rw[e,aj];simp only[YW,UR,UK];rw[azV a e g<|by omega,aj,dW<|by omega,aF])
  (λm b k=>by simp only[Eh,P_,UP,hS,UN,UK,YL])
 unfold Ei;simp only[fq,show¬ 64<l.length by omega,UN,UK]
 rw[wz (by omega)<|by omega,aj]
 have:=c n 0 (dw l.length) (by omega) (by omega) (by rw[gj];omega)
 rw[gj]at this;exact this
end
def ni(r:bK)(A:List aQ):Fq:=(r.Pos,A,r.bY.map hz,r.b7,r.EG,r.be,r.EK,r.cN)
section
variable {n:Nat} (a:2000<=n)
include a
theorem azX{r:bK}(d:Ei n r.EK=some (cX hy r.EK))(c:hr r.cN)(b:UB)(e:b.length+(cX hy r.EK).length<=3000000):
 I6 n r b=some (b++(cX hy r.EK++ih r.cN)):=by
 have:=lL c
 unfold I6;rw[d,aj,dW<|by omega,aF,azN (by omega) c,aj,dW (by rw[UO];omega),aF]
 simp only[eO]
theorem azY{r:bK}(o:I5 n r.b7=some (cX jc r.b7))(k:I1 n r.EG=some (ld r.EG))(f:r.be.length<=32/\∀h∈r.be,h.Key.length<=24/\eo h.Count)
 (t:Ei n r.EK=some (cX hy r.EK)) (j:hr r.cN) (b:UB) (q:b.length+(cX jc r.b7).length+(ld r.EG).length+(cX lK r.be).length+(cX hy r.EK).length<=2000000):
 Em n r b=some (b++(cX jc r.b7++(ld r.EG++(cX lK r.be++(cX hy r.EK++ih r.cN))))):=by
 let⟨f,s⟩:=f;have y:=kg (u:=r.be.length) (by omega)
 have g:=q;rw[show(cX lK r.be).length=(dw r.be.length).length+(eZ lK r.be).length by unfold cX;simp]at g
 have c:=ml (l:=r.be) (E:=lK) (B:=2000000) (L:=λm b i=>El n r m b (i:Int)) (fin:=λb=>I6 n r b)
  (λm i b d e=>by
   let⟨x,p⟩:=mn s d;unfold lK at e ⊢;rw[UO]at e;simp only[El,Qf,d,bW d,US,UP,YW,UL,aF,cu (show i<=2^63-2 by omega)]
   rw[ut (by omega)<|by omega,aj,AX (by omega) p,aj,dW<|by omega,aF,dW (by rw[UO];omega),aF])
  (λm b w=>by simp only[El,Qf,UP,hS,UN,UK])
 unfold Em;rw[o,aj,k,aj,dW<|by omega,aF,wz (by omega)<|by omega,aj,dW (by rw[UO];omega),aF,dW (by simp only[UO];omega),aF]
 have:=c n 0 (b++((cX jc r.b7++ld r.EG)++dw r.be.length)) (by omega) (by omega) (by rw[gj];simp only[UO];omega)
 rw[gj]at this;refine this.trans ?_;rw[azX a t j _ (by simp only[UO];omega)]
 unfold cX;simp only[eO]
end
section
variable {n:Nat} (d:100000000<=n) (f:n<=2^63) {r:bK} {A:List aQ} (a:wv<|ni r A) (b:(gy<|ni r A).length<=800000) (c:∀q∈r.bY,pI q) (e:r.bY.length<=1000)
include d f a b c e
theorem azZ(s:DT n r.aq r.Pos=some (A,0))(p:Aj n r.b7=some true)(y:∀q∈r.EK,t' n q=some 0):I7 n r=some (gy<|ni r A):=by
 have I:A.length<=(gy<|ni r A).length:=alb a;have N:=b;unfold gy ni at b;simp only[UO]at b;have x:=azT (n:=n) (by omega) p a.nL.1.1 a.nL.1.2 (by show(cX jc r.b7).length<=_;omega)
 have w:=azQ (n:=n) (by omega) a.uL.1.1 a.uL.1.2.1 a.uL.1.2.2 (by show(ld r.EG).length<=_;omega)
 have t:=azW (n:=n) (by omega) a.ou.1 (λq F=>⟨(a.ou.2 q F).1,y q F⟩) (by show(cX hy r.EK).length<=_;omega)
 have aJ:=azP (n:=n) (l:=A) (by omega) (by omega) a.kR.1.2 (by omega)
 have H:eo r.Pos:=a.pos;have J:(mN r.Pos).length<=10:=qp a.pos;have Q:=kg (u:=r.bY.length) (by omega)
 have z:cX dq (r.bY.map hz)=dw r.bY.length++eZ (λq=>dq<|hz q) r.bY:=by
  unfold cX;rw[R0,jz]
 rw[z]at b;simp only[UO]at b
 have j:∀B:UB,B.length<=1000000->Em n r B=some (B++(cX jc r.b7++(ld r.EG++(cX lK r.be++(cX hy r.EK++ih r.cN))))):=λB P=>
  azY (by omega) x w a.az t a.RW B (by omega)
 have k:=ml (l:=r.bY) (E:=λq=>dq<|hz q) (B:=1000000) (L:=λm h i=>En n r m h (i:Int)) (fin:=λh=>Em n r h)
  (λm i h o K=>by
   have g:=mn c o;have O:=ak3 g;simp only[En,Qg,o,bW o,US,UP,YW,UL,aF,cu (show i<=2^63-2 by omega)]
   rw[ak2 g d,aj,ut (by omega)<|by omega,aj,dW<|by omega,aF])
  (λm h M=>by simp only[En,Qg,UP,hS,UN,UK])
 unfold I7;rw[s,aj,AX (by omega) H,aj,aJ,aj,dW<|by omega,aF,wz (by omega)<|by omega,aj,dW (by simp only[UO];omega),aF]
 have:=k n 0 ((mN r.Pos++cX jT A)++dw r.bY.length) (by omega) (by omega) (by rw[gj];simp only[UO];omega)
 rw[gj]at this;refine this.trans ?_;rw[j _ (by simp only[UO];omega)]
 unfold gy ni;simp only
 rw[z];simp only[eO]
end
section
variable {n:Nat} (d:100000000<=n) (f:n<=2^63) {r:bK} {A:List aQ} (a:wv<|ni r A) (b:(gy<|ni r A).length<=800000) (c:∀q∈r.bY,pI q) (e:r.bY.length<=1000)
include d f a b c e
theorem ale(s:tH n r.aq r.Pos=some (A,0))(p:vv n r.b7=some true)(y:∀q∈r.EK,p5 n q=some 0):vw n r=some (gy<|ni r A):=by
 have I:A.length<=(gy<|ni r A).length:=alb a;have N:=b;unfold gy ni at b;simp only[UO]at b;have x:=azD (n:=n) (by omega) p a.nL.1.1 a.nL.1.2 (by show(cX jc r.b7).length<=_;omega)
 have w:=azz (n:=n) (by omega) a.uL.1.1 a.uL.1.2.1 a.uL.1.2.2 (by show(ld r.EG).length<=_;omega)
 have t:=azK (n:=n) (by omega) a.ou.1 (λq F=>⟨(a.ou.2 q F).1,y q F⟩) (by show(cX hy r.EK).length<=_;omega)
 have aJ:=azy (n:=n) (l:=A) (by omega) (by omega) a.kR.1.2 (by omega)
 have H:eo r.Pos:=a.pos;have J:(mN r.Pos).length<=10:=qp a.pos;have Q:=kg (u:=r.bY.length) (by omega)
 have z:cX dq (r.bY.map hz)=dw r.bY.length++eZ (λq=>dq<|hz q) r.bY:=by
  unfold cX;rw[R0,jz]
 rw[z]at b;simp only[UO]at b
 have j:∀B:UB,B.length<=1000000->CR n r (hT B)=some (B++(cX jc r.b7++(ld r.EG++(cX lK r.be++(cX hy r.EK++ih r.cN))))):=λB P=>
  azM (by omega) x w a.az t a.RW B (by omega)
 have k:=ml (l:=r.bY) (E:=λq=>dq<|hz q) (B:=1000000) (L:=λm h i=>CS n r m (hT h) (i:Int)) (fin:=λh=>CR n r<|hT h)
  (λm i h o K=>by
   have g:=mn c o;have O:=ak3 g;simp only[CS,Ny,o,bW o,US,UP,YW,UL,aF,cu (show i<=2^63-2 by omega)]
   rw[abs g d,aj,ur (by omega)<|by omega,aj,mm<|by omega,aj])
  (λm h M=>by simp only[CS,Ny,UP,hS,UN,UK])
 unfold vw;rw[s,aj,AY (by omega) H,aj,aaY,mm (by simp;omega),aj,aJ,aj,mm (by simp;omega),aj,wx (by omega)<|by omega,aj,mm (by simp only[UO,UU];omega),aj]
 have:=k n 0 ((([]++mN r.Pos)++cX jT A)++dw r.bY.length) (by omega) (by omega) (by rw[gj];simp only[UO,UU];omega)
 rw[gj]at this;refine this.trans ?_;rw[j _ (by simp only[UO,UU];omega)]
 unfold gy ni;simp only
 rw[z];simp only[eO,iK]
end
def az0{L:Nat->Int->UM}{len:Nat}{Q:Nat->Prop}{fin:UM}
 (step:∀m i,i<len->L (m+1) (i:Int)=some false\/(Q i/\L (m+1) (i:Int)=L m ((i+1:Nat):Int))) (a:∀m,L (m+1) (len:Int)=fin):
 ∀m i,len<m+i->i<=len->L m (i:Int)=some false\/((∀k,i<=k->k<len->Q k)/\L m (i:Int)=fin):=by
 intro m;induction m with
 |zero=>intro i g f;omega
 |succ m l=>
  intro i g f;by_cases d:i<len
  ·rcases step m i d with h|⟨j,h⟩
   ·exact kP h
   ·rcases l (i+1) (by omega) (by omega)with ah|⟨ah,ay⟩
    ·exact kP<|h.trans ah
    ·refine iR ⟨λk c b=>?_,h.trans ay⟩
     by_cases e:k=i
     ·subst e;exact j
     ·exact ah k (by omega) b
  ·obtain rfl:i=len:=by omega
   exact iR ⟨λk c b=>by omega,a m⟩
def Bg{L:Nat->Int->UM}{len m:Nat}{Q:Nat->Prop}{fin:UM}(c:len<m)
 (step:∀m i,i<len->L (m+1) (i:Int)=some false\/(Q i/\L (m+1) (i:Int)=L m ((i+1:Nat):Int))) (a:∀m,L (m+1) (len:Int)=fin):
 L m 0=some false\/((∀k,k<len->Q k)/\L m 0=fin):=by
 rcases az0 step a m 0 (by omega) (by omega)with h|⟨h1,h2⟩
 ·exact kP h
 ·exact iR ⟨λk b=>h1 k (by omega) b,h2⟩
structure alf(f:hQ):Prop where
 r:f.Reads.length<=100
 w:f.cp.length<=100
 rs:∀i,i<f.Reads.length->(f.Reads.getD i default).length<=100
 ws:∀i,i<f.cp.length->(f.cp.getD i default).length<=100
def az1{n:Nat}(o:2000<=n)(f:hQ):z' n f 100=some false\/(alf f/\z' n f 100=some true):=by
 unfold z';simp only[fq,dU];by_cases l:f.Reads.length<=100
 ·by_cases k:f.cp.length<=100
  ·simp only[show¬ 100<f.Reads.length by omega,show¬ 100<f.cp.length by omega,UN,wE,UK]
   have c:=Bg (L:=z8 n f) (len:=f.cp.length) (m:=n) (Q:=λi=>(f.cp.getD i default).length<=100) (fin:=some true) (by omega)
    (λm i a=>by
     simp only[z8,OI,a,bW a,US,UP,fq,YW,UL,aF,cu (show i<=2^63-2 by omega)]
     by_cases h:(f.cp.getD i default).length<=100
     ·right;simp only[show¬ 100<(f.cp.getD i default).length by omega,UN,UK,h,kY]
     ·left;simp only[show 100<(f.cp.getD i default).length by omega,YW,UL])
    (λm=>by simp only[z8,OI,WW,UP,hS,UN,UK])
   have d:=Bg (L:=Dw n f) (len:=f.Reads.length) (m:=n) (Q:=λi=>(f.Reads.getD i default).length<=100) (fin:=z8 n f n 0) (by omega)
    (λm i a=>by
     simp only[Dw,OJ,a,bW a,US,UP,fq,YW,UL,aF,cu (show i<=2^63-2 by omega)]
     by_cases h:(f.Reads.getD i default).length<=100
     ·right;simp only[show¬ 100<(f.Reads.getD i default).length by omega,UN,UK,h,kY]
     ·left;simp only[show 100<(f.Reads.getD i default).length by omega,YW,UL])
    (λm=>by simp only[Dw,OJ,WX,UP,hS,UN,UK])
   rcases d with d|⟨g,j⟩
   ·exact kP d
   ·rw[j];rcases c with c|⟨b,e⟩
    ·exact kP c
    ·exact iR ⟨⟨l,k,g,b⟩,e⟩
  ·left;simp only[show 100<f.cp.length by omega,YW,U4,UL]
 ·left;simp only[show 100<f.Reads.length by omega,YW,kI,UL]
structure abE(r:BE):Prop where
 p:r.bk.length<=300
 a:r.ax.length<=40
 vs:∀i,i<r.ax.length->(r.ax.getD i default).S.length<=300
 f:alf r.bM
def az2{n:Nat}(b:2000<=n)(r:BE):Is n r=some false\/(abE r/\Is n r=some true):=by
 unfold Is;simp only[fq,dU];by_cases d:r.bk.length<=300
 ·by_cases c:r.ax.length<=40
  ·simp only[show¬ 300<r.bk.length by omega,show¬ 40<r.ax.length by omega,UN,wE,jJ,YY,UL]
   rcases az1 b r.bM with h|⟨e,h⟩
   ·left;rw[show z' n _ 100=some false from h];rfl
   ·rw[show z' n ⟨r.bM.fl,r.bM.Reads,r.bM.cp⟩ 100=some true from h,aj]
    simp only[UR,UK]
    rcases Bg (L:=Dx n r) (len:=r.ax.length) (m:=n) (Q:=λi=>(r.ax.getD i default).S.length<=300) (fin:=some true) (by omega)
     (λm i a=>by
      simp only[Dx,OK,a,bW a,US,UP,fq,YW,UL,aF,cu (show i<=2^63-2 by omega)]
      by_cases h:(r.ax.getD i default).S.length<=300
      ·right;simp only[show¬ 300<(r.ax.getD i default).S.length by omega,UN,UK,h,kY]
      ·left;simp only[show 300<(r.ax.getD i default).S.length by omega,YW,UL])
     (λm=>by simp only[Dx,OK,WY,UP,hS,UN,UK])with ay|⟨ay,aO⟩
    ·exact kP ay
    ·exact iR ⟨⟨d,c,ay,e⟩,aO⟩
  ·left;simp only[show 40<r.ax.length by omega,YW,U4,kI,UR,UK,aj,UL]
 ·left;simp only[show 300<r.bk.length by omega,YW,kI,UR,UK,aj,UL]
def ov(r:Row):bJ:=(r.aR.getD (r.aR.length-1) default).aY
def dx:List Row->List aQ
 |[]=>[]
 |r::l=>if(ov r).Cc=0 then dx l else⟨r.Key,ov r⟩::dx l
structure Fu(n:Nat)(a:Int)(r:Row):Prop where
 l:r.aR.length<n
 b:r.aR.length<=1000000000
 p:0<r.aR.length
 s:∀i,i<r.aR.length->(r.aR.getD i default).br<=a
def az3{n:Nat}{a:Int}{r:Row}(h:Fu n a r):CA n r a=some (r.aR.length:Int):=by
 have k:=h.l;have j:=h.b;unfold CA
 have c:∀m i,r.aR.length<m+i->i<=r.aR.length->vt n a r m (i:Int)=some (r.aR.length:Int):=by
  intro m;induction m with
  |zero=>intro i f e;omega
  |succ m g=>
   intro i f e;simp only[vt,G6,G5,UP,US];by_cases d:i<r.aR.length
   ·simp only[d,bW d,YW,U4,aF,UL,h.s i d,cu (show i<=2^63-2 by omega)]
    exact g (i+1) (by omega) (by omega)
   ·obtain rfl:i=r.aR.length:=by omega
    simp only[hS,UN,YY,kI,aF,UK]
 exact c n 0 (by omega) (by omega)
def az4{n:Nat}{a:Int}{r:Row}(h:Fu n a r):p7 n r a=some (ov r):=by
 have f:=h.l;have d:=h.b;have c:=h.p;unfold p7;rw[az3 h,aj];have e:YV ((r.aR.length:Int)-1)=((r.aR.length-1:Nat):Int):=by(try unfold YV);rw[IntKind.wrap_i64];omega
 simp only[show¬ (r.aR.length:Int)=0 by omega,UN,UK,e,bW (show r.aR.length-1<r.aR.length by omega),aF,US]
 rfl
def az5{n:Nat}{a:Int}{r:Row}(h:Fu n a r):Iw n r a=some (ov r):=by
 have q:=h.l;have o:=h.b;have k:=h.p;unfold Iw
 have c:∀m i K N S,r.aR.length<m+i->i<=r.aR.length->Iv n a r m K N S (i:Int)=some (if i=r.aR.length then⟨K,N,S⟩else ov r):=by
  intro m;induction m with
  |zero=>intro i K N S g f;omega
  |succ m j=>
   intro i K N S g f;simp only[Iv,Xc,Xb,O0,UP,US];by_cases d:i<r.aR.length
   ·simp only[d,bW d,YW,aF,UL,h.s i d,cu (show i<=2^63-2 by omega)]
    rw[j (i+1) _ _ _ (by omega)<|by omega,de (show¬ i=r.aR.length by omega)]
    by_cases e:i+1=r.aR.length
    ·rw[eI e];unfold ov;rw[<-e,Nat.add_sub_cancel]
    ·rw[de e]
   ·obtain rfl:i=r.aR.length:=by omega
    simp only[hS,UN,UK,U3]
 have:=c n 0 0 0 [] (by omega) (by omega)
 rw[de<|by omega]at this
 exact this
section
variable {n:Nat} {s:aq} {a:Int} (e:s.Rows.length<=1000) (d:2000<=n) (h:∀i,i<s.Rows.length->Fu n a (s.Rows.getD i default)) (c:s.bu<=a) (b:a<=s.bi)
include e d h c b
theorem az6(o:vr n s=some true):tH n s a=some (dx s.Rows,0):=by
 have j:∀m i f,s.Rows.length<m+i->i<=s.Rows.length->f.length<=i->vu n a s m (i:Int) f=some (f++dx (s.Rows.drop i),0):=by
  intro m;induction m with
  |zero=>intro i f q p;omega
  |succ m l=>
   intro i f q p t;simp only[vu,G8,UP];by_cases g:i<s.Rows.length
   ·simp only[g,bW g,US,YW,UL,aF];rw[az4<|h i g,aj,gl s.Rows i default g,dx];by_cases k:(ov<|s.Rows.getD i default).Cc=0
    ·simp only[k,YW,UR,UK,w8,cu (show i<=2^63-2 by omega),U3]
     exact l (i+1) _ (by omega) (by omega) (by omega)
    ·simp only[k,UN,YY,UL,U1,w8,cu (show i<=2^63-2 by omega),iF (show(f.length+1)*48<=140737488355328 by omega),aF,UY]
     rw[l (i+1) _ (by omega) (by omega) (by rw[UO,U1];omega)]
     simp
   ·obtain rfl:i=s.Rows.length:=by omega
    simp only[hS,UN,UK,G7,i_ s.Rows _ g,dx,gJ]
 unfold tH;rw[o,aj]
 have r:zn n s a=some 0:=by
  unfold zn;simp only[show¬ a<s.bu by omega,show¬ s.bi<a by omega,UN,UK]
 simp only[UR,UK,r,aj,YW];exact j n 0 [] (by omega) (by omega) (by simp)
theorem alg(o:Af n s=some true):DT n s a=some (dx s.Rows,0):=by
 have j:∀m i f,s.Rows.length<m+i->i<=s.Rows.length->f.length<=i->DS n a s m f (i:Int)=some (f++dx (s.Rows.drop i)):=by
  intro m;induction m with
  |zero=>intro i f q p;omega
  |succ m l=>
   intro i f q p r;simp only[DS,XE,UP];by_cases g:i<s.Rows.length
   ·simp only[g,bW g,US,YW,UL,aF];rw[az5<|h i g,aj,gl s.Rows i default g,dx];by_cases k:(ov<|s.Rows.getD i default).Cc=0
    ·simp only[k,YW,UR,UK,IB,cu (show i<=2^63-2 by omega),U3]
     exact l (i+1) _ (by omega) (by omega) (by omega)
    ·simp only[k,UN,YY,UL,U1,IB,cu (show i<=2^63-2 by omega),iF (show(f.length+1)*48<=140737488355328 by omega),aF,UY]
     rw[l (i+1) _ (by omega) (by omega) (by rw[UO,U1];omega)]
     simp
   ·obtain rfl:i=s.Rows.length:=by omega
    simp only[hS,UN,UK,XD,i_ s.Rows _ g,dx,gJ]
 unfold DT XF;rw[o,aj];simp only[show¬ a<s.bu by omega,show¬ s.bi<a by omega,UN,UK,UR]
 rw[show DS n a s n [] 0=_ from j n 0 [] (by omega) (by omega) (by simp),aj]
 rfl
end
def alh{n:Nat}{s:aq}(a:gN s=true)(d:∀i,i<s.Rows.length->(s.Rows.getD i default).aR.length<n/\(s.Rows.getD i default).aR.length<=1000000000)(i:Nat)(hi:i<s.Rows.length):Fu n s.bi (s.Rows.getD i default):=by
 unfold gN at a;rw[cb,hN]at a;have f:=a.2 i hi;rw[cb]at f;have b:=f.2;unfold jo at b;rw[cb,hN]at b;let⟨g,j⟩:=b;refine⟨(d i hi).1,(d i hi).2,?_,λk h=>?_⟩
 ·by_cases e:(s.Rows.getD i default).aR.length=0
  ·rw[e]at g;simp at g
  ·omega
 ·have c:=j k h;unfold qv at c;simp only[cb,hh,iv]at c;have:=c.1.1.2
  omega
def kS:List UB->Prop
 |[]=>True
 |k::l=>(∀j∈l,Op.bytesLess k j=true)/\kS l
def R1:∀l:List UB,(∀i,i+1<l.length->Op.bytesLess (l.getD i []) (l.getD (i+1) [])=true)->kS l
 |[],_=>trivial
 |k::l,h=>by
  have b:=R1 l λi c=>by have:=h (i+1) (by simpa using c);simpa using this
  refine⟨λj hj=>?_,b⟩
  cases l with
  |nil=>simp at hj
  |cons d l=>
   have a:Op.bytesLess k d=true:=by simpa using h 0 (by simp)
   rcases gh.1 hj with rfl|hj
   ·exact a
   ·exact RE _ _ _ a (b.1 j hj)
def abF:∀(l:List UB) (i:Nat),kS l->i+1<l.length->Op.bytesLess (l.getD i []) (l.getD (i+1) [])=true
 |[],i,_,h=>by simp at h
 |k::l,0,⟨b,_⟩,h=>by
  cases l with
  |nil=>simp at h
  |cons c l=>simpa using b c (by simp)
 |k::l,i+1,⟨_,a⟩,h=>by
  have:=abF l i a (by simpa using h)
  simpa using this
def abG:∀l:List Row,(∀p∈dx l,p.Key∈l.map (·.Key))
 |[],p,h=>by simp[dx]at h
 |r::l,p,h=>by
  unfold dx at h;by_cases k:(ov r).Cc=0
  ·rw[eI k]at h;have:=abG l p h
   simp only[kz,gh];exact iR this
  ·rw[de k]at h;rcases gh.1 h with rfl|h
   ·simp
   ·have:=abG l p h
    simp only[kz,gh];exact iR this
def abH:∀l:List Row,kS (l.map (·.Key))->kS ((dx l).map (·.Key))
 |[],_=>trivial
 |r::l,h=>by
  let⟨e,d⟩:=h;have a:=abH l d;unfold dx;by_cases k:(ov r).Cc=0
  ·rw[eI k];exact a
  ·rw[de k];refine⟨λj c=>?_,a⟩
   obtain⟨p,b,rfl⟩:=jk.1 c;exact e _ (abG l p b)
def Bh:∀(l:List Row) (p:aQ),p∈dx l->∃r∈l,p=⟨r.Key,ov r⟩/\(ov r).Cc≠0
 |[],p,h=>by simp[dx]at h
 |r::l,p,h=>by
  unfold dx at h;by_cases k:(ov r).Cc=0
  ·rw[eI k]at h;let⟨x,a,e⟩:=Bh l p h;exact⟨x,by simp[a],e⟩
  ·rw[de k]at h;rcases gh.1 h with rfl|h
   ·exact⟨r,by simp,rfl,k⟩
   ·let⟨x,a,e⟩:=Bh l p h;exact⟨x,by simp[a],e⟩
def ali{s:aq}(a:gN s=true)(e:∀i,i<s.Rows.length->(s.Rows.getD i default).aR.length<=1000000000)(i:Nat)(hi:i<s.Rows.length):fY (s.Rows.getD i default).Key=true/\gS (ov<|s.Rows.getD i default)=true:=by
 have f:=alh (n:=1000000001) a (λi hi=>⟨by have:=e i hi;omega,e i hi⟩) i hi
 unfold gN at a;rw[cb,hN]at a;have c:=a.2 i hi;simp only[cb]at c;refine⟨c.1.1,?_⟩
 have b:=c.2;unfold jo at b;rw[cb,hN]at b;have g:=f.p;have d:=b.2 ((s.Rows.getD i default).aR.length-1) (by omega)
 unfold qv at d;simp only[cb]at d;exact d.1.2
def yf{α:Type}[Inhabited α]{l:List α}{x:α}(h:x∈l):∃i,i<l.length/\l.getD i default=x:=by
 let⟨i,a,e⟩:=List.mem_iff_getElem.1 h;exact⟨i,a,by rw[ie,ed a];exact e⟩
def uM{α:Type}[Inhabited α](l:List α)(f:α->UB)(i:Nat)(hi:i<l.length):(l.map f).getD i []=f (l.getD i default):=by
 simp only[ie,gV,ed hi,lC,nB]
def uN:∀l:List Row,(dx l).length<=l.length
 |[]=>fS _
 |r::l=>by
  have:=uN l
  unfold dx;split
  ·simp only[UT];omega
  ·simp only[UT];omega
def az7{s:aq}(h:gN s=true)(u:s.Rows.length<=1000000)(q:∀i,i<s.Rows.length->(s.Rows.getD i default).aR.length<=1000000000):mj (dx s.Rows)=true:=by
 have hlen:=uN s.Rows
 have m:kS (s.Rows.map (·.Key)):=by
  refine R1 _ λi c=>?_
  rw[jz]at c;have f:=h;unfold gN at f;rw[cb,hN]at f;have l:=f.2 (i+1) c;simp only[cb]at l;have k:=l.1.2;rw[A5 i<|by omega,show decide (0<((i+1:Nat):Int))=true from fp (by omega),UR,jJ]at k
  rw[uM s.Rows (·.Key) i<|by omega,uM s.Rows (·.Key) (i+1) c]
  exact k
 have g:=abH _ m
 have d:∀i,i<(dx s.Rows).length->fY ((dx s.Rows).getD i default).Key=true/\gS ((dx s.Rows).getD i default).aY=true/\((dx s.Rows).getD i default).aY.Cc≠0:=λi c=>by
  have n:(dx s.Rows).getD i default∈dx s.Rows:=by
   rw[ie,ed c];exact pj c
  let⟨r,t,e,o⟩:=Bh _ _ n;obtain⟨j,p,rfl⟩:=yf t;let⟨a,b⟩:=ali h q j p;rw[e];exact⟨a,b,o⟩
 unfold mj rz;rw[cb,hN,hN];refine⟨λi c=>?_,λi c=>by rw[en (d i c).2.2];rfl⟩
 rw[(d i c).1,(d i c).2.1];cases i with
 |zero=>rfl
 |succ i=>
  have:=abF _ i g (by rw[jz];exact c)
  rw[uM (dx s.Rows) (λx=>x.Key) i<|by omega,uM (dx s.Rows) (λx=>x.Key) (i+1) c]at this
  rw[A5 i<|by omega,this]
  simp
def alj{α:Type}:∀(l:List α),l.length=4->∃a b c d,l=[a,b,c,d]
 |[a,b,c,d],_=>⟨a,b,c,d,rfl⟩
 |[],h=>by simp at h
 |[_],h=>by simp at h
 |[_,_],h=>by simp at h
 |[_,_,_],h=>by simp at h
 |_::_::_::_::_::_,h=>by simp at h
section
variable {H:Type} {enc:TypeId×Value->H} {W:World}
theorem abJ:prog.cellsOf 171=4:=by kernel_rfl
theorem abK:prog.cellsOf 3=1:=by kernel_rfl
theorem az9:prog.cellsOf 2=1:=by kernel_rfl
theorem R2:prog.cellsOf 9=1:=by kernel_rfl
theorem az':prog.cellsOf 169=1:=by kernel_rfl
theorem alk:∀l:List Bi,(∀i,i<l.length->oe (l.getD i default))->AS l
 |[],h=>trivial
 |x::l,h=>⟨h 0<|by simp,alk l λi a=>by have:=h (i+1) (by simpa using a);simpa using this⟩
theorem alm:∀(a:Nat) (cs:List Value) (x:DataW H×List MemPlace),DataW.trod enc prog W 0 (λ_=>true) true a 171 cs=some x->∃e:Bi,oe e/\iu W cs (ct e).cells:=by
 intro a;induction a using Nat.strongRecOn with
 |_ a M=>
  intro cs x h;let⟨r,n,P,_,p,E,c⟩:=DataW.trod_struct underlying171 h;rw[abJ]at p;obtain⟨L,l,f,b,rfl⟩:=alj cs p;obtain⟨z,F,J,y,rfl⟩:=alj r E;have j:DataW.trod enc prog W 0 (λ_=>true) true n 3 (List.take (prog.cellsOf 3) [L,l,f,b])=some z:=c 0 _ rfl
  have i:DataW.trod enc prog W 0 (λ_=>true) true n 2 (List.take (prog.cellsOf 2) [l,f,b])=some F:=c 1 _ rfl
  have g:DataW.trod enc prog W 0 (λ_=>true) true n 9 (List.take (prog.cellsOf 9) [f,b])=some J:=c 2 _ rfl
  have o:DataW.trod enc prog W 0 (λ_=>true) true n 169 (List.take (prog.cellsOf 169) [b])=some y:=c 3 _ rfl
  rw[abK]at j;rw[az9]at i;rw[R2]at g;rw[az']at o;let⟨Op,_,I⟩:=y_ (k:=.i64) underlying3 j;let⟨N,q,u⟩:=y_ (k:=.i64) underlying2 i;let⟨S,O,t⟩:=Cd underlying9 g;let⟨A,aT,K,s⟩:=za (encA:=ct) (ok:=oe) underlying169 abJ (by omega) o<|λm d w Q B=>M m (by omega) d w B
  refine⟨⟨Op,N,S,A⟩,⟨⟨q.1,q.2⟩,O,aT,alk A K⟩,?_⟩
  have:=((I.app u).app t).app s
  exact this.Mb (GP ⟨Op,N,S,A⟩)
end
def az_{α:Type}(l:List α)(h:l.length=13):∃a b c d e f g i j k m n o,l=[a,b,c,d,e,f,g,i,j,k,m,n,o]:=by
 match l,h with
 |[a,b,c,d,e,f,g,i,j,k,m,n,o],_=>exact⟨a,b,c,d,e,f,g,i,j,k,m,n,o,rfl⟩
def aAa{α:Type}(l:List α)(h:l.length=7):∃a b c d e f g,l=[a,b,c,d,e,f,g]:=by
 match l,h with
 |[a,b,c,d,e,f,g],_=>exact⟨a,b,c,d,e,f,g,rfl⟩
def aln{α:Type}(l:List α)(h:l.length=3):∃a b c,l=[a,b,c]:=by
 match l,h with
 |[a,b,c],_=>exact⟨a,b,c,rfl⟩
def alo{α:Type}(l:List α)(h:l.length=2):∃a b,l=[a,b]:=by
 match l,h with
 |[a,b],_=>exact⟨a,b,rfl⟩
section
variable {H:Type} {enc:TypeId×Value->H} {W:World}
theorem R3:prog.cellsOf 173=13:=by kernel_rfl
theorem alp:prog.cellsOf 126=2:=by kernel_rfl
theorem aAb:prog.cellsOf 64=3:=by kernel_rfl
theorem alq:prog.cellsOf 62=1:=by kernel_rfl
theorem aAc:prog.cellsOf 61=1:=by kernel_rfl
theorem R4:∀l:List Bj,(∀i,i<l.length->sP (l.getD i default))->sQ l
 |[],h=>trivial
 |x::l,h=>⟨h 0<|by simp,R4 l λi a=>by have:=h (i+1) (by simpa using a);simpa using this⟩
theorem aAd:∀(b:Nat) (cs:List Value) (x:DataW H×List MemPlace),DataW.trod enc prog W 0 (λ_=>true) true b 173 cs=some x->∃s:Bj,sP s/\iu W cs (cd s).cells:=by
 intro b;induction b using Nat.strongRecOn with
 |_ b N=>
  intro cs x h;let⟨P,n,hn,_,L,Z,e⟩:=DataW.trod_struct underlying173 h;rw[R3]at L;obtain⟨c0,F,w,r,q,p,o,i,l,j,g,f,a,rfl⟩:=az_ cs L;obtain⟨X,dZ,dF,U,gd,T,Q,rfl⟩:=aAa P Z;have E:DataW.trod enc prog W 0 (λ_=>true) true n 3 (List.take (prog.cellsOf 3) [c0,F,w,r,q,p,o,i,l,j,g,f,a])=some X:=e 0 _ rfl
  have z:DataW.trod enc prog W 0 (λ_=>true) true n 9 (List.take (prog.cellsOf 9) [F,w,r,q,p,o,i,l,j,g,f,a])=some dZ:=e 1 _ rfl
  have y:DataW.trod enc prog W 0 (λ_=>true) true n 3 (List.take (prog.cellsOf 3) [w,r,q,p,o,i,l,j,g,f,a])=some dF:=e 2 _ rfl
  have K:DataW.trod enc prog W 0 (λ_=>true) true n 171 (List.take (prog.cellsOf 171) [r,q,p,o,i,l,j,g,f,a])=some U:=e 3 _ rfl
  have J:DataW.trod enc prog W 0 (λ_=>true) true n 171 (List.take (prog.cellsOf 171) [i,l,j,g,f,a])=some gd:=e 4 _ rfl
  have M:DataW.trod enc prog W 0 (λ_=>true) true n 62 (List.take (prog.cellsOf 62) [f,a])=some T:=e 5 _ rfl
  have I:DataW.trod enc prog W 0 (λ_=>true) true n 62 (List.take (prog.cellsOf 62) [a])=some Q:=e 6 _ rfl
  rw[abK]at E y;rw[R2]at z;rw[abJ]at K J;rw[alq]at M I;let⟨Op,_,dX⟩:=y_ (k:=.i64) underlying3 E;let⟨Nm,aH,S⟩:=Cd underlying9 z;let⟨O,cR,R⟩:=y_ (k:=.i64) underlying3 y;let⟨A,aT,r3⟩:=alm n _ _ K;let⟨B,bT,bd⟩:=alm n _ _ J;let⟨au,aDJ,JM,cv⟩:=za (encA:=cd) (ok:=sP) underlying62 R3 (by omega) M<|λm c t Y u=>N m (by omega) c t u
  let⟨d,aDK,JN,bq⟩:=za (encA:=cd) (ok:=sP) underlying62 R3 (by omega) I<|λm c t Y u=>N m (by omega) c t u
  refine⟨⟨Op,Nm,O,A,B,au,d⟩,⟨cR,aH,aT,bT,R4 au JM,R4 d JN⟩,?_⟩
  have:=(((((dX.app S).app R).app<|r3.Mb<|Uz A).app<|bd.Mb<|Uz B).app cv).app bq
  exact this.Mb (afc ⟨Op,Nm,O,A,B,au,d⟩)
theorem aAe(a:Nat)(cs:List Value)(x:DataW H×List MemPlace)(h:DataW.trod enc prog W 0 (λ_=>true) true a 126 cs=some x):∃p:BM,p.BY.length<=2^63-1/\iu W cs (eE p).cells:=by
 let⟨i,n,t,_,f,m,g⟩:=DataW.trod_struct underlying126 h;rw[alp]at f;obtain⟨r,e,rfl⟩:=alo cs f;obtain⟨l,o,rfl⟩:=alo i m;have d:DataW.trod enc prog W 0 (λ_=>true) true n 9 (List.take (prog.cellsOf 9) [r,e])=some l:=g 0 _ rfl
 have c:DataW.trod enc prog W 0 (λ_=>true) true n 3 (List.take (prog.cellsOf 3) [e])=some o:=g 1 _ rfl
 rw[R2]at d;rw[abK]at c;let⟨Nm,s,q⟩:=Cd underlying9 d;let⟨b,_,j⟩:=y_ (k:=.i64) underlying3 c;exact⟨⟨Nm,b⟩,s,q.app j⟩
theorem aAg(b:Nat)(cs:List Value)(x:DataW H×List MemPlace)(h:DataW.trod enc prog W 0 (λ_=>true) true b 64 cs=some x):∃p:bk,uk p/\iu W cs (cV p).cells:=by
 let⟨q,n,K,_,o,y,f⟩:=DataW.trod_struct underlying64 h;rw[aAb]at o;obtain⟨E,l,e,rfl⟩:=aln cs o;obtain⟨u,z,B,rfl⟩:=aln q y;have k:DataW.trod enc prog W 0 (λ_=>true) true n 9 (List.take (prog.cellsOf 9) [E,l,e])=some u:=f 0 _ rfl
 have j:DataW.trod enc prog W 0 (λ_=>true) true n 61 (List.take (prog.cellsOf 61) [l,e])=some z:=f 1 _ rfl
 have i:DataW.trod enc prog W 0 (λ_=>true) true n 62 (List.take (prog.cellsOf 62) [e])=some B:=f 2 _ rfl
 rw[R2]at k;rw[aAc]at j;rw[alq]at i;let⟨Nm,F,A⟩:=Cd underlying9 k;let⟨g,t,J,s⟩:=za (encA:=eE) (ok:=λp:BM=>p.BY.length<=2^63-1) underlying61 alp (by omega) j<|λm a c w d=>aAe m a c d
 let⟨au,L,I,r⟩:=za (encA:=cd) (ok:=sP) underlying62 R3 (by omega) i<|λm a c w d=>aAd m a c d
 exact⟨⟨Nm,g,au⟩,⟨F,t,J,R4 au I⟩,(A.app s).app r⟩
end
def yg{α:Type}(l:List α)(h:l.length=2):∃b a,l=[b,a]:=by
 match l,h with
 |[b,a],_=>exact⟨b,a,rfl⟩
def qw{α:Type}(l:List α)(h:l.length=3):∃c b a,l=[c,b,a]:=by
 match l,h with
 |[c,b,a],_=>exact⟨c,b,a,rfl⟩
def alr{α:Type}(l:List α)(h:l.length=4):∃d c b a,l=[d,c,b,a]:=by
 match l,h with
 |[d,c,b,a],_=>exact⟨d,c,b,a,rfl⟩
def abM{α:Type}(l:List α)(h:l.length=5):∃e d c b a,l=[e,d,c,b,a]:=by
 match l,h with
 |[e,d,c,b,a],_=>exact⟨e,d,c,b,a,rfl⟩
def aAi{α:Type}(l:List α)(h:l.length=6):∃f e d c b a,l=[f,e,d,c,b,a]:=by
 match l,h with
 |[f,e,d,c,b,a],_=>exact⟨f,e,d,c,b,a,rfl⟩
def als{α:Type}(l:List α)(h:l.length=8):∃g f e d c b a i,l=[g,f,e,d,c,b,a,i]:=by
 match l,h with
 |[g,f,e,d,c,b,a,i],_=>exact⟨g,f,e,d,c,b,a,i,rfl⟩
def aAj{α:Type}(l:List α)(h:l.length=11):∃k j i g f e d m b c a,l=[k,j,i,g,f,e,d,m,b,c,a]:=by
 match l,h with
 |[k,j,i,g,f,e,d,m,b,c,a],_=>exact⟨k,j,i,g,f,e,d,m,b,c,a,rfl⟩
section
variable {H:Type} {enc:TypeId×Value->H} {W:World}
def nM{α:Type}(W:World)(t:TypeId)(ok:α->Prop)(E:α->V):Prop:=∀(a:Nat) (cs:List Value) (x:DataW H×List MemPlace),DataW.trod enc prog W 0 (λ_=>true) true a t cs=some x->∃p:α,ok p/\iu W cs (E p).cells
variable {n:Nat} {t:TypeId} {l:List Value} {x:DataW H×List MemPlace}
abbrev alt(enc:TypeId×Value->H)(W:World)(n:Nat)(t:TypeId)(l:List Value)(x:DataW H×List MemPlace):Prop:=DataW.trod enc prog W 0 (λ_=>true) true n t l=some x
abbrev Fx(enc:TypeId×Value->H)(W:World)(n:Nat)(t:TypeId)(l:List Value)(x:DataW H×List MemPlace):Prop:=alt enc W n t (l.take<|prog.cellsOf t) x
theorem s3(k:Nat)(h:Fx enc W n t l x)(a:prog.cellsOf t=k:=by kernel_rfl):alt enc W n t (l.take k) x:=by
 subst a;exact h
theorem mo(h:Fx enc W n t l x)(a:prog.cellsOf t=1:=by kernel_rfl)(b:prog.underlying t=some (.int .i64):=by kernel_rfl):∃v:Int,eo v/\iu W (l.take 1) [.int .i64 v]:=
 let ⟨v,k,r⟩:=y_ (k:=.i64) b<|s3 1 h a;⟨v,⟨k.1,k.2⟩,r⟩
theorem aAk(h:Fx enc W n t l x)(a:prog.cellsOf t=1:=by kernel_rfl)(b:prog.underlying t=some (.int .u64):=by kernel_rfl):∃v:Int,hr v/\iu W (l.take 1) [.int .u64 v]:=
 let ⟨v,k,r⟩:=y_ (k:=.u64) b<|s3 1 h a;⟨v,⟨k.1,Int.lt_of_le_of_lt k.2<|by decide⟩,r⟩
theorem Bk(h:Fx enc W n t l x)(a:prog.cellsOf t=1:=by kernel_rfl)(b:prog.underlying t=some .string:=by kernel_rfl):∃s:UB,s.length<=2^63-1/\iu W (l.take 1) [.str s]:=Cd b (s3 1 h a)
theorem abP(h:Fx enc W n t l x)(a:prog.cellsOf t=1:=by kernel_rfl)(c:prog.underlying t=some .bool:=by kernel_rfl):∃b:Bool,iu W (l.take 1) [.bool b]:=apw c (s3 1 h a)
theorem alu:nM (enc:=enc) W 9 (λs:UB=>s.length<=2^63-1) ba:=λm a x h=>Cd underlying9 h
theorem qx{α:Type}[Inhabited α]{ok:α->Prop}{E:α->V}{e:TypeId}(k:Nat)(p:nM (enc:=enc) W e ok E)(h:Fx enc W n t l x)(f:prog.cellsOf t=1:=by kernel_rfl)(o:prog.underlying t=some (.slice e):=by kernel_rfl)(d:prog.cellsOf e=k:=by kernel_rfl)(g:0<k:=by decide):
 ∃v:List α,(v.length<=2^63-1/\∀i,i<v.length->ok (v.getD i default))/\iu W (l.take 1) [ai k E v]:=
 let ⟨v,a,b,r⟩:=za o d g (s3 1 h f)<|λm j x _ c=>p m j x c;⟨v,⟨a,b⟩,r⟩
structure Fy(x:bJ):Prop where
 aDL:eo x.Cc
 abQ:eo x.N
 Fz:x.S.length<=2^63-1
theorem R5:nM (enc:=enc) W 81 Fy eC:=λa o x h=>by
 let⟨b,n,r,_,aa,i,aB⟩:=DataW.trod_struct underlying81 h;obtain⟨z,y,w,rfl⟩:=qw o<|aa.trans<|by kernel_rfl
 obtain⟨q,s,u,rfl⟩:=qw b i;let⟨e,j,m⟩:=mo<|aB 0 _ rfl;let⟨d,k,g⟩:=mo<|aB 1 _ rfl;let⟨c,p,f⟩:=Bk<|aB 2 _ rfl;exact⟨⟨e,d,c⟩,⟨j,k,p⟩,((m.app g).app f)⟩
structure abR(x:Br):Prop where
 alv:eo x.br
 wA:Fy x.aY
theorem aAl:nM (enc:=enc) W 91 abR eu:=λa k x h=>by
 let⟨b,n,o,_,aa,f,aB⟩:=DataW.trod_struct underlying91 h;obtain⟨u,s,r,q,rfl⟩:=alr k<|aa.trans<|by kernel_rfl
 obtain⟨m,p,rfl⟩:=yg b f;let⟨d,g,j⟩:=mo<|aB 0 _ rfl;let⟨c,i,e⟩:=R5 n _ _<|s3 3<|aB 1 _ rfl;exact⟨⟨d,c⟩,⟨g,i⟩,(j.app e)⟩
structure alw(x:Row):Prop where
 uO:x.Key.length<=2^63-1
 FA:x.aR.length<=2^63-1/\∀i,i<x.aR.length->abR (x.aR.getD i default)
theorem aAm:nM (enc:=enc) W 95 alw bm:=λa k x h=>by
 let⟨b,n,o,_,aa,f,aB⟩:=DataW.trod_struct underlying95 h;obtain⟨r,q,rfl⟩:=yg k<|aa.trans<|by kernel_rfl
 obtain⟨m,p,rfl⟩:=yg b f;let⟨d,g,j⟩:=Bk<|aB 0 _ rfl;let⟨c,i,e⟩:=qx 4 aAl<|aB 1 _ rfl;exact⟨⟨d,c⟩,⟨g,i⟩,(j.app e)⟩
structure KQ(x:aq):Prop where
 aDM:eo x.bu
 aDN:eo x.bi
 R6:x.Rows.length<=2^63-1/\∀i,i<x.Rows.length->alw (x.Rows.getD i default)
theorem aAn:nM (enc:=enc) W 24 KQ Uy:=λa o x h=>by
 let⟨b,n,r,_,aa,i,aB⟩:=DataW.trod_struct underlying24 h;obtain⟨z,y,w,rfl⟩:=qw o<|aa.trans<|by kernel_rfl
 obtain⟨q,s,u,rfl⟩:=qw b i;let⟨e,j,m⟩:=mo<|aB 0 _ rfl;let⟨d,k,g⟩:=mo<|aB 1 _ rfl;let⟨c,p,f⟩:=qx 2 aAm<|aB 2 _ rfl;exact⟨⟨e,d,c⟩,⟨j,k,p⟩,((m.app g).app f)⟩
structure abS(x:Bt):Prop where
 aDO:eo x.Status
 aDP:eo x.Code
 alx:x.Out.length<=2^63-1/\∀i,i<x.Out.length->Fy (x.Out.getD i default)
theorem aAo:nM (enc:=enc) W 180 abS YZ:=λa o x h=>by
 let⟨b,n,r,_,aa,i,aB⟩:=DataW.trod_struct underlying180 h;obtain⟨z,y,w,rfl⟩:=qw o<|aa.trans<|by kernel_rfl
 obtain⟨q,s,u,rfl⟩:=qw b i;let⟨e,j,m⟩:=mo<|aB 0 _ rfl;let⟨d,k,g⟩:=mo<|aB 1 _ rfl;let⟨c,p,f⟩:=qx 3 R5<|aB 2 _ rfl;exact⟨⟨e,d,c⟩,⟨j,k,p⟩,((m.app g).app f)⟩
structure aly(x:fk):Prop where
 alz:eo x.Et
 aAp:eo x.Seq
 alA:abS x.Bt
theorem aAq:nM (enc:=enc) W 182 aly j_:=λa o x h=>by
 let⟨b,n,r,_,aa,i,aB⟩:=DataW.trod_struct underlying182 h;obtain⟨B,A,z,y,w,rfl⟩:=abM o<|aa.trans<|by kernel_rfl
 obtain⟨q,s,u,rfl⟩:=qw b i;let⟨e,j,m⟩:=mo<|aB 0 _ rfl;let⟨d,k,g⟩:=mo<|aB 1 _ rfl;let⟨c,p,f⟩:=aAo n _ _<|s3 3<|aB 2 _ rfl;exact⟨⟨e,d,c⟩,⟨j,k,p⟩,((m.app g).app f)⟩
structure abT(x:b3):Prop where
 alz:eo x.Et
 abU:eo x.Next
 abV:x.ce.length<=2^63-1/\∀i,i<x.ce.length->aly (x.ce.getD i default)
theorem aAr:nM (enc:=enc) W 67 abT cJ:=λa o x h=>by
 let⟨b,n,r,_,aa,i,aB⟩:=DataW.trod_struct underlying67 h;obtain⟨z,y,w,rfl⟩:=qw o<|aa.trans<|by kernel_rfl
 obtain⟨q,s,u,rfl⟩:=qw b i;let⟨e,j,m⟩:=mo<|aB 0 _ rfl;let⟨d,k,g⟩:=mo<|aB 1 _ rfl;let⟨c,p,f⟩:=qx 5 aAq<|aB 2 _ rfl;exact⟨⟨e,d,c⟩,⟨j,k,p⟩,((m.app g).app f)⟩
structure alB(x:BX):Prop where
 aAs:eo x.Id
 aAt:x.ee.length<=2^63-1
 aAu:eo x.Node
 aAv:eo x.f0
 alC:x.dO.length<=2^63-1
theorem aAw:nM (enc:=enc) W 133 alB cm:=λa u x h=>by
 let⟨b,n,B,_,aa,m,aB⟩:=DataW.trod_struct underlying133 h;obtain⟨N,M,L,K,J,rfl⟩:=abM u<|aa.trans<|by kernel_rfl
 obtain⟨A,F,I,z,E,rfl⟩:=abM b m;let⟨g,o,r⟩:=mo<|aB 0 _ rfl;let⟨f,q,k⟩:=Bk<|aB 1 _ rfl;let⟨e,y,j⟩:=mo<|aB 2 _ rfl;let⟨d,p,i⟩:=mo<|aB 3 _ rfl;let⟨c,s,w⟩:=Bk<|aB 4 _ rfl;exact⟨⟨g,f,e,d,c⟩,⟨o,q,y,p,s⟩,((((r.app k).app j).app i).app w)⟩
structure abW(x:dv):Prop where
 aAx:eo x.Br
 alD:x.aI.length<=2^63-1/\∀i,i<x.aI.length->alB (x.aI.getD i default)
theorem aAy:nM (enc:=enc) W 29 abW U6:=λa k x h=>by
 let⟨b,n,o,_,aa,f,aB⟩:=DataW.trod_struct underlying29 h;obtain⟨r,q,rfl⟩:=yg k<|aa.trans<|by kernel_rfl
 obtain⟨m,p,rfl⟩:=yg b f;let⟨d,g,j⟩:=mo<|aB 0 _ rfl;let⟨c,i,e⟩:=qx 5 aAw<|aB 1 _ rfl;exact⟨⟨d,c⟩,⟨g,i⟩,(j.app e)⟩
structure abX(x:be):Prop where
 uO:x.Key.length<=2^63-1
 aAz:eo x.Count
theorem aAA:nM (enc:=enc) W 137 abX c6:=λa k x h=>by
 let⟨b,n,o,_,aa,f,aB⟩:=DataW.trod_struct underlying137 h;obtain⟨r,q,rfl⟩:=yg k<|aa.trans<|by kernel_rfl
 obtain⟨m,p,rfl⟩:=yg b f;let⟨d,g,j⟩:=Bk<|aB 0 _ rfl;let⟨c,i,e⟩:=mo<|aB 1 _ rfl;exact⟨⟨d,c⟩,⟨g,i⟩,(j.app e)⟩
structure alE(x:hQ):Prop where
 aDQ:True
 aDR:x.Reads.length<=2^63-1/\∀i,i<x.Reads.length->(x.Reads.getD i default).length<=2^63-1
 alF:x.cp.length<=2^63-1/\∀i,i<x.cp.length->(x.cp.getD i default).length<=2^63-1
theorem aAB:nM (enc:=enc) W 71 alE U_:=λa m x h=>by
 let⟨b,n,q,_,aa,i,aB⟩:=DataW.trod_struct underlying71 h;obtain⟨y,w,u,rfl⟩:=qw m<|aa.trans<|by kernel_rfl
 obtain⟨p,r,s,rfl⟩:=qw b i;let⟨e,k⟩:=abP<|aB 0 _ rfl;let⟨d,j,g⟩:=qx 1 alu<|aB 1 _ rfl;let⟨c,o,f⟩:=qx 1 alu<|aB 2 _ rfl;exact⟨⟨e,d,c⟩,⟨trivial,j,o⟩,((k.app g).app f)⟩
structure abY(x:BE):Prop where
 alz:eo x.Et
 aAp:eo x.Seq
 aDS:x.bk.length<=2^63-1
 fArgs:x.ax.length<=2^63-1/\∀i,i<x.ax.length->Fy (x.ax.getD i default)
 aDT:True
 aDU:alE x.bM
theorem aAC:nM (enc:=enc) W 73 abY c7:=λa y x h=>by
 let⟨b,n,K,_,aa,p,aB⟩:=DataW.trod_struct underlying73 h;obtain⟨T,S,R,Q,P,O,B,E,rfl⟩:=als y<|aa.trans<|by kernel_rfl
 obtain⟨J,M,N,I,L,F,rfl⟩:=aAi b p;let⟨j,q,u⟩:=mo<|aB 0 _ rfl;let⟨i,s,o⟩:=mo<|aB 1 _ rfl;let⟨g,A,m⟩:=Bk<|aB 2 _ rfl;let⟨f,r,k⟩:=qx 3 R5<|aB 3 _ rfl;let⟨e,z⟩:=abP<|aB 4 _ rfl;let⟨d,c,w⟩:=aAB n _ _<|s3 3<|aB 5 _ rfl;exact⟨⟨j,i,g,f,e,d⟩,⟨q,s,A,r,trivial,c⟩,(((((u.app o).app m).app k).app z).app w)⟩
structure oX(x:bK):Prop where
 R7:eo x.Pos
 abZ:KQ x.aq
 KR:x.bY.length<=2^63-1/\∀i,i<x.bY.length->uk (x.bY.getD i default)
 R8:x.b7.length<=2^63-1/\∀i,i<x.b7.length->abT (x.b7.getD i default)
 KS:abW x.EG
 R9:x.be.length<=2^63-1/\∀i,i<x.be.length->abX (x.be.getD i default)
 ab0:x.EK.length<=2^63-1/\∀i,i<x.EK.length->abY (x.EK.getD i default)
 ab1:hr x.cN
theorem aAD:nM (enc:=enc) W 34 oX afd:=λa E x h=>by
 let⟨b,n,T,_,aa,s,aB⟩:=DataW.trod_struct underlying34 h;obtain⟨c0,c1,c2,c3,c4,c5,M,O,Fv,Z,N,rfl⟩:=aAj E<|aa.trans<|by kernel_rfl
 obtain⟨S,X,Y,R,U,Q,P,N4,rfl⟩:=als b s;let⟨m,u,z⟩:=mo<|aB 0 _ rfl;let⟨k,y,r⟩:=aAn n _ _<|s3 3<|aB 1 _ rfl;let⟨j,L,q⟩:=qx 3 aAg<|aB 2 _ rfl;let⟨i,w,p⟩:=qx 3 aAr<|aB 3 _ rfl;let⟨g,A,J⟩:=aAy n _ _<|s3 2<|aB 4 _ rfl;let⟨f,d,B⟩:=qx 2 aAA<|aB 5 _ rfl;let⟨e,o,I⟩:=qx 8 aAC<|aB 6 _ rfl;let⟨K,c,F⟩:=aAk<|aB 7 _ rfl;exact⟨⟨m,k,j,i,g,f,e,K⟩,⟨u,y,L,w,A,d,o,c⟩,(((((((z.app r).app q).app p).app J).app B).app I).app F)⟩
structure KT(x:aQ):Prop where
 uO:x.Key.length<=2^63-1
 wA:Fy x.aY
theorem aAE:nM (enc:=enc) W 83 KT cc:=λa k x h=>by
 let⟨b,n,o,_,aa,f,aB⟩:=DataW.trod_struct underlying83 h;obtain⟨u,s,r,q,rfl⟩:=alr k<|aa.trans<|by kernel_rfl
 obtain⟨m,p,rfl⟩:=yg b f;let⟨d,g,j⟩:=Bk<|aB 0 _ rfl;let⟨c,i,e⟩:=R5 n _ _<|s3 3<|aB 1 _ rfl;exact⟨⟨d,c⟩,⟨g,i⟩,(j.app e)⟩
structure ab2(x:ej):Prop where
 alv:eo x.br
 alG:oX x.Fa
 abU:x.Next.length<=2^63-1
 alC:True
 R_:x.fg.length<=2^63-1/\∀i,i<x.fg.length->KT (x.fg.getD i default)
 aDV:x.dg.length<=2^63-1/\∀i,i<x.dg.length->(x.dg.getD i default).length<=2^63-1
structure KU(x:qY):Prop where
 aDW:True
 alF:x.cp.length<=2^63-1/\∀i,i<x.cp.length->KT (x.cp.getD i default)
 abQ:eo x.N
theorem aAF:nM (enc:=enc) W 46 KU zh:=λa m x h=>by
 let⟨b,n,q,_,aa,i,aB⟩:=DataW.trod_struct underlying46 h;obtain⟨y,w,u,rfl⟩:=qw m<|aa.trans<|by kernel_rfl
 obtain⟨p,r,s,rfl⟩:=qw b i;let⟨e,k⟩:=abP<|aB 0 _ rfl;let⟨d,j,g⟩:=qx 4 aAE<|aB 1 _ rfl;let⟨c,o,f⟩:=mo<|aB 2 _ rfl;exact⟨⟨e,d,c⟩,⟨trivial,j,o⟩,((k.app g).app f)⟩
end
def lM{α:Type}[Inhabited α]{P:α->Prop}{l:List α}(h:∀i,i<l.length->P (l.getD i default))(b:P default)(i:Nat):P (l.getD i default):=by
 by_cases a:i<l.length
 ·exact h i a
 ·rw[ie,ye<|by omega];exact b
def nN{α:Type}[Inhabited α]{P:α->Prop}{l:List α}(h:∀i,i<l.length->P (l.getD i default))(x:α)(a:x∈l):P x:=by
 let⟨i,b,e⟩:=yf a;rw[<-e];exact h i b
def ab3{k:UB}(h:fY k=true):k.length<=24:=by
 unfold fY at h;simp only[cb,fx]at h;exact h.1.2
def alH{k:UB}(h:jn k=true):k.length<=24:=by
 unfold jn at h;simp only[cb,fx]at h;exact h.2
def alI{l:List bJ}(h:rA l=true)(hi:∀i,i<l.length->Fy (l.getD i default)):∀v∈l,ry v:=by
 unfold rA at h;rw[hN]at h;refine nN λi b=>?_
 have a:=h i b;rw[cb]at a;exact⟨a.1,(hi i b).abQ⟩
def aAG{o:Bt}(h:x7 o=true)(hi:abS o):oq o:=by
 unfold x7 at h;by_cases a:o.Status=1
 ·simp only[a,YW,UL,cb,fx]at h;let⟨⟨f,b⟩,c⟩:=h;exact⟨by omega,by omega,b,alI c hi.alx.2⟩
 ·simp only[a,UN,UK,cb,fx]at h;let⟨⟨⟨f,b⟩,c⟩,g⟩:=h;have d:o.Out=[]:=oJ.1 g;exact⟨by omega,by omega,by rw[d];simp,by rw[d];exact λv e=>by cases e⟩
def aAH{s:b3}(h:A8 s=true)(hi:abT s):rF s:=by
 unfold A8 at h;simp only[cb,hh,fx,hN]at h;let⟨⟨n,m⟩,r⟩:=h;let⟨u,t,k,j⟩:=abe n;have w:=Fo ⟨k,j⟩
 have g:∀i,i<s.ce.length->((s.ce.getD i default).Et=s.Et/\(s.ce.getD i default).Seq=s.Next-(s.ce.length:Int)+(i:Int))/\x7 (s.ce.getD i default).Bt=true:=λi a=>by
  have:=r i a
  unfold Fh at this;simp only[cb,fx]at this;exact this
 refine⟨⟨u,t⟩,⟨k,j⟩,?_,by rw[jz];omega,?_⟩
 ·refine List.ext_getElem (by simp[x_]) λi d y=>?_
  have b:=g i d;rw[ie,ed d,nB]at b;simp only[x_,List.getElem_map,List.getElem_zipIdx,mE];rw[wr (x:=lI s.Next-(i:Int)) (by omega)<|by omega,wr (x:=s.Next-(lI s.Next-(i:Int))) (by omega)<|by omega]
  generalize s.ce[i]=x at b
  let⟨c,q,o⟩:=x;let⟨⟨f,e⟩,_⟩:=b;simp only at f e
  subst f;rw[e,m,show s.Next-lI s.Next+(i:Int)=s.Next-(lI s.Next-(i:Int))by omega]
 ·intro o p;obtain⟨x,l,rfl⟩:=jk.1 p;exact nN (P:=λx:fk=>oq x.Bt) (λi a=>aAG (g i a).2 (hi.abV.2 i a).alA) x l
def aAI{p:dv}(h:oW p=true)(hi:abW p):p.aI.length<=16/\∀x∈p.aI,rE x:=by
 unfold oW at h;simp only[cb,hh,lG,iv,rX,fx,hN]at h;let⟨⟨⟨⟨⟨k,j⟩,m⟩,l⟩,g⟩,f⟩:=h;refine⟨by omega,nN λi e=>?_⟩
 have c:=f i e;have b:=hi.alD.2 i e;unfold x6 uE at c;simp only[cb]at c;let⟨d,⟨_,a⟩,_⟩:=c;refine⟨b.aAs,?_,b.aAu,b.aAv,?_⟩
 ·cases i with
  |zero=>rw[g];simp
  |succ i=>
   rw[show decide (0<((i+1:Nat):Int))=true from fp (by omega),UR,jJ,cb]at d
   exact alH d.1
 ·by_cases hd:(p.aI.getD i default).f0=0
  ·simp only[hd,YW,UL,fx]at a;rw[a];simp
  ·simp only[hd,UN,UK,cb]at a;exact alH a.1.1.2
def aAJ{l:List be}(h:uA l=true)(hi:∀i,i<l.length->abX (l.getD i default)):l.length<=32/\∀x∈l,x.Key.length<=24/\eo x.Count:=by
 unfold uA at h;simp only[cb,fx,hN]at h;let⟨b,c⟩:=h;exact⟨by omega,nN (P:=λx:be=>x.Key.length<=24/\eo x.Count) λi a=>⟨ab3 (b i a).1.1.1,(hi i a).aAz⟩⟩
def alJ{l:kQ}(h:sY l=true):∀v∈l,v.length<=24:=by
 unfold sY at h;rw[hN]at h
 exact nN (P:=λv:UB=>v.length<=24) λi a=>by
  have:=h i a
  rw[cb]at this;exact ab3 this.1
def aAK{s:UB}(h:hl s=true):s.length<=16:=by let⟨_,_,_,_,_,_,h⟩:=Re h;exact h
def aAL{
 r:BE} (h:rB r=0) (hi:abY r):nK r/\wo r=true:=by
 have d:=h;unfold rB at h;cases h1:((decide (r.Et<1)||decide (32<r.Et))||decide (r.Seq<1))||decide (1099511627776<r.Seq)
 ·cases h2:hl r.bk
  ·rw[h1,h2]at h;simp at h
  ·cases ah:decide (6<r.ax.length)
   ·cases ay:rA r.ax
    ·rw[h1,h2,ah,ay]at h;simp at h
    ·cases aO:((!uB r.bM||r.bM.fl)||(!r.eV&&decide (0<r.bM.Reads.length+r.bM.cp.length)))
     ·simp only[lG,iv]at h1 ah aO;let⟨⟨⟨k,j⟩,l⟩,n6⟩:=h1;let⟨⟨a,c⟩,b⟩:=aO;rw[rX]at a;unfold uB at a;rw[c,UK]at a;simp only[cb,fx]at a;let⟨⟨i,g⟩,f,e⟩:=a;refine⟨⟨⟨by omega,by omega⟩,⟨by omega,by omega⟩,aAK h2,⟨by omega,alI ay hi.fArgs.2⟩,?_,c⟩,?_⟩
      ·unfold KJ;cases hd:r.eV
       ·rw[hd]at b;simp only[YY,iP,iv]at b;rw[de<|by simp]
        rw[oJ.1 (show r.bM.Reads.length=0 by omega),oJ.1 (show r.bM.cp.length=0 by omega)]
       ·rw[eI rfl];exact⟨⟨g,alJ i⟩,e,alJ f⟩
      ·unfold wo;rw[d,fp (show r.Et<=32 by omega),fp (show r.Seq<=1099511627776 by omega)];rfl
     ·rw[h1,h2,ah,ay,aO]at h;simp at h
   ·rw[h1,h2,ah]at h;simp at h
 ·rw[h1]at h;simp at h
def aAM{s:aq}(d:gN s=true)(hi:KQ s)(h:∀i,i<s.Rows.length->(s.Rows.getD i default).aR.length<=1000000000):∀p∈dx s.Rows,s2 p:=by
 intro p f;let⟨r,m,e,_⟩:=Bh _ _ f;obtain⟨j,c,rfl⟩:=yf m;let⟨a,b⟩:=ali d h j c;rw[e];refine⟨ab3 a,b,?_⟩
 have l:=(hi.R6.2 j c).FA.2;exact lM (P:=λv:Br=>eo v.aY.N) (λk g=>(l k g).wA.abQ) (by show eo (0:Int);exact⟨by omega,by omega⟩) _
def aAN{r:bK}(c:gx r=true)(hi:oX r)(n:r.aq.Rows.length<=1000000)(f:∀i,i<r.aq.Rows.length->(r.aq.Rows.getD i default).aR.length<=1000000000)(o:r.b7.length<=32):wv (ni r<|dx r.aq.Rows):=by
 unfold gx at c;simp only[cb,fx]at c;let⟨⟨⟨⟨⟨⟨⟨⟨w,u⟩,j⟩,x⟩,d⟩,h⟩,g⟩,m⟩,l⟩:=c;have t:=uN r.aq.Rows;refine⟨hi.R7,⟨⟨by show(dx r.aq.Rows).length<=_;omega,aAM j hi.abZ f⟩,az7 j n f⟩,?_,⟨⟨o,?_⟩,h⟩,⟨⟨hi.KS.aAx,aAI g hi.KS⟩,g⟩,aAJ m hi.R9.2,?_,hi.ab1⟩
 ·unfold wq at d;simp only[cb,fx,hN]at d;let⟨a,e⟩:=d;refine⟨by show(r.bY.map hz).length<=16;rw[jz];exact e,λs c=>?_⟩
  obtain⟨p,k,rfl⟩:=jk.1 (show s∈r.bY.map hz from c)
  refine nN (P:=λp:bk=>(hz p).length<=16384) (λi b=>?_) p k
  have:=(a i b).1
  simp only[hh,lG,iv]at this;omega
 ·have a:=h;unfold pF at a;simp only[cb,hN]at a;exact nN (P:=rF) λi b=>aAH (a i b).1<|hi.R8.2 i b
 ·have a:=l;unfold yc at a;simp only[cb,fx,hN]at a;exact⟨a.2,nN (P:=λq:BE=>nK q/\wo q=true) λi b=>aAL (a.1 i b)<|hi.ab0.2 i b⟩
def ab4{α:Type}{E:α->UB}{k:Nat}:∀{l:List α},(∀v∈l,(E v).length<=k)->(eZ E l).length<=k*l.length
 |[],_=>by simp[eZ]
 |v::l,h=>by
  have c:=h v (by simp)
  have b:=ab4 (E:=E) (l:=l) λw a=>h w (by simp[a])
  rw[AZ,UO,UT,Nat.mul_add,Nat.mul_one];omega
def uP{α:Type}{E:α->UB}{k:Nat}(m:Nat){l:List α}(b:l.length<=m)(c:m<2^64)(a:∀v∈l,(E v).length<=k):(cX E l).length<=10+k*m:=by
 have e:=ab4 a;have d:=kg (u:=l.length) (by omega)
 have f:=Nat.mul_le_mul_left k b;unfold cX;rw[UO];omega
def ab5{v:bJ}(h:ry v):(bX v).length<=84:=by
 have b:=pG h;have a:=aa5 h.2 (by omega)
 omega
def yh{s:UB}{k:Nat}(h:s.length<=k)(a:k<=1000000):(dq s).length<=k+10:=by
 have:=uu (s:=s) (by omega)
 omega
def aAP{o:Bt}(h:oq o):(oo o).length<=1374:=by
 let⟨c,b⟩:=abx h;have f:=lL c;have e:=lL b;have d:=uP (E:=bX) (k:=84) 16 h.2.2.1 (by omega) λv a=>ab5<|h.2.2.2 v a
 unfold oo;simp only[UO];omega
def aAQ{s:b3}(h:rF s):(jc s).length<=11012:=by
 let⟨c,a,e,d,aO⟩:=h;have j:=lL (z:=s.Et) ⟨by omega,by omega⟩
 have i:=lL (z:=s.Next) ⟨by omega,by omega⟩
 have g:=ab4 (E:=oo) (k:=1374) λo b=>aAP<|aO o b
 have f:=Fo a;unfold jc;simp only[UO];omega
def aAR{x:BX}(h:rE x):(rD x).length<=98:=by
 let⟨b,a,d,c,e⟩:=h;have k:=qp b;have j:=qp d;have i:=qp c;have g:=yh a (by omega)
 have f:=yh e (by omega)
 unfold rD;simp only[UO];omega
def aAS{r:BE}(h:nK r):(hy r).length<=5000:=by
 let⟨d,c,m,ay,b,n⟩:=h;have u:=lL d;have t:=lL c;have s:=yh m (by omega)
 have q:=uP (E:=bX) (k:=84) 6 ay.1 (by omega) λv a=>ab5<|ay.2 v a
 have p:=KO r.eV
 have o:(ot r.eV (r.bM.Reads,r.bM.cp)).length<=4372:=by
  unfold ot KJ at *;cases hd:r.eV
  ·simp
  ·rw[hd]at b;let⟨⟨l,j⟩,i,g⟩:=b;have f:=uP (E:=dq) (k:=34) 64 l (by omega) λv a=>yh (j v a) (by omega)
   have e:=uP (E:=dq) (k:=34) 64 i (by omega) λv a=>yh (g v a) (by omega)
   simp only[U3,UO];simp only at f e
   omega
 unfold hy;simp only[UO];omega
def aAT{r:bK}{A:List aQ}(hp:wv<|ni r A)(aT:A.length<=100)(m:r.b7.length<=10)(e:r.EK.length<=64):(gy<|ni r A).length<=800000:=by
 have o:(mN r.Pos).length<=10:=qp hp.pos
 have n:=uP (E:=jT) (k:=118) 100 aT (by omega) λp h=>by
  let⟨b,a⟩:=hp.kR.1.2 p h;have d:=yh b (by omega)
  have c:=ab5 a;unfold jT;rw[UO];omega
 have t:=uP (E:=dq) (k:=16394) 16 hp.src.1 (by omega) λs h=>yh (hp.src.2 s h) (by omega)
 have n6:=uP (E:=jc) (k:=11012) 10 m (by omega) λs h=>aAQ<|hp.nL.1.2 s h
 have i:=uP (E:=rD) (k:=98) 16 hp.uL.1.2.1 (by omega) λs h=>aAR<|hp.uL.1.2.2 s h
 have g:=uP (E:=lK) (k:=44) 32 hp.az.1 (by omega) λx h=>by
  let⟨b,a⟩:=hp.az.2 x h;have d:=yh b (by omega)
  have c:=qp a;unfold lK;rw[UO];omega
 have f:=uP (E:=hy) (k:=5000) 64 e (by omega) λq h=>aAS (hp.ou.2 q h).1
 have l:=lL hp.RW;have j:=qp hp.uL.1.1;unfold gy ld;simp only[UO];simp only[ni]at *;omega
structure KV(n:Nat)(r:bK):Prop where
 b5:wu n r
 nf:r.aq.Rows.length<=100
 vs:∀i,i<r.aq.Rows.length->(r.aq.Rows.getD i default).aR.length<=1000
 pl:r.bY.length<=1000
 ma:r.b7.length<=10
abbrev gT(r:bK):Fq:=ni r (dx r.aq.Rows)
section
variable {n:Nat} (c:100000000<=n) (b:n<=2^63) {r:bK} (a:KV n r) (hi:oX r)
include c b a hi
theorem Bl(f:gx r=true):wv (gT r)/\(gy<|gT r).length<=800000:=by
 have e:=a.b5;have h:=a.nf;have d:=aAN f hi (by omega) (λi g=>by have:=a.vs i g;omega) (by have:=a.ma;omega)
 exact⟨d,aAT d (by have:=uN r.aq.Rows;omega) (by have:=a.ma;omega) d.ou.1⟩
theorem ab6(f:gx r=true):(∀i,i<r.aq.Rows.length->Fu n r.Pos (r.aq.Rows.getD i default))/\r.aq.bu<=r.Pos/\r.Pos<=r.aq.bi:=by
 have e:=a.b5;unfold gx at f;simp only[cb,fx]at f;let⟨⟨⟨⟨⟨⟨⟨⟨l,h⟩,d⟩,j⟩,s⟩,q⟩,p⟩,o⟩,m⟩:=f;have g:=alh (n:=n) d (λi k=>by have:=(e.st.row i).rj;have h:=a.vs i k;exact⟨this,by omega⟩)
 rw[j]at g;refine⟨g,?_⟩
 unfold gN at d;simp only[cb,hh,lG,iv]at d;let⟨⟨⟨w,u⟩,t⟩,_⟩:=d;omega
theorem ab7(hs:gx r=true):vw n r=some (gy (gT r)):=by
 have hsh:=a.b5;have s4:=a.nf;have kq:=a.pl;obtain⟨hp,aa⟩:=Bl c b a hi hs;obtain⟨yi,KW,Bm⟩:=ab6 c b a hi hs;have gD:=hs;unfold gx yc at gD;simp only [Bool.and_eq_true,decide_eq_true_eq,hN]at gD;obtain⟨⟨⟨⟨⟨⟨⟨⟨h1,h2⟩,ah⟩,ay⟩,aO⟩,bG⟩,cG⟩,dk⟩,ea,my⟩:=gD
 exact ale c b hp aa (nN λi _=>hsh.kR i) (by omega) (az6 (by omega) (by omega) yi KW Bm (by rw [Fj (by omega) b hsh.st,ah]))
  (by rw [RG (by omega) b hsh.uI hsh.nL,bG]) (nN (P:=λq:BE=>p5 n q=some 0) λi aa=>by rw [RF (by omega) b (hsh.uJ i),ea i aa])
theorem aAU(hs:gx r=true):I7 n r=some (gy (gT r)):=by
 have hsh:=a.b5;have s4:=a.nf;have kq:=a.pl;obtain⟨hp,aa⟩:=Bl c b a hi hs;obtain⟨yi,KW,Bm⟩:=ab6 c b a hi hs;have gD:=hs;unfold gx yc at gD;simp only [Bool.and_eq_true,decide_eq_true_eq,hN]at gD;obtain⟨⟨⟨⟨⟨⟨⟨⟨h1,h2⟩,ah⟩,ay⟩,aO⟩,bG⟩,cG⟩,dk⟩,ea,my⟩:=gD
 exact azZ c b hp aa (nN λi _=>hsh.kR i) (by omega) (alg (by omega) (by omega) yi KW Bm (by rw [abf (by omega) b hsh.st,ah]))
  (by rw [akE (by omega) b hsh.uI hsh.nL,bG]) (nN (P:=λq:BE=>t' n q=some 0) λi aa=>by rw [akx (by omega) b (hsh.uJ i),ea i aa])
def encA(r:bK):UB×Int:=bif !gx r then([],1)else bif decide (16384<(((gy<|gT r).length:Nat):Int)) then([],2) else(gy<|gT r,0)
theorem aAV:Ie n r=some (encA r):=by
 have d:=a.b5;unfold Ie encA;rw[Fp c b d,aj];cases hs:gx r
 ·rfl
 ·simp only[UR,UK];rw[ab7 c b a hi hs,aj];cases decide (16384<(((gy<|gT r).length:Nat):Int))<;>rfl
theorem aAW:I8 n r=some (encA r):=by
 have d:=a.b5;unfold I8 encA;rw[abt c b d,aj];cases hs:gx r
 ·rfl
 ·simp only[UR,UK];rw[aAU c b a hi hs,aj];cases decide (16384<(((gy<|gT r).length:Nat):Int))<;>rfl
end
def Bn(A:List aQ)(a:Int):(ii A a).Rows.length=A.length:=by unfold ii;simp
def Bo{A:List aQ}{a:Int}{i:Nat}(hi:i<A.length):(ii A a).Rows.getD i default=⟨(A.getD i default).Key,[⟨a,(A.getD i default).aY⟩]⟩:=by
 unfold ii;simp only[ie,gV,ed hi,lC,nB]
def aAX{A:List aQ}{a:Int}(h:mj A=true)(o:0<=a)(n:a<=1099511627776)(q:A.length<=1000000000):gN (ii A a)=true:=by
 unfold mj rz at h;simp only[cb,hN]at h;let⟨j,l⟩:=h;unfold gN;rw[cb,hN,Bn];refine⟨?_,λi b=>?_⟩
 ·show(!((decide (a<0)||decide (a<a))||decide (1099511627776<a)))=true
  rw[en (show¬ a<0 by omega),en (show¬ a<a by omega),en (show¬ 1099511627776<a by omega)];rfl
 ·let⟨⟨m,f⟩,d⟩:=j i b;have c:=l i b;rw[cb,cb];refine⟨⟨by rw[Bo b];exact m,?_⟩,?_⟩
  ·cases i with
   |zero=>simp
   |succ i=>
    rw[A5 i<|by omega]at d ⊢
    rw[Bo (show i<A.length by omega),Bo b]
    exact d
  ·rw[Bo b];show jo ⟨(A.getD i default).Key,[⟨a,(A.getD i default).aY⟩]⟩ a a=true
   generalize A.getD i default=p at f c
   unfold jo;rw[cb,hN];refine⟨?_,λk g=>?_⟩
   ·show(!(false||decide (p.aY.Cc=0)))=true
    rw[jJ];exact c
   ·obtain rfl:k=0:=by
     have:k<1:=g
     omega
    have e:qv ⟨p.Key,[⟨a,p.aY⟩]⟩ a a 0=(((!decide (a<a) && !decide (a<a))&&gS p.aY)&&true):=by
     unfold qv;rw[show decide (0<((0:Nat):Int))=false from en (by omega),jH];rfl
    rw[e,f,en<|UZ a];rfl
def alK{a:Int}:∀{A:List aQ},(∀p∈A,p.aY.Cc≠0)->dx (ii A a).Rows=A
 |[],_=>rfl
 |p::A,h=>by
  have c:=alK (a:=a) (A:=A) λq b=>h q (by simp[b])
  show dx (⟨p.Key,[⟨a,p.aY⟩]⟩::(ii A a).Rows)=p::A
  rw[dx,c];rw[show ov ⟨p.Key,[⟨a,p.aY⟩]⟩=p.aY from rfl,de<|h p<|by simp]
abbrev ki(r:bK):bK:=⟨r.Pos,ii (dx r.aq.Rows) r.Pos,r.bY,r.b7,r.EG,r.be,r.EK,r.cN⟩
def alL{l:List Row}{p:aQ}(h:p∈dx l):p.aY.Cc≠0:=by
 let⟨r,_,e,k⟩:=Bh _ _ h;rw[e];exact k
def aAY(r:bK):gT (ki r)=gT r:=by
 show ni (ki r) (dx (ii (dx r.aq.Rows) r.Pos).Rows)=_
 rw[alK λp a=>alL a];rfl
def ab8{r:bK}(a:gx r=true)(d:wv<|gT r)(i:(dx r.aq.Rows).length<=1000000000):gx (ki r)=true:=by
 unfold gx at a ⊢;simp only[cb,fx]at a ⊢;let⟨⟨⟨⟨⟨⟨⟨⟨c,b⟩,l⟩,k⟩,j⟩,h⟩,g⟩,f⟩,e⟩:=a;exact⟨⟨⟨⟨⟨⟨⟨⟨c,b⟩,aAX d.kR.2 c b i⟩,rfl⟩,j⟩,h⟩,g⟩,f⟩,e⟩
def ab9{n:Nat}(b:2000<=n){r:bK}(h:wu n r)(a:wv<|gT r)(c:(dx r.aq.Rows).length<n):wu n (ki r):=
 ⟨azx b c a.kR.1.2 r.Pos,h.Bd,h.kR,h.uI,h.nL,h.pl,h.Be,h.az,h.lp,h.ou,h.uJ⟩
def aAZ{n:Nat}(s:100000000<=n)(l:List bk)(B:l.length<=1000)(h:∀p∈l,pI p)(r:∀p∈l,hz p≠[]/\(hz p).length<=16384):Dl n (l.map hz)=some (l,true):=by
 have j:∀(m i:Nat),l.length<i+m->i<=l.length->Dk n (l.map hz) m (i:Int) (l.take i)=some (l,true):=by
  intro m;induction m with
  |zero=>intro i u t;omega
  |succ m A=>
   intro i u t;have d:(l.map hz).length=l.length:=jz ..;by_cases c:i<l.length
   ·have k:=nJ (l:=l) c;have g:=h _ k;let⟨y,x⟩:=r _ k
    have w:(l.map hz).getD i default=hz (l.getD i default):=by
     simp only[ie,gV,ed c,lC,nB]
    have o:n_ (l.getD i default)=0:=by
     by_cases e:n_ (l.getD i default)=0
     ·exact e
     ·exact absurd (show hz (l.getD i default)=[]by unfold hz;rw[de e]) y
    have q:hz (l.getD i default)=me (l.getD i default):=by unfold hz;rw[eI o]
    have z:Ia n (hz<|l.getD i default)=some (l.getD i default,0,0):=by
     rw[q];exact axt g.i o (by omega) g.f g.b (by rw[<-q];exact x)
    have a:room ((l.take i).length+1) 64=true:=iF (by rw[jF];omega)
    simp only[Dk,Om,UP,d,c,YW,UL,bW c,aF,US,w,z,aj,U1,a,cu (show i<=2^63-2 by omega),U4,UR,YY,UK,abs g s]
    have:=A (i+1) (by omega) (by omega)
    rw[show l.take (i+1)=l.take i++[l.getD i default]by rw[xI,gl l i default c,pk,qj]]at this
    exact this
   ·obtain rfl:i=l.length:=by omega
    simp only[Dk,Om,WD,d,UZ,UN,UK,rH]
 unfold Dl;exact j n 0 (by omega) (by omega)
section
variable {n:Nat} (c:100000000<=n) (b:n<=2^63) {r:bK} (a:KV n r) (hi:oX r)
include c b a hi
theorem aA0(e:gx r=true):Dl n (r.bY.map hz)=some (r.bY,true):=by
 have d:=a.b5;have g:=a.pl;refine aAZ c _ (by omega) (nN λi _=>d.kR i)<|nN (P:=λp:bk=>hz p≠[]/\(hz p).length<=16384) λi f=>?_
 unfold gx wq at e;simp only[cb,fx,hN]at e;have:=(e.1.1.1.1.2.1 i f).1
 simp only[hh,lG,iv]at this;exact⟨this.1,by omega⟩
theorem ab'(e:gx r=true):Ib n (gy<|gT r)=some (ki r,0):=by
 have f:=a.b5;have p:=a.nf;have q:=uN r.aq.Rows;let⟨d,F⟩:=Bl c b a hi e;have j:=ab8 e d (by omega)
 have o:=ab9 (n:=n) (by omega) f d (by omega)
 have m:Dl n (gT r).2.2.1=some (r.bY,true):=aA0 c b a hi e;have g:=e;unfold gx at g;simp only[cb,fx]at g;let⟨⟨⟨⟨⟨⟨⟨⟨u,t⟩,E⟩,B⟩,H⟩,A⟩,z⟩,y⟩,w⟩:=g
 have hd:RV (gy<|gT r) = .ok (gT r,[]):=by
  have:=azf.rt (gT r) [] d
  rwa [gJ]at this
 have h:=azv c b (s:=gy<|gT r) (by omega)
 rw[hd]at h;simp only at h
 have k:bx (gy<|gT r) []=(((gy<|gT r).length:Nat):Int):=(abw<|List.nil_suffix).2 rfl
 have i:zZ n (gT r).2.1 (gT r).1=some (ii (dx r.aq.Rows) r.Pos,0):=by
  show zZ n (dx r.aq.Rows) r.Pos=_
  rw[akK (l:=dx r.aq.Rows) (by omega) b (by omega) (by omega)<|abh (by omega) d.kR.1.2]
  unfold la;rw[show mj (dx r.aq.Rows)=true from d.kR.2,en (show¬ r.Pos<0 by omega),en (show¬ 1099511627776<r.Pos by omega)];rfl
 unfold Ib;rw[h,aj];simp only[YW,UR,UK,dU,k];rw[en (show¬ (gT r).1<0 from show¬ r.Pos<0 by omega),en (show¬ 1099511627776<(gT r).1 from show¬ 1099511627776<r.Pos by omega)]
 simp only[si,UK];rw[m,aj];simp only[UR,UK];rw[i,aj];simp only[YW,UR,UK];refine(congrArg (λx=>Option.bind x _)<|Fp c b o).trans ?_
 rw[j];rfl
end
def yj(r:bK):bK×Int:=bif !gx r then(RY,1) else(ki r,0)
section
variable {n:Nat} (c:100000000<=n) (b:n<=2^63) {r:bK} (a:KV n r) (hi:oX r)
include c b a hi
theorem alN:Dp n r=some (yj r):=by
 have d:=a.b5;unfold Dp yj;rw[Fp c b d,aj];cases hs:gx r
 ·rfl
 ·simp only[UR,UK];rw[ab7 c b a hi hs,aj,ab' c b a hi hs];rfl
theorem aA1(e:gx r=true):Ad n (dx r.aq.Rows) r.Pos=some (ii (dx r.aq.Rows) r.Pos,0):=by
 have g:=a.b5;have h:=a.nf;have i:=uN r.aq.Rows;let⟨f,u⟩:=Bl c b a hi e;have d:=e;unfold gx at d;simp only[cb,fx]at d;let⟨⟨⟨⟨⟨⟨⟨⟨k,j⟩,t⟩,s⟩,w⟩,q⟩,p⟩,o⟩,m⟩:=d;rw[akL (l:=dx r.aq.Rows) (by omega) b (by omega) (by omega)<|abh (by omega) f.kR.1.2]
 unfold la;rw[show mj (dx r.aq.Rows)=true from f.kR.2,en (show¬ r.Pos<0 by omega),en (show¬ 1099511627776<r.Pos by omega)];rfl
theorem alO:D' n r=some (yj r):=by
 have d:=a.b5;have i:=a.nf;unfold D' yj;rw[abt c b d,aj];cases hs:gx r
 ·rfl
 ·let⟨e,g,h⟩:=ab6 c b a hi hs
  have f:gN r.aq=true:=by
   unfold gx at hs;simp only[cb,fx]at hs;exact hs.1.1.1.1.1.1.2
  simp only[UR,UK];rw[alg (by omega) (by omega) e g h<|by rw[abf (by omega) b d.st,f],aj]
  rw[aA1 c b a hi hs,aj]
theorem alP(f:gx r=true):vw n (ki r)=some (gy<|gT r):=by
 have hsh:=a.b5;have o:=a.nf;have t:=a.pl;have p:=uN r.aq.Rows;let⟨g,d⟩:=Bl c b a hi f;have e:=ab8 f g (by omega)
 have m:=ab9 (n:=n) (by omega) hsh g (by omega)
 have l:gN (ki r).aq=true:=by
  unfold gx at e;simp only[cb,fx]at e;exact e.1.1.1.1.1.1.2
 have h:=f;unfold gx yc at h;simp only[cb,fx,hN]at h;let⟨⟨⟨⟨⟨⟨⟨⟨w,u⟩,_⟩,z⟩,B⟩,k⟩,y⟩,x⟩,j,s⟩:=h
 exact ale (r:=ki r) (A:=dx r.aq.Rows) c b g d (nN λi _=>hsh.kR i) (by show r.bY.length<=1000;omega)
  (azF (by omega) (by omega) (by omega) (λi d=>alL<|nJ d)<|by rw[show ii (dx r.aq.Rows) r.Pos=(ki r).aq from rfl,Fj (by omega) b m.st,l])
  (by show vv n r.b7=some true;rw[RG (by omega) b hsh.uI hsh.nL,k]) (nN (P:=λq:BE=>p5 n q=some 0) λi d=>by rw[RF (by omega) b<|hsh.uJ i,j i d])
theorem aA2(d:gx r=true):wu n (ki r)/\tW n (ki r)=some true/\Dp n (ki r)=some (ki r,0):=by
 have e:=a.b5;have j:=a.nf;have k:=uN r.aq.Rows;let⟨f,l⟩:=Bl c b a hi d;have i:=ab8 d f (by omega)
 have h:=ab9 (n:=n) (by omega) e f (by omega)
 have g:tW n (ki r)=some true:=by rw[Fp c b h,i]
 refine⟨h,g,?_⟩
 unfold Dp;rw[g,aj];simp only[UR,UK];rw[alP c b a hi d,aj,ab' c b a hi d];rfl
end
def iB(a:Int):List Br->Nat
 |[]=>0
 |v::l=>if v.br<=a then iB a l+1 else 0
def Sa(a:Int):∀l:List Br,iB a l<=l.length
 |[]=>fS _
 |v::l=>by
  have:=Sa a l
  unfold iB;split
  ·simp only[UT];omega
  ·exact rZ _
def lN(a:Int)(r:Row):bJ:=if iB a r.aR=0 then⟨0,0,[]⟩ else(r.aR.getD (iB a r.aR-1) default).aY
def iG(a:Int):List Row->List aQ
 |[]=>[]
 |r::l=>if(lN a r).Cc=0 then iG a l else⟨r.Key,lN a r⟩::iG a l
section
variable {n:Nat} {a:Int} {r:Row} (c:r.aR.length<n) (b:n<=2^63)
include c b
theorem aA3:CA n r a=some ((iB a r.aR:Nat):Int):=by
 have e:∀m i,r.aR.length<m+i->i<=r.aR.length->vt n a r m (i:Int)=some ((i+iB a (r.aR.drop i):Nat):Int):=by
  intro m;induction m with
  |zero=>intro i g f;omega
  |succ m j=>
   intro i g f;simp only[vt,G6,G5,UP,US];by_cases d:i<r.aR.length
   ·rw[gl r.aR i default d,iB];by_cases h:(r.aR.getD i default).br<=a
    ·simp only[d,bW d,YW,U4,aF,UL,h,cu (show i<=2^63-2 by omega),U3]
     rw[j (i+1) (by omega)<|by omega,show i+1+iB a (r.aR.drop<|i+1)=i+(iB a (r.aR.drop<|i+1)+1)by omega]
    ·simp only[d,bW d,YW,UN,U4,aF,UL,UK,h,UY];rfl
   ·obtain rfl:i=r.aR.length:=by omega
    simp only[hS,UN,YY,kI,aF,UK,wy,iB,sa]
 have:=e n 0 (by omega) (by omega)
 rw[gj,mE]at this;exact this
theorem alQ:p7 n r a=some (lN a r):=by
 have f:=Sa a r.aR;unfold p7 lN;rw[aA3 c b,aj];by_cases d:iB a r.aR=0
 ·rw[d];rfl
 ·have e:YV (((iB a r.aR:Nat):Int)-1)=((iB a r.aR-1:Nat):Int):=by rw[wr]<;>omega
  simp only[show¬ ((iB a r.aR:Nat):Int)=0 by omega,UN,UK,e,bW (show iB a r.aR-1<r.aR.length by omega),aF,US,d,UY]
end
def ab_{a:Int}:∀(l:List Row) (p:aQ),p∈iG a l->∃r∈l,p=⟨r.Key,lN a r⟩/\(lN a r).Cc≠0
 |[],p,h=>by simp[iG]at h
 |r::l,p,h=>by
  unfold iG at h;by_cases k:(lN a r).Cc=0
  ·rw[eI k]at h;let⟨x,b,e⟩:=ab_ l p h;exact⟨x,by simp[b],e⟩
  ·rw[de k]at h;rcases gh.1 h with rfl|h
   ·exact⟨r,by simp,rfl,k⟩
   ·let⟨x,b,e⟩:=ab_ l p h;exact⟨x,by simp[b],e⟩
def alR{a:Int}:∀l:List Row,(iG a l).length<=l.length
 |[]=>fS _
 |r::l=>by
  have:=alR (a:=a) l
  unfold iG;split
  ·simp only[UT];omega
  ·simp only[UT];omega
def aA4{s:aq}(b:gN s=true)(a:Int)(i:Nat)(hi:i<s.Rows.length):fY (s.Rows.getD i default).Key=true/\gS (lN a<|s.Rows.getD i default)=true:=by
 unfold gN at b;rw[cb,hN]at b;have d:=b.2 i hi;simp only[cb]at d;refine⟨d.1.1,?_⟩
 have c:=d.2;unfold jo at c;rw[cb,hN]at c;have g:=Sa a (s.Rows.getD i default).aR;unfold lN;by_cases f:iB a (s.Rows.getD i default).aR=0
 ·rw[eI f];rfl
 ·rw[de f];have e:=c.2 (iB a (s.Rows.getD i default).aR-1) (by omega)
  unfold qv at e;simp only[cb]at e;exact e.1.2
def aA5{s:aq}(e:gN s=true)(f:s.Rows.length<=1000000):kS (s.Rows.map (·.Key)):=by
 refine R1 _ λi a=>?_
 rw[jz]at a;have b:=e;unfold gN at b;rw[cb,hN]at b;have d:=b.2 (i+1) a;simp only[cb]at d;have c:=d.1.2;rw[A5 i<|by omega,show decide (0<((i+1:Nat):Int))=true from fp (by omega),UR,jJ]at c
 rw[uM s.Rows (·.Key) i<|by omega,uM s.Rows (·.Key) (i+1) a]
 exact c
def hU(s:aq)(a:Int):List aQ×Int:=bif !gN s then([],1)else bif (decide (a<s.bu)||decide (s.bi<a)) then([],15) else(iG a s.Rows,0)
section
variable {n:Nat} {s:aq} (c:2000<=n) (b:n<=2^63) (h:s0 n s) (d:s.Rows.length<=5000)
include c b h d
theorem aA6(a:Int):tH n s a=some (hU s a):=by
 have g:∀m i e,s.Rows.length<m+i->i<=s.Rows.length->e.length<=i->vu n a s m (i:Int) e=some (e++iG a (s.Rows.drop i),0):=by
  intro m;induction m with
  |zero=>intro i e o l;omega
  |succ m j=>
   intro i e o l p;simp only[vu,G8,UP];by_cases f:i<s.Rows.length
   ·simp only[f,bW f,US,YW,UL,aF];rw[alQ (h.row i).rj b,aj,gl s.Rows i default f,iG];by_cases k:(lN a<|s.Rows.getD i default).Cc=0
    ·simp only[k,YW,UR,UK,w8,cu (show i<=2^63-2 by omega),U3]
     exact j (i+1) _ (by omega) (by omega) (by omega)
    ·simp only[k,UN,YY,UL,U1,w8,cu (show i<=2^63-2 by omega),iF (show(e.length+1)*48<=140737488355328 by omega),aF,UY]
     rw[j (i+1) _ (by omega) (by omega) (by rw[UO,U1];omega)]
     simp
   ·obtain rfl:i=s.Rows.length:=by omega
    simp only[hS,UN,UK,G7,i_ s.Rows _ f,iG,gJ]
 unfold tH zn hU;rw[Fj c b h,aj];cases gN s
 ·rfl
 ·simp only[UR,UK,dU];cases decide (a<s.bu)||decide (s.bi<a)
  ·simp only[UK,aj,YW,UR];exact g n 0 [] (by have:=h.rows;omega) (by omega) (by simp)
  ·rfl
end
structure Sb(s:aq):Prop where
 nf:s.Rows.length<=60
 vs:∀i,i<s.Rows.length->(s.Rows.getD i default).aR.length<=40
def aA7{n:Nat}(c:2000<=n)(s:aq):Io n s=some false\/(Sb s/\Io n s=some true):=by
 unfold Io;simp only[fq];by_cases b:s.Rows.length<=60
 ·simp only[show¬ 60<s.Rows.length by omega,UN,UK]
  rcases Bg (L:=Dt n s) (len:=s.Rows.length) (m:=n) (Q:=λi=>(s.Rows.getD i default).aR.length<=40) (fin:=some true) (by omega)
   (λm i a=>by
    simp only[Dt,OE,a,bW a,US,UP,fq,YW,UL,aF,cu (show i<=2^63-2 by omega)]
    by_cases h:(s.Rows.getD i default).aR.length<=40
    ·right;simp only[show¬ 40<(s.Rows.getD i default).aR.length by omega,UN,UK,h,kY]
    ·left;simp only[show 40<(s.Rows.getD i default).aR.length by omega,YW,UL])
   (λm=>by simp only[Dt,OE,WQ,UP,hS,UN,UK])with h|⟨h,g⟩
  ·exact kP h
  ·exact iR ⟨⟨b,h⟩,g⟩
 ·left;simp only[show 60<s.Rows.length by omega,YW,UL]
structure uQ(r:bK):Prop where
 st:Sb r.aq
 pl:r.bY.length<=16
 ps:∀i,i<r.bY.length->Rs (r.bY.getD i default) 600
 ma:r.b7.length<=10
 jv:∀i,i<r.b7.length->(r.b7.getD i default).ce.length<=20
 aa:r.be.length<=40
 alS:r.EK.length<=70
 alT:∀i,i<r.EK.length->abE (r.EK.getD i default)
 iy:r.EG.aI.length<=40
def uQ.b5{r:bK}(h:uQ r)(hi:oX r){n:Nat}(s:n=9223372036854775808):wu n r where
 st:=⟨by have:=h.st.nf;omega,λi=>lM (P:=A9 n) (λk a=>by
  have c:=hi.abZ.R6.2 k a;have e:=c.uO;have d:=c.FA.1;exact⟨by omega,by omega,λj=>lM (P:=λx:Br=>x.aY.S.length<n) (λm b=>by have:=(c.FA.2 m b).wA.Fz;omega) (by show 0<n;omega) j⟩) ((KN (n:=n)<|by omega).st.row 0) i⟩
 Bd:=by have:=h.pl;omega
 kR:=λi=>lM (P:=pI) (λk a=>by
  let⟨c,e,d,p⟩:=h.ps k a;have w:=Rr (r.bY.getD k default).BZ (hi.KR.2 k a).2.2.2;exact⟨hi.KR.2 k a,by omega,by omega,by omega⟩) ak4 i
 uI:=by have:=h.ma;omega
 nL:=λi=>lM (P:=sZ n) (λk a=>by
  have c:=hi.R8.2 k a;have e:=c.abV.1
  exact⟨by omega,λj=>lM (P:=λx:fk=>A6 n x.Bt) (λm b=>by
   have d:=(c.abV.2 m b).alA.alx;have p:=d.1;exact⟨by omega,λq=>lM (P:=λx:bJ=>x.S.length<n) (λm b=>by have:=(d.2 m b).Fz;omega) (by show 0<n;omega) q⟩) ((RO (n:=n) (by omega) (l:=[]) (λx f=>by cases f) 0).out 0) j⟩) (RO (n:=n) (by omega) (l:=[]) (λx f=>by cases f) 0) i
 pl:=by have:=h.iy;omega
 Be:=λi=>lM (P:=uF n) (λk a=>by
  have c:=hi.KS.alD.2 k a;have e:=c.aAt;have d:=c.alC;exact⟨by omega,by omega⟩) ((KN (n:=n)<|by omega).Be 0) i
 az:=by have:=h.aa;omega
 lp:=λi=>lM (P:=λx:be=>x.Key.length<n) (λk a=>by have:=(hi.R9.2 k a).uO;omega) (by show 0<n;omega) i
 ou:=by have:=h.alS;omega
 uJ:=λi=>lM (P:=uC n) (λk a=>by
  let⟨c,e,d,u,t,o,g⟩:=h.alT k a
  exact⟨by omega,by omega,λj=>lM (P:=λx:bJ=>x.S.length<n) (λm b=>by have:=d m b;omega) (by show 0<n;omega) j,by omega,by omega,by omega,by omega,
   λj=>lM (P:=λx:UB=>x.length<n) (λm b=>by have:=o m b;omega) (by show 0<n;omega) j,
   λj=>lM (P:=λx:UB=>x.length<n) (λm b=>by have:=g m b;omega) (by show 0<n;omega) j⟩) (ala<|by omega) i
def uQ.alU{r:bK}(h:uQ r)(hi:oX r){n:Nat}(a:n=9223372036854775808):KV n r:=
 ⟨h.b5 hi a,by have:=h.st.nf;omega,λi hi=>by have:=h.st.vs i hi;omega,by have:=h.pl;omega,h.ma⟩
def aA8{n:Nat}(d:2000<=n)(r:bK)(hp:∀i,i<r.bY.length->uk (r.bY.getD i default)):It n r=some false\/(uQ r/\It n r=some true):=by
 unfold It;simp only[fq,dU];rcases aA7 d r.aq with c|⟨c,j⟩
 ·left;simp only[c,aj,YY,kI,UL]
 ·simp only[j,aj,UR,jJ];by_cases f:r.bY.length<=16
  ·by_cases e:r.b7.length<=10
   ·by_cases p:r.be.length<=40
    ·by_cases o:r.EK.length<=70
     ·by_cases q:r.EG.aI.length<=40
      ·simp only[show¬ 16<r.bY.length by omega,show¬ 10<r.b7.length by omega,show¬ 40<r.be.length by omega,show¬ 70<r.EK.length by omega,show¬ 40<r.EG.aI.length by omega,UN,si,wE,UK]
       rcases Bg (L:=Dy n r) (len:=r.bY.length) (m:=n) (Q:=λi=>Rs (r.bY.getD i default) 600) (fin:=Aa n r n 0) (by omega)
        (λm i a=>by
         let⟨b,l,k⟩:=awX (n:=n) (r.bY.getD i default) 600 (by omega) (by omega)<|hp i a
         simp only[Dy,ON,a,bW a,US,UP,YW,UL,aF,cu (show i<=2^63-2 by omega)]
         rw[show Ir n (r.bY.getD i default) 600=some b from l,aj]
         cases b
         ·left;rfl
         ·right;exact⟨k rfl,rfl⟩)
        (λm=>by simp only[Dy,ON,W2,UP,hS,UN,UK])with bG|⟨bG,g6⟩
       ·exact kP bG
       ·rw[g6]
        rcases Bg (L:=Aa n r) (len:=r.b7.length) (m:=n) (Q:=λi=>(r.b7.getD i default).ce.length<=20) (fin:=z_ n r n 0) (by omega)
         (λm i a=>by
          simp only[Aa,OM,a,bW a,US,UP,fq,YW,UL,aF,cu (show i<=2^63-2 by omega)]
          by_cases h:(r.b7.getD i default).ce.length<=20
          ·right;simp only[show¬ 20<(r.b7.getD i default).ce.length by omega,UN,UK,h,kY]
          ·left;simp only[show 20<(r.b7.getD i default).ce.length by omega,YW,UL])
         (λm=>by simp only[Aa,OM,W0,UP,hS,UN,UK])with cG|⟨cG,g7⟩
        ·exact kP cG
        ·rw[g7]
         rcases Bg (L:=z_ n r) (len:=r.EK.length) (m:=n) (Q:=λi=>abE<|r.EK.getD i default) (fin:=some true) (by omega)
          (λm i a=>by
           simp only[z_,OL,a,bW a,US,UP,YW,UL,aF,cu (show i<=2^63-2 by omega)]
           rcases az2 d (r.EK.getD i default)with h|⟨h,g⟩
           ·left;rw[h];rfl
           ·right;rw[g];exact⟨h,rfl⟩)
          (λm=>by simp only[z_,OL,WZ,UP,hS,UN,UK])with dk|⟨dk,g8⟩
         ·exact kP dk
         ·exact iR ⟨⟨c,f,bG,e,cG,p,o,dk,q⟩,g8⟩
      ·left;simp only[show 40<r.EG.aI.length by omega,YW,U4,UL]
     ·left;simp only[show 70<r.EK.length by omega,YW,U4,kI,UL]
    ·left;simp only[show 40<r.be.length by omega,YW,U4,kI,UL]
   ·left;simp only[show 10<r.b7.length by omega,YW,U4,kI,UL]
  ·left;simp only[show 16<r.bY.length by omega,YW,U4,kI,UL]
def aca:D_ 9223372036854775808=some true:=by kernel_rfl
def aD2(x:ej):⟨x.br,x.Fa,x.Next,x.dO,x.fg,x.dg⟩=x:=rfl
def alV{n:Nat}{s:UB}(h:24<n):Il n s=some (jn s):=by
 unfold Il WN jn;by_cases b:s.length<=24
 ·simp only[fq,show¬ 24<s.length by omega,UN,UK,b,YW,oP]
  rw[iA (L:=Dr n s) (U2:=λi=>x5<|s.getD i 0) (no:=false) (yes:=true) (show s.length<n by omega),mi,aj]
  ·intro m i a;simp only[Dr,OA,WL,UP,a,YW,UL,bW a,aF,aj,US,fz (show i<=2^62 by omega),ug,mH,ew]
   refine iT ?_;unfold x5;rw[yQ];simp only[hh,xW,rX,mu,fx,iv,lb];omega
  ·intro m;simp only[Dr,OA,WM,UZ,UN,UK]
 ·simp only[fq,show 24<s.length by omega,YW,UL,b,UN,kL,aj]
def acb{n:Nat}{x:UB}(h:24<n):Ds n ⟨x,[]⟩=some (jn x):=by
 unfold Ds;rw[alV h,aj,alV h,show jn []=true from rfl]
 cases jn x<;>rfl
def s5(x k:UB):Bool:=!Op.bytesLess k x
def acd(x k:UB):(Op.bytesLess x k||decide (x=k))=s5 x k:=by
 unfold s5;rw[qt k x]
def aA9{n:Nat}{x k:UB}(h:24<n)(a:jn x=true):OB n ⟨x,[]⟩ k=some (s5 x k):=by
 unfold OB;rw[acb h,aj,a];simp only[UL,acd,YW];cases s5 x k<;>rfl
def nO(x:UB)(l:List aQ):List aQ:=l.filter λp=>s5 x p.Key
def qy(l:List aQ)(k:Nat):UB:=if k<l.length then(l.getD k default).Key else[]
def aA'(x:UB)(l:List aQ):(nO x l).length<=l.length:=List.length_filter_le _ _
def aA_{α:Type}{a b:List α}{k:Nat}(h:a.length=k):(a++b).take k=a:=by subst h;simp
def aBa{α:Type}[Inhabited α]{a b:List α}{p:α}{k:Nat}(h:a.length=k):(a++p::b).getD k default=p:=by subst h;simp[List.getD]
def alW(s:aq)(a:Int):(hU s a).1.length<=s.Rows.length:=by
 unfold hU;cases gN s
 ·simp
 ·cases decide (a<s.bu)||decide (s.bi<a)
  ·exact alR (a:=a) s.Rows
  ·simp
def aBb{n:Nat}{s:aq}(o:2000<=n)(u:n<=2^63)(h:s0 n s)(t:s.Rows.length<=5000)(a:Int){x:UB}(f:jn x=true)(k:Nat):
 OC n s a ⟨x,[]⟩ (k:Int)=some (bif !decide ((hU s a).2=0) then([],[],(hU s a).2) else((nO x (hU s a).1).take k,qy (nO x (hU s a).1) k,0)):=by
 unfold OC;rw[acb<|by omega,aj,f]
 simp only[UR,UK];rw[aA6 o u h t,aj];cases hd:decide ((hU s a).2=0)
 ·rfl
 ·simp only[UR,UK];have p:=alW s a;have w:=h.rows;have hlen:(hU s a).1.length<=5000:=by omega
  have c:∀m i b,(hU s a).1.length<m+i->i<=(hU s a).1.length->b.length<=i->b.length<=k->
   In n (k:Int) (hU s a) ⟨x,[]⟩ m b (i:Int)=some ((b++nO x ((hU s a).1.drop i)).take k,qy (b++nO x ((hU s a).1.drop i)) k,0):=by
   intro m;induction m with
   |zero=>intro i b r q;omega
   |succ m l=>
    intro i b r q y j;simp only[In,WP,UP];by_cases d:i<(hU s a).1.length
    ·simp only[d,bW d,US,YW,UL,aF];rw[aA9 (by omega) f,aj,gl (hU s a).1 i default d,nO,List.filter_cons]
     cases hg:s5 x ((hU s a).1.getD i default).Key
     ·simp only[YY,UL,Im,cu (show i<=2^63-2 by omega),iO,UY]
      exact l (i+1) _ (by omega) (by omega) (by omega) j
     ·simp only[UR,UK,vF,U3];by_cases g:k<=b.length
      ·have e:b.length=k:=by omega
       simp only[g,YW,UL,aA_ e];unfold qy;rw[eI (by rw[UO,UT];omega),aBa e]
      ·simp only[g,UN,UK,U1,Im,cu (show i<=2^63-2 by omega),iF (show(b.length+1)*48<=140737488355328 by omega),aF]
       rw[l (i+1) _ (by omega) (by omega) (by rw[UO,U1];omega) (by rw[UO,U1];omega)]
       simp[nO]
    ·obtain rfl:i=(hU s a).1.length:=by omega
     simp only[hS,UN,UK,WO,wy,nO,List.filter_nil,gJ];unfold qy;rw[re j,de<|by omega]
  exact c n 0 [] (by omega) (by omega) (by simp) (by simp)
abbrev alX:ej:=⟨0,RY,[],false,[],[]⟩
def Bp(c:ej)(s:aq)(k:Int):ej×Int:=
 bif (decide (k<1) || !gN s) || !jn c.Next then(alX,1)else bif c.dO then(c,0) else
 bif !decide ((hU s c.br).2=0) then(alX,(hU s c.br).2) else
 (⟨c.br,c.Fa,qy (nO c.Next (hU s c.br).1) k.toNat,decide<|(nO c.Next (hU s c.br).1).length<=k.toNat,c.fg++(nO c.Next (hU s c.br).1).take k.toNat,c.dg⟩,0)
structure FD(n:Nat)(c:ej):Prop where
 fj:c.Next.length<n
 aD4:c.Next.length<=2^63-1
 pl:c.fg.length<=100000
 iy:c.dg.length<=100000
def alY{n:Nat}{c:ej}(h:FD n c):Ih n c=some c:=by
 have b:=h.pl;have a:=h.iy;unfold Ih Ow Ox;simp only[UU,mE,iK,iF (show c.fg.length*48<=140737488355328 by omega),iF (show c.dg.length*16<=140737488355328 by omega),aF,aj]
def aBc{s:aq}(b:s.Rows.length<=5000)(a:Int):(hU s a).1.length<=5000:=xb (alW s a) b
def aBd{s:aq}(h:s.Rows.length<=5000)(a:Int)(p:aQ)(b:p∈(hU s a).1):p.Key≠[]:=by
 unfold hU at b;cases hs:gN s
 ·rw[hs]at b;simp at b
 ·rw[hs]at b;cases c:decide (a<s.bu)||decide (s.bi<a)
  ·rw[c]at b;simp only[UR,UK]at b;let⟨r,c,e,_⟩:=ab_ _ _ b;obtain⟨j,f,rfl⟩:=yf c;have d:=(aA4 hs a j f).1;rw[e];intro g;rw[show(s.Rows.getD j default).Key=[]from g]at d
   cases d
  ·rw[c]at b;simp at b
def aBe{l:List aQ}{k:Nat}(h:∀p∈l,p.Key≠[]):decide (qy l k=[])=decide (l.length<=k):=by
 unfold qy;by_cases a:k<l.length
 ·rw[eI a,en<|h _<|nJ a,en<|by omega]
 ·rw[de a,fp rfl,fp<|by omega]
section
variable {n:Nat} {s:aq} (e:2000<=n) (b:n<=2^63) (h:s0 n s) (a:s.Rows.length<=5000) {c:ej} (d:FD n c)
include e b h a d
theorem alZ(k:Int):z7 n c s k=some (Bp c s k):=by
 unfold z7 Bp;cases hk:decide (k<1)
 ·have g:¬ k<1:=oU hk;obtain⟨m,rfl⟩:∃m:Nat,k=(m:Int):=⟨k.toNat,by omega⟩
  simp only[YY,UL,UK,jJ];rw[Fj e b h,aj];cases hs:gN s
  ·rfl
  ·simp only[UR,YY,UL,UK,jJ];rw[acb<|by omega,aj]
   cases hb:jn c.Next
   ·rfl
   ·simp only[UR,UK];rw[alY d,aj];cases hd:c.dO
    ·simp only[UK];rw[aBb e b h a c.br hb m,aj];cases he:decide ((hU s c.br).2=0)
     ·simp only[YY,UL,he]
     ·have hlen:=aBc a c.br;have i:=aA' c.Next (hU s c.br).1;have f:=d.pl;simp only[UR,UK,US,YW];rw[iF (by rw[jF];omega),aF,aBe (l:=nO c.Next (hU s c.br).1) λp f=>aBd a _ p (List.mem_filter.1 f).1]
    ·simp only[UL]
 ·rfl
end
def aBf{n:Nat}{c:ej}(a:FD n c)(x:UB):Ii n c x=some ⟨c.br,c.Fa,c.Next,c.dO,c.fg,c.dg++[x]⟩:=by
 have:=a.iy
 unfold Ii;rw[alY a,aj,iF (by rw[U1];omega),aF]
structure Sc(c:ej):Prop where
 rest:uQ c.Fa
 pl:c.fg.length<=60
 iy:c.dg.length<=40
 ts:∀i,i<c.dg.length->(c.dg.getD i default).length<=5000
def Sc.b5{c:ej}(h:Sc c)(hi:ab2 c){n:Nat}(a:n=9223372036854775808):FD n c:=
 ⟨by have:=hi.abU;omega,hi.abU,by have:=h.pl;omega,by have:=h.iy;omega⟩
def Sb.b5{s:aq}(h:Sb s)(hi:KQ s){n:Nat}(d:n=9223372036854775808):s0 n s:=
 ⟨by
  have:=h.nf;omega,λi=>lM (P:=A9 n) (λk c=>by
  have a:=hi.R6.2 k c;have e:=a.uO;have f:=a.FA.1;exact⟨by omega,by omega,λj=>lM (P:=λx:Br=>x.aY.S.length<n) (λm b=>by have:=(a.FA.2 m b).wA.Fz;omega) (by show 0<n;omega) j⟩) ((KN (n:=n)<|by omega).st.row 0) i⟩
def aBg{c:UInt8}(h:qq c=true):x5 c=true:=by
 unfold qq at h;unfold x5;simp only[mu,fx]at h;simp only[hh,lG,iv];omega
def aBh{k:UB}(h:fY k=true):jn k=true:=by
 unfold fY at h;unfold jn;rw[cb,hN];simp only[cb,gK,xv,fx]at h ⊢;exact⟨λi a=>aBg<|h.2 i a,h.1.2⟩
def aBi(k:UB):s5 k k=true:=by
 rw[<-acd,fp rfl,U4]
def al0{x:UB}{l:List aQ}(h:∀p∈l,s5 x p.Key=true):nO x l=l:=List.filter_eq_self.2 h
def aBj(l:List aQ):nO [] l=l:=al0 λp _=>by
 unfold s5;cases p.Key<;>rfl
def al1:∀{l:List aQ} {k:Nat},kS (l.map (·.Key))->k<l.length->nO (l.getD k default).Key l=l.drop k
 |[],k,_,h=>by simp at h
 |p::l,0,h,_=>by
  refine al0 λq am=>?_
  rcases gh.1 am with rfl|am
  ·exact aBi _
  ·have:=h.1 q.Key<|jk.2 ⟨q,am,rfl⟩
   show s5 p.Key q.Key=true
   rw[<-acd,this,kI]
 |p::l,k+1,h,b=>by
  have a:k<l.length:=by simpa using b
  rw[oO,zP,<-al1 h.2 a];unfold nO;have c:=h.1 (l.getD k default).Key<|jk.2 ⟨_,nJ a,rfl⟩;rw[List.filter_cons,de];unfold s5;rw[c];simp
section
variable {W:List aQ} {a:Int}
end
abbrev h6(c:ej):bK:=⟨c.Fa.Pos,(la c.fg c.br).1,c.Fa.bY,c.Fa.b7,c.Fa.EG,c.Fa.be,c.Fa.EK,c.Fa.cN⟩
def pJ(c:ej)(a:UB)(l:List UB):UB×Int×Int:=
 bif (l.all (λx=>decide<|x.length<=4096)&&decide ((a++eZ dq l).length<=16384))&&decide ((c.dg.length:Int)<=1099511627776-c.br) then(a++eZ dq l,c.br+(c.dg.length:Int),0) else([],0,2)
def yk(c:ej):UB×Int×Int:=
 bif !c.dO then([],0,16)else bif !decide ((la c.fg c.br).2=0) then([],0,(la c.fg c.br).2) else
 bif !decide ((encA<|h6 c).2=0) then([],0,(encA<|h6 c).2)else pJ c (dq (encA<|h6 c).1++dw c.dg.length) c.dg
def al2{c:ej}{a x:UB}{l:List UB}(h:x.length<=4096):pJ c a (x::l)=pJ c (a++dq x) l:=by
 unfold pJ;rw[ny,fp h,iP,show eZ dq (x::l)=dq x++eZ dq l from rfl,<-eO]
def al3{c:ej}{a x:UB}{l:List UB}(h:¬ x.length<=4096):pJ c a (x::l)=([],0,2):=by
 unfold pJ;rw[ny,en h];rfl
def aBk{c:ej}{a:UB}{l:List UB}(h:16384<a.length):pJ c a l=([],0,2):=by
 unfold pJ;rw[en (show¬ (a++eZ dq l).length<=16384 by rw[UO];omega),kL,jH];rfl
def al4{c:ej}{a:UB}:pJ c a []=bif decide (16384<a.length)||decide (1099511627776-c.br<(c.dg.length:Int)) then([],0,2) else(a,c.br+(c.dg.length:Int),0):=by
 unfold pJ;rw[show eZ dq []=[]from rfl,gJ,List.all_nil,iP]
 by_cases d:a.length<=16384
 ·rw[fp d,en (show¬ 16384<a.length by omega)]
  by_cases b:(c.dg.length:Int)<=1099511627776-c.br
  ·rw[fp b,en (show¬ 1099511627776-c.br<(c.dg.length:Int)by omega)];rfl
  ·rw[en b,fp (show 1099511627776-c.br<(c.dg.length:Int)by omega)];rfl
 ·rw[en d,fp (show 16384<a.length by omega)];rfl
def ace{l:List aQ}{a:Int}(h:(la l a).2=0):mj l=true/\0<=a/\a<=1099511627776/\la l a=(ii l a,0):=by
 unfold la at h ⊢;cases h1:(!mj l||decide (a<0))||decide (1099511627776<a)
 ·simp only[lG,rX,iv]at h1;exact⟨h1.1.1,by omega,by omega,rfl⟩
 ·rw[h1]at h;cases h
section
variable {n:Nat} (e:100000000<=n) (b:n<=2^63) {c:ej} (aT:0<=c.br/\c.br<=1099511627776) (d:c.dg.length<=4000) (a:∀i,i<c.dg.length->(c.dg.getD i default).length<=5000)
include e b aT d a
theorem al5:YV (1099511627776-c.br)=1099511627776-c.br/\YV (c.br+(c.dg.length:Int))=c.br+(c.dg.length:Int):=by
 let⟨g,f⟩:=aT;constructor
 ·rw[wr]<;>omega
 ·rw[wr]<;>omega
theorem aBl:∀m i f,c.dg.length<m+i->i<=c.dg.length->f.length<=1000000->Ig n c m (hT f) (i:Int)=some (pJ c f<|c.dg.drop i):=by
 let⟨k,p⟩:=al5 e b aT d a;intro m;induction m with
 |zero=>intro i f o l;omega
 |succ m q=>
  intro i f o l u;simp only[Ig,WJ,UP];by_cases g:i<c.dg.length
  ·have t:=a i g;simp only[g,bW g,US,YW,UL,aF,fq];rw[gl c.dg i default g];by_cases j:(c.dg.getD i default).length<=4096
   ·simp only[show¬ 4096<(c.dg.getD i default).length by omega,UN,YY,UL,If,aj,E9,fq,UK]
    by_cases h:16384<f.length
    ·rw[fp h,aBk h];rfl
    ·rw[en h,al2 j];simp only[UK];have r:=uu (s:=c.dg.getD i default) (by omega)
     rw[ur (by omega)<|by omega,aj,mm<|by omega,aj]
     simp only[cu (show i<=2^63-2 by omega)]
     exact q (i+1) _ (by omega) (by omega) (by rw[UO];omega)
   ·simp only[show 4096<(c.dg.getD i default).length by omega,YW,UR,UK,aj,UL]
    rw[al3 j]
  ·obtain rfl:i=c.dg.length:=by omega
   simp only[hS,UN,UK,WI,If,aj,E9,fq,wy,al4,dU,k,p];cases decide (16384<f.length)||decide (1099511627776-c.br<(c.dg.length:Int))
   ·simp only[UK];rw[RZ<|by omega,aj]
   ·rfl
theorem aBm:∀m i f,c.dg.length<m+i->i<=c.dg.length->f.length<=100000+i*5100->I9 n c m (i:Int) f=some (pJ c f<|c.dg.drop i):=by
 let⟨j,o⟩:=al5 e b aT d a;intro m;induction m with
 |zero=>intro i f l k;omega
 |succ m p=>
  intro i f l k t;simp only[I9,YQ,UP];by_cases g:i<c.dg.length
  ·have r:=a i g;simp only[g,bW g,US,YW,UL,aF,fq];rw[gl c.dg i default g];by_cases h:(c.dg.getD i default).length<=4096
   ·simp only[show¬ 4096<(c.dg.getD i default).length by omega,UN,UK]
    have q:=uu (s:=c.dg.getD i default) (by omega)
    rw[al2 h,ut (by omega)<|by omega,aj,dW<|by omega,aF]
    simp only[cu (show i<=2^63-2 by omega)]
    exact p (i+1) _ (by omega) (by omega) (by rw[UO];omega)
   ·simp only[show 4096<(c.dg.getD i default).length by omega,YW,UL]
    rw[al3 h]
  ·obtain rfl:i=c.dg.length:=by omega
   simp only[hS,UN,UK,YP,fq,wy,al4,dU,j,o];rw[Bool.or_comm];cases decide (16384<f.length)||decide (1099511627776-c.br<(c.dg.length:Int))<;>rfl
end
def aBn{n:Nat}{l:List aQ}{a:Int}(c:2000<=n)(g:l.length<n)(d:∀i,i<l.length->(l.getD i default).Key.length<n/\(l.getD i default).aY.S.length<n):s0 n (ii l a):=
 ⟨by
  rw[Bn];exact g,λi=>lM (P:=A9 n) (λk b=>by
  rw[Bn]at b;rw[Bo b];let⟨f,e⟩:=d k b;refine⟨f,by show 1<n;omega,λj=>?_⟩
  cases j with
  |zero=>exact e
  |succ j=>show 0<n;omega) ((KN (n:=n) c).st.row 0) i⟩
def aBo{l:List aQ}{a:Int}(c:eo a)(e:l.length<=2^63-1)(h:∀i,i<l.length->KT (l.getD i default)):KQ (ii l a):=
 ⟨c,c,by rw[Bn];exact e,λi b=>by
  rw[Bn]at b;rw[Bo b];refine⟨(h i b).uO,by show 1<=_;omega,λj d=>?_⟩
  obtain rfl:j=0:=by have:j<1:=d;omega
  exact⟨c,(h i b).wA⟩⟩
section
variable {n:Nat} (b:n=9223372036854775808) {c:ej} (a:Sc c) (hi:ab2 c)
include b a hi
theorem acf(g:(la c.fg c.br).2=0):KV n (h6 c)/\oX (h6 c):=by
 let⟨_,_,_,e⟩:=ace g;have d:=a.rest.b5 hi.alG b;have k:=a.pl;have f:=hi.alG;have j:h6 c=(⟨c.Fa.Pos,ii c.fg c.br,c.Fa.bY,c.Fa.b7,c.Fa.EG,c.Fa.be,c.Fa.EK,c.Fa.cN⟩:bK):=by show(⟨_,(la c.fg c.br).1,_,_,_,_,_,_⟩:bK)=_;rw[e]
 rw[j]
 refine⟨⟨⟨aBn (by omega) (by omega) λi h=>?_,d.Bd,d.kR,d.uI,d.nL,d.pl,d.Be,d.az,d.lp,d.ou,d.uJ⟩,by rw[Bn];omega,λi h=>?_,by have:=a.rest.pl;show c.Fa.bY.length<=_;omega,a.rest.ma⟩,
  ⟨f.R7,aBo hi.alv hi.R_.1 hi.R_.2,f.KR,f.R8,f.KS,f.R9,f.ab0,f.ab1⟩⟩
 ·have:=hi.R_.2 i h
  have m:=this.uO;have l:=this.wA.Fz;omega
 ·rw[Bn]at h;rw[Bo h];show 1<=_;omega
theorem al6(i:Nat):oV n (c.fg.getD i default):=lM (P:=oV n) (λk d=>by
 have:=hi.R_.2 k d
 have f:=this.uO;have e:=this.wA.Fz;exact⟨by omega,by omega⟩) ⟨by show 0<n;omega,by show 0<n;omega⟩ i
theorem al7:IntKind.u64.wrap (c.dg.length:Int)=(c.dg.length:Int):=by
 have:=a.iy
 exact qo (by omega)
theorem aBp:Dq n c=some (yk c):=by
 have j:=a.pl;have i:=a.iy;unfold Dq yk;cases c.dO
 ·rfl
 ·simp only[UR,UK];rw[akK (by omega) (by omega) (by omega) (by omega) (al6 b a hi) c.br,aj]
  cases h0:decide ((la c.fg c.br).2=0)
  ·rfl
  ·simp only[UR,UK];let⟨f,e⟩:=acf b a hi<|ky h0;let⟨_,h,g,_⟩:=ace<|ky h0;rw[show Ie n _=_ from aAV (by omega) (by omega) f e,aj]
   cases d:decide ((encA<|h6 c).2=0)
   ·rfl
   ·simp only[UR,UK]
    have hlen:(encA<|h6 c).1.length<=16384:=by
     have d:=ky d;unfold encA at d ⊢;cases hs:gx (h6 c)
     ·rw[hs]at d;cases d
     ·rw[hs]at d;cases h2:decide (16384<(((gy<|gT<|h6 c).length:Nat):Int))
      ·have:=oU h2
       simp only[UR,UK];omega
      ·rw[h2]at d;cases d
    have l:=uu (s:=(encA<|h6 c).1) (by omega)
    have k:=kg (u:=c.dg.length) (by omega)
    rw[ur (by omega)<|by omega,aj,al7 b a hi,wi (by omega)<|by omega,aj,dW<|by omega,aF,
     show[]=hT []from rfl,mm (by rw[UO];simp;omega),aj,iK]
    exact aBl (by omega) (by omega) ⟨h,g⟩ (by omega) a.ts n 0 _ (by omega) (by omega) (by rw[UO];omega)
theorem aBq:Qh n c=some (yk c):=by
 have j:=a.pl;have i:=a.iy;unfold Qh yk;cases c.dO
 ·rfl
 ·simp only[UR,UK];rw[akL (by omega) (by omega) (by omega) (by omega) (al6 b a hi) c.br,aj]
  cases h0:decide ((la c.fg c.br).2=0)
  ·rfl
  ·simp only[UR,UK];let⟨f,e⟩:=acf b a hi<|ky h0;let⟨_,h,g,_⟩:=ace<|ky h0;rw[show I8 n _=_ from aAW (by omega) (by omega) f e,aj]
   cases d:decide ((encA<|h6 c).2=0)
   ·rfl
   ·simp only[UR,UK]
    have hlen:(encA<|h6 c).1.length<=16384:=by
     have d:=ky d;unfold encA at d ⊢;cases hs:gx (h6 c)
     ·rw[hs]at d;cases d
     ·rw[hs]at d;cases h2:decide (16384<(((gy<|gT<|h6 c).length:Nat):Int))
      ·have:=oU h2
       simp only[UR,UK];omega
      ·rw[h2]at d;cases d
    have l:=uu (s:=(encA<|h6 c).1) (by omega)
    have k:=kg (u:=c.dg.length) (by omega)
    rw[ut (by omega)<|by omega,aj,al7 b a hi,wj (by omega)<|by omega,aj,dW<|by omega,aF]
    exact aBm (by omega) (by omega) ⟨h,g⟩ (by omega) a.ts n 0 _ (by omega) (by omega) (by rw[UO];omega)
end
def acg:eB (fH 4096) dq (λs=>s.length<=4096):=wk 4096 (by omega)
def al8:eB (fH 16384) dq (λs=>s.length<=16384):=wk 16384 (by omega)
section
variable {n:Nat} (c:100000000<=n) (a:n<=2^63) {s:UB} (b:s.length<=16384)
include c a b
theorem al9{most:Nat}(f:most<2^63)(d:most<2^64){t:UB}(g:t <:+ s):
 z1 n (most:Int) s (bx s t)=some (match fH most t with|.error e=>([],e,bx s t)|.ok (x,u)=>(x,0,bx s u)):=by
 unfold z1;rw[Fg g (by omega) f<|by omega,aj]
 cases hx:fH most t with
 |error e=>
  have:=(wk most d).dr _ _ hx
  rw[f9,show decide (((([],0,e):UB×Int×Int)).2.2=0)=false from en this]
  rfl
 |ok r=>let⟨x,u⟩:=r;rfl
theorem aBr{f:Int×Int×Int}{p:bK×Int}{k:Nat}(h:f.1=(k:Int))(A:k<=100000):∀j m i t d,i+j=k->j<m->t <:+ s->d.length=i->
 z6 n f s p m (bx s t) d (i:Int)=match hq (fH 4096) j t with|.error e=>some (RY,[],e)|.ok (l,v)=>Oy n f s p (bx s v) (d++l):=by
 intro j;induction j with
 |zero=>
  intro m i t d y w g o;obtain⟨m,rfl⟩:∃q,m=q+1:=⟨m-1,by omega⟩
  obtain rfl:i=k:=by omega
  simp only[z6,Oz,h,UZ,UN,UK,hq,gJ]
 |succ j z=>
  intro m i t d y w g o;obtain⟨m,rfl⟩:∃q,m=q+1:=⟨m-1,by omega⟩
  simp only[z6,Oz,h,UP,show i<k by omega,YW,UL,hq]
  rw[show z1 n 4096 s (bx s t)=_ from al9 c a b (most:=4096) (by omega) (by omega) g,aj]
  cases hx:fH 4096 t with
  |error e=>simp only[ht<|acg.dr _ _ hx,UL]
  |ok r=>
   let⟨x,u⟩:=r;simp only[YW,UR,UK,U1,iF (show(d.length+1)*16<=140737488355328 by omega),aF,cu (show i<=2^63-2 by omega)]
   rw[z m (i+1) u (d++[x]) (by omega) (by omega) ((acg.mf hx).trans g)<|by rw[UO,U1,o]]
   cases hq (fH 4096) j u with
   |error e=>rfl
   |ok r=>let⟨l,v⟩:=r;simp only[eO,rY]
theorem aBs{v:UB}(d:v <:+ s):decide (bx s v=(s.length:Int))=decide (v=[]):=by
 by_cases h:v=[]
 ·rw[fp h,fp<|(abw d).2 h]
 ·rw[en h,en<|λe=>h<|(abw d).1 e]
end
def al_{k:UB}:∀{R:List Row},kS (R.map (·.Key))->∃A B,R=A++B/\(∀r∈A,Op.bytesLess r.Key k=true)/\∀r∈B,Op.bytesLess r.Key k=false
 |[],_=>⟨[],[],rfl,by simp,by simp⟩
 |r::R,h=>by
  cases af:Op.bytesLess r.Key k with
  |true=>
   obtain⟨A,B,rfl,b,a⟩:=al_ (R:=R) h.2;refine⟨r::A,B,rfl,λq am=>?_,a⟩
   rcases gh.1 am with rfl|am
   ·exact af
   ·exact b q am
  |false=>
   refine⟨[],r::R,rfl,by simp,λq am=>?_⟩
   rcases gh.1 am with rfl|am
   ·exact af
   ·cases hc:Op.bytesLess q.Key k with
    |false=>rfl
    |true=>
     have c:=h.1 q.Key<|jk.2 ⟨q,am,rfl⟩;rw[RE _ _ _ c hc]at af;cases af
section
variable {n:Nat} (a:n<=2^63)
theorem aBt{i j:Nat}(hi:i<=1000000)(b:j<=1000000):YV (mq .u64 (IntKind.u64.wrap<|YV<|(i:Int)+(j:Int)) 1)=(((i+j) / 2:Nat):Int):=by
 rw[show YV ((i:Int)+(j:Int))=((i+j:Nat):Int)by rw[wr]<;>omega]
 rw[show IntKind.u64.wrap ((i+j:Nat):Int)=((i+j:Nat):Int)by rw[IntKind.wrap_u64];omega]
 rw[akp,wr]<;>omega
theorem ama{r:Row}{k:UB}:IY n r k=some (if Op.bytesLess r.Key k=true then -1 else if r.Key=k then 0 else 1):=by
 unfold IY;cases h:Op.bytesLess r.Key k
 ·by_cases b:r.Key=k
  ·rw[de<|by simp,eI b,fp b];rfl
  ·rw[de<|by simp,de b,en b];rfl
 ·rfl
theorem aBu{A B:List Row}{k:UB}(E:(A++B).length<=1000000)(aT:∀r∈A,Op.bytesLess r.Key k=true)(p:∀r∈B,Op.bytesLess r.Key k=false):
 ∀m i j,j<m+i->i<=A.length->A.length<=j->j<=(A++B).length->
  IZ n (A++B) k m (j:Int) (i:Int)=some ((A.length:Int),decide (0<B.length)&&decide ((B.getD 0 default).Key=k)):=by
 have g:∀h,h<A.length->(A++B).getD h default=A.getD h default:=λh f=>by simp[List.getD,iw f]
 have d:∀h,A.length<=h->(A++B).getD h default=B.getD (h-A.length) default:=λh f=>by simp[List.getD,jE f]
 have hlen:(A++B).length=A.length+B.length:=kv;intro m;induction m with
 |zero=>intro i j u o q;omega
 |succ m s=>
  intro i j u o q w;simp only[IZ,YC];by_cases F:i<j
  ·have y:i<=(i+j) / 2:=by omega
   have x:(i+j) / 2<j:=by omega
   (rw[fp (show(i:Int)<(j:Int)by omega),UL,aBt (by omega)<|by omega,bW<|by omega,aF,ama,aj];simp only[US])
   by_cases l:(i+j) / 2<A.length
   ·have b:=aT _<|nJ l;rw[g _ l,eI b];show(bif decide ((-1:Int)<0)then _ else _)=_
    rw[show decide ((-1:Int)<0)=true from rfl,UL,show YV ((((i+j) / 2:Nat):Int)+1)=(((i+j) / 2+1:Nat):Int)by rw[wr]<;>omega]
    exact s _ j (by omega) (by omega) q w
   ·have c:(i+j) / 2-A.length<B.length:=by omega
    have b:=p _<|nJ c;rw[d _<|by omega,de (by rw[b];simp)]
    have t:decide ((if(B.getD ((i+j) / 2-A.length) default).Key=k then(0:Int)else 1)<0)=false:=by
     split<;>rfl
    rw[t,UK];exact s i _ (by omega) o (by omega) (by omega)
  ·obtain rfl:i=A.length:=by omega
   obtain rfl:j=A.length:=by omega
   rw[en<|UZ _,UK];unfold YB;by_cases c:0<B.length
   ·have z:A.length<(A++B).length:=by omega
    (rw[fp (show(A.length:Int)<(((A++B).length:Nat):Int)by omega),bW z,U4,aF,UL];simp only[US];rw[ama,aj,d _<|fS _,tL,p _<|nJ c,fp c])
    by_cases e:(B.getD 0 default).Key=k
    ·rw[de<|by simp,eI e,fp e];rfl
    ·rw[de<|by simp,de e,en e];rfl
   ·rw[en (show¬ (A.length:Int)<(((A++B).length:Nat):Int)by omega),en c]
    rfl
theorem aBw{A B:List Row}{k:UB}(d:2000000<=n)(c:(A++B).length<=1000000)(aT:∀r∈A,Op.bytesLess r.Key k=true)(b:∀r∈B,Op.bytesLess r.Key k=false):
 Ea n (A++B) k=some ((A.length:Int),decide (0<B.length)&&decide ((B.getD 0 default).Key=k)):=by
 unfold Ea YD;have h:=aBu (n:=n) c aT b n 0 (A++B).length (by omega) (rZ _) (by simp)<|fS _
 rw[show((0:Nat):Int)=0 from rfl]at h
 rw[h,aj]
end
def KX{r:Row}{eQ a:Int}:jo r eQ a=true↔r.aR.length≠0/\(r.aR.getD 0 default).aY.Cc≠0/\∀i,i<r.aR.length->qv r eQ a i=true:=by
 unfold jo;rw[cb,hN,hh,lG,iv,iv,and_assoc]
def Bq{r:Row}{eQ a:Int}{i:Nat}(hi:i<=2^63-1):qv r eQ a i=true↔(eQ<=(r.aR.getD i default).br/\(r.aR.getD i default).br<=a/\gS (r.aR.getD i default).aY=true)/\
 (0<i->(r.aR.getD (i-1) default).br<(r.aR.getD i default).br/\rC (r.aR.getD i default).aY (r.aR.getD (i-1) default).aY=false):=by
 unfold qv;cases i with
 |zero=>
  rw[show decide (0<((0:Nat):Int))=false from rfl]
  simp only[cb,hh,iv,jH,YY,lY,Int.not_lt,hS,false_implies,and_assoc]
 |succ i=>
  rw[show decide (0<((i+1:Nat):Int))=true from fp (by omega),A5 i<|by omega,Nat.add_sub_cancel]
  simp only[cb,hh,iv,iP,Int.not_lt,lG,Int.not_le,Nat.succ_pos,true_implies,and_assoc]
def amc{a b:bJ}:rC a b=true↔a=b:=by
 unfold rC;let⟨k,x,s⟩:=a;let⟨e,d,c⟩:=b;simp
def aBx{a b:bJ}(h:rC a b=false):rC b a=false:=by
 cases h2:rC b a with
 |false=>rfl
 |true=>rw[amc]at h2;subst h2;rw[amc.2 rfl]at h;cases h
section
variable {eQ c:Int} {r:Row}
theorem aBy{a:Int}(f:r.aR.length<=1000000)(h:jo r eQ c=true)(d:c<=a):jo r eQ a=true:=by
 rw[KX]at h ⊢;refine⟨h.1,h.2.1,λi e=>?_⟩
 have b:=h.2.2 i e;rw[Bq<|by omega]at b ⊢
 exact⟨⟨b.1.1,by omega,b.1.2.2⟩,b.2⟩
theorem aBz{k:UB}{a:Int}{v:bJ}(f:eQ<=a)(b:gS v=true)(d:v.Cc≠0):jo ⟨k,[⟨a,v⟩]⟩ eQ a=true:=by
 rw[KX];refine⟨by simp,d,λi e=>?_⟩
 obtain rfl:i=0:=by simpa using e
 rw[Bq<|by omega]
 exact⟨⟨f,wV _,b⟩,λh=>absurd h<|hS _⟩
theorem aBA{a:Int}{v:bJ}(p:r.aR.length<=1000000)(h:jo r eQ c=true)(n:c<a)(m:eQ<=a)(k:gS v=true)(f:rC v (r.aR.getD (r.aR.length-1) default).aY=false):jo ⟨r.Key,r.aR++[⟨a,v⟩]⟩ eQ a=true:=by
 have e:∀i,i<r.aR.length->(r.aR++[(⟨a,v⟩:Br)]).getD i default=r.aR.getD i default:=λi d=>by simp[List.getD,iw d]
 have l:(r.aR++[(⟨a,v⟩:Br)]).getD r.aR.length default=⟨a,v⟩:=by simp[List.getD]
 rw[KX]at h ⊢;have o:=h.1;refine⟨by simp,?_,λi d=>?_⟩
 ·show((r.aR++[(⟨a,v⟩:Br)]).getD 0 default).aY.Cc≠0
  rw[e 0<|by omega];exact h.2.1
 ·have d:i<r.aR.length+1:=by simpa using d
  rw[Bq<|by omega]
  show((eQ<=((r.aR++[(⟨a,v⟩:Br)]).getD i default).br/\((r.aR++[(⟨a,v⟩:Br)]).getD i default).br<=a/\gS ((r.aR++[(⟨a,v⟩:Br)]).getD i default).aY=true)/\
   (0<i->((r.aR++[(⟨a,v⟩:Br)]).getD (i-1) default).br<((r.aR++[(⟨a,v⟩:Br)]).getD i default).br/\rC ((r.aR++[(⟨a,v⟩:Br)]).getD i default).aY ((r.aR++[(⟨a,v⟩:Br)]).getD (i-1) default).aY=false))
  by_cases g:i<r.aR.length
  ·have b:=h.2.2 i g;rw[Bq<|by omega]at b
   rw[e i g];refine⟨⟨b.1.1,by omega,b.1.2.2⟩,λj=>?_⟩
   rw[e (i-1)<|by omega]
   exact b.2 j
  ·obtain rfl:i=r.aR.length:=by omega
   rw[l];refine⟨⟨m,wV _,k⟩,λj=>?_⟩
   rw[e (r.aR.length-1)<|by omega]
   have b:=h.2.2 (r.aR.length-1) (by omega)
   rw[Bq<|by omega]at b
   exact⟨by show _<a;omega,f⟩
theorem ame{a:Int}:∀{l:List Br},(∀w∈l,w.br<=a)->iB a l=l.length
 |[],_=>rfl
 |v::l,h=>by
  unfold iB;rw[eI<|h v<|by simp,ame λw b=>h w<|by simp[b]];rfl
theorem aci{a b:Int}{v:bJ}(d:a<b):∀l:List Br,iB a (l++[⟨b,v⟩])=iB a l
 |[]=>by
  show iB a [⟨b,v⟩]=0
  unfold iB;rw[de (by show¬ b<=a;omega)]
 |w::l=>by
  show iB a (w::(l++[⟨b,v⟩]))=_
  unfold iB;rw[aci d l]
theorem amf(e:r.aR.length<=1000000)(h:jo r eQ c=true):lN c r=(r.aR.getD (r.aR.length-1) default).aY:=by
 rw[KX]at h
 have:iB c r.aR=r.aR.length:=ame λw b=>by
  obtain⟨i,d,rfl⟩:=yf b;have a:=h.2.2 i d;rw[Bq<|by omega]at a
  exact a.1.2.1
 unfold lN;rw[this,de h.1]
theorem aBB{a b:Int}{v:bJ}{k:UB}(e:a<b):lN a ⟨k,r.aR++[⟨b,v⟩]⟩=lN a r:=by
 have h:=Sa a r.aR;unfold lN;rw[show iB a (⟨k,r.aR++[⟨b,v⟩]⟩:Row).aR=iB a r.aR from aci e _]
 by_cases d:iB a r.aR=0
 ·rw[eI d,eI d]
 ·rw[de d,de d];show((r.aR++[(⟨b,v⟩:Br)]).getD _ default).aY=_
  congr 1
  simp[List.getD,iw (show iB a r.aR-1<r.aR.length by omega)]
theorem aBC{a b:Int}{v:bJ}{k:UB}(d:a<b):(lN a ⟨k,[⟨b,v⟩]⟩).Cc=0:=by
 unfold lN;rw[show iB a (⟨k,[⟨b,v⟩]⟩:Row).aR=0 from aci d [],eI rfl]
end
def KY{a:Int}:∀A B:List Row,iG a (A++B)=iG a A++iG a B
 |[],_=>rfl
 |r::A,B=>by
  simp only[gk,iG,KY A B];split<;>rfl
def aBD{a:Int}{r q:Row}{B:List Row}(c:q.Key=r.Key)(b:lN a q=lN a r):iG a (q::B)=iG a (r::B):=by
 unfold iG;rw[b,c]
def aBE{a:Int}{q:Row}{B:List Row}(b:(lN a q).Cc=0):iG a (q::B)=iG a B:=by
 conv=>lhs;unfold iG
 rw[eI b]
def amg{B:List UB}:∀{A:List UB},kS (A++B)->kS B
 |[],h=>h
 |_::A,h=>amg (A:=A) h.2
def amh{k:UB}{B:List UB}(b:∀j∈B,Op.bytesLess k j=true):∀{A:List UB},kS (A++B)->(∀j∈A,Op.bytesLess j k=true)->kS (A++k::B)
 |[],h,_=>⟨b,h⟩
 |a::A,h,aT=>by
  refine⟨λj hj=>?_,amh b h.2 λj hj=>aT j<|by simp[hj]⟩
  rcases jN.1 hj with hj|hj
  ·exact h.1 j (by simp[hj])
  ·rcases gh.1 hj with rfl|hj
   ·exact aT a (by simp)
   ·exact h.1 j (by simp[hj])
def aBF{a b:UB}(h:Op.bytesLess a b=false)(c:a≠b):Op.bytesLess b a=true:=by
 have d:=qt a b;rw[h,YY]at d;have ah:=d.symm;simp only[mu,fx]at ah;rcases ah with ah|ah
 ·exact ah
 ·exact absurd ah.symm c
section
variable {n:Nat} (f:2000000<=n) (d:n<=2^63) {eQ c:Int} (h:eQ<=c) {V:Nat} (g:V<=1000)
include f d h g
theorem ami:∀(W:List aQ) (R:List Row),kS (W.map (·.Key))->(∀p∈W,fY p.Key=true/\gS p.aY=true)->kS (R.map (·.Key))->(∀r∈R,fY r.Key=true/\jo r eQ (c+1)=true/\r.aR.length<=V+1)->
 (∀p∈W,∀r∈R,r.Key=p.Key->jo r eQ c=true/\r.aR.length<=V)->R.length+W.length<=10000->
 ∃m,w6 (Ea n) (p7 n) (c+1) c W R=some m/\kS (m.map (·.Key))/\(∀r∈m,fY r.Key=true/\jo r eQ (c+1)=true/\r.aR.length<=V+1)/\m.length<=R.length+W.length/\∀a,a<=c->iG a m=iG a R
 |[],R,_,_,t,o,_,_=>⟨R,rfl,t,o,by simp,λ_ _=>rfl⟩
 |p::W,R,Z,X,t,o,w,hlen=>by
  have Ln:R.length+(W.length+1)<=10000:=hlen;have O:=X p (by simp)
  have K:=λm=>ami W m Z.2 λq l=>X q (by simp[l])
  have amj:∀q∈W,p.Key≠q.Key:=λq l e=>by
   have s:=Z.1 q.Key<|jk.2 ⟨q,l,rfl⟩;have s:Op.bytesLess p.Key q.Key=true:=s;rw[e,ayj]at s;cases s
  obtain⟨A,B,rfl,aT,bT⟩:=al_ (k:=p.Key) t;have aD5:(A++B).length=A.length+B.length:=kv;have U:=aBw (k:=p.Key) f (by omega) aT bT
  unfold w6;rw[U,aj];by_cases H:0<B.length/\(B.getD 0 default).Key=p.Key
  · -- jX row SR
   obtain⟨b,i,rfl⟩:∃b i,B=b::i:=by
    cases B with
    |nil=>simp at H
    |cons b i=>exact⟨b,i,rfl⟩
   have Y:b.Key=p.Key:=H.2;have hg:(A++b::i).getD A.length default=b:=by simp[List.getD]
   have J:b∈A++b::i:=by simp
   let⟨h0,tj⟩:=w p (by simp) b J Y
   have aaI:(b::i).length=i.length+1:=rfl;rw[fp H.1,fp H.2];simp only[nG,UL,US];rw[bW<|by omega,aF,hg,alQ (by omega) d,aj,amf (by omega) h0]
   obtain⟨u,hv⟩:∃u,(b.aR.getD (b.aR.length-1) default).aY=u:=⟨_,rfl⟩;rw[hv];cases I:rC u p.aY with
   |true=>
    have I:(decide (u.Cc=p.aY.Cc)&&(decide (u.N=p.aY.N)&&(decide (u.S=p.aY.S)&&true)))=true:=I;rw[I,UL];let⟨m,E,z,y,T,x⟩:=K (A++b::i) t o (λq l=>w q<|by simp[l]) (by omega)
    exact⟨m,E,z,y,by show _<=_+(W.length+1);omega,x⟩
   |false=>
    have F6:(decide (u.Cc=p.aY.Cc)&&(decide (u.N=p.aY.N)&&(decide (u.S=p.aY.S)&&true)))=false:=I;rw[F6,UK,iF<|by omega,aF]
    have lS:(A++b::i).set A.length ⟨b.Key,b.aR++[⟨c+1,p.aY⟩]⟩=A++⟨b.Key,b.aR++[⟨c+1,p.aY⟩]⟩::i:=by
     rw[List.set_append_right _ _<|fS _,tL];rfl
    rw[lS];have L:jo ⟨b.Key,b.aR++[⟨c+1,p.aY⟩]⟩ eQ (c+1)=true:=aBA (by omega) h0 (by omega) (by omega) O.2 (by rw[hv];exact aBx I)
    let⟨m,E,z,y,T,x⟩:=K (A++⟨b.Key,b.aR++[⟨c+1,p.aY⟩]⟩::i) (by simpa using t) (λr hm=>by
     rcases jN.1 hm with hm|hm
     ·exact o r (by simp[hm])
     ·rcases gh.1 hm with rfl|hm
      ·exact⟨(o b J).1,L,by simp;omega⟩
      ·exact o r<|by simp[hm]) (λq l r hm F=>by
     rcases jN.1 hm with hm|hm
     ·exact w q (by simp[l]) r (by simp[hm]) F
     ·rcases gh.1 hm with rfl|hm
      ·exact absurd (Y.symm.trans F)<|amj q l
      ·exact w q (by simp[l]) r (by simp[hm]) F) (by
     have:(A++⟨b.Key,b.aR++[⟨c+1,p.aY⟩]⟩::i).length=(A++b::i).length:=by simp
     omega)
    refine⟨m,E,z,y,?_,λa Q=>?_⟩
    ·have:(A++⟨b.Key,b.aR++[⟨c+1,p.aY⟩]⟩::i).length=(A++b::i).length:=by simp
     show _<=_+(W.length+1)
     omega
    ·have js:iG a (⟨b.Key,b.aR++[⟨c+1,p.aY⟩]⟩::i)=iG a (b::i):=aBD rfl<|aBB (r:=b) (a:=a) (b:=c+1)<|by omega
     rw[x a Q,KY,KY,js]
  · -- no row SR
   have hd:(decide (0<B.length)&&decide ((B.getD 0 default).Key=p.Key))=false:=by
    rw[xW,iv,iv];by_cases s:0<B.length
    ·exact .inr λh2=>H ⟨s,h2⟩
    ·exact .inl s
   have ge:∀r∈B,Op.bytesLess p.Key r.Key=true:=by
    cases B with
    |nil=>intro r o;cases o
    |cons b i=>
     have s:Op.bytesLess p.Key b.Key=true:=aBF (bT b<|by simp) λe=>H ⟨by simp,e⟩
     intro r hm;rcases gh.1 hm with rfl|hm
     ·exact s
     ·rw[vS]at t;have h2:=amg (B:=(b::i).map (·.Key)) (A:=A.map (·.Key)) t;exact RE _ _ _ s<|h2.1 r.Key<|jk.2 ⟨r,hm,rfl⟩
   rw[hd,UK];by_cases M:p.aY.Cc=0
   ·rw[fp M,UL];let⟨m,E,z,y,T,x⟩:=K (A++B) t o (λq l=>w q<|by simp[l]) (by omega)
    exact⟨m,E,z,y,by show _<=_+(W.length+1);omega,x⟩
   ·rw[en M,UK];simp only[US];rw[AM<|by omega,aF,iF<|by omega,aF,List.take_left,xF]
    have L:jo ⟨p.Key,[⟨c+1,p.aY⟩]⟩ eQ (c+1)=true:=aBz (by omega) O.2 M
    have LB:(A++⟨p.Key,[⟨c+1,p.aY⟩]⟩::B).length=(A++B).length+1:=by simp;omega
    let⟨m,E,z,y,T,x⟩:=K (A++⟨p.Key,[⟨c+1,p.aY⟩]⟩::B) (by
     rw[vS,kz];rw[vS]at t;refine amh (λj P=>?_) t<|λj P=>?_
     ·obtain⟨r,hm,rfl⟩:=jk.1 P;exact ge r hm
     ·obtain⟨r,hm,rfl⟩:=jk.1 P;exact aT r hm) (λr hm=>by
     rcases jN.1 hm with hm|hm
     ·exact o r (by simp[hm])
     ·rcases gh.1 hm with rfl|hm
      ·exact⟨O.1,L,by simp⟩
      ·exact o r<|by simp[hm]) (λq l r hm F=>by
     rcases jN.1 hm with hm|hm
     ·exact w q (by simp[l]) r (by simp[hm]) F
     ·rcases gh.1 hm with rfl|hm
      ·exact absurd F<|amj q l
      ·exact w q (by simp[l]) r (by simp[hm]) F) (by omega)
    refine⟨m,E,z,y,?_,λa Q=>?_⟩
    ·show _<=_+(W.length+1)
     omega
    ·rw[x a Q,KY,KY,aBE<|aBC (a:=a) (b:=c+1)<|by omega]
end
def aBH{v:bJ}(h:gS v=true):v.S.length<=64:=by
 unfold gS at h;split at h
 ·simp only[cb,fx]at h;rw[h.2];simp
 ·split at h
  ·simp only[fx]at h;rw[h];simp
  ·unfold kc at h;simp only[cb,fx]at h;exact h.2.2
def aml{k:UB}(h:fY k=true):k.length<=24:=by
 unfold fY at h;simp only[cb,fx]at h;exact h.1.2
def KZ{s:aq}(j:s.Rows.length<=1000000):gN s=true↔(0<=s.bu/\s.bu<=s.bi/\s.bi<=1099511627776)/\kS (s.Rows.map (·.Key))/\∀r∈s.Rows,fY r.Key=true/\jo r s.bu s.bi=true:=by
 constructor
 ·intro h;have b:=aA5 h j;unfold gN at h;simp only[cb,hN,hh,lG,iv]at h;refine⟨⟨by omega,by omega,by omega⟩,b,λr g=>?_⟩
  obtain⟨i,a,rfl⟩:=yf g;exact⟨(h.2 i a).1.1,(h.2 i a).2⟩
 ·rintro ⟨⟨b,l,m⟩,f,k⟩
  unfold gN;rw[cb,hN,en (show¬ s.bu<0 by omega),en (show¬ s.bi<s.bu by omega),en (show¬ 1099511627776<s.bi by omega)]
  refine⟨rfl,λi a=>?_⟩
  let⟨e,d⟩:=k _<|nJ a;rw[e,d,oP,iP];cases i with
  |zero=>rfl
  |succ i=>
   have c:=abF _ i f (by rw[jz];exact a)
   rw[uM s.Rows (·.Key) i<|by omega,uM s.Rows (·.Key) (i+1) a]at c
   rw[A5 i<|by omega,c,U4]
def acj{n:Nat}(l:2000000<=n){s:aq}(g:s.Rows.length<=1000000)(d:∀r∈s.Rows,r.aR.length<=1000000)(h:gN s=true):s0 n s:=by
 rw[KZ g]at h;refine⟨by omega,λi=>lM (P:=A9 n) (λk a=>?_) ((KN (n:=n)<|by omega).st.row 0) i⟩
 let⟨f,b⟩:=h.2.2 _<|nJ a;have p:=aml f;have o:=d _<|nJ a;rw[KX]at b;refine⟨by omega,by omega,λj=>lM (P:=λx:Br=>x.aY.S.length<n) (λm e=>?_) (by show 0<n;omega) j⟩
 have c:=b.2.2 m e;rw[Bq<|by omega]at c
 have:=aBH c.1.2.2
 omega
section
variable {n:Nat} (b:2000000<=n) (c:n<=2^63)
include b c
theorem aBI{l:List aQ}(e:l.length<n)(h:∀i,oV n<|l.getD i default):P2 n l=some (rz l):=by
 unfold P2 rz;rw[iA (L:=Eb n l) (no:=false) (yes:=true) e,mi]
 ·intro m i a;have d:=h i;simp only[Eb,P1,UP,a,YW,UL,bW a,aF,aj,US,cu (show i<=2^63-2 by omega),Ky (show 24<n by omega),mh a (show l.length<=2^63-1 by omega)]
  rw[show sh n ⟨((l.getD i default).aY).Cc,((l.getD i default).aY).N,((l.getD i default).aY).S⟩=_ from KA (v:=(l.getD i default).aY) (by have:=d.2;omega) (by have:=d.2;omega)]
  cases hk:fY (l.getD i default).Key
  ·simp only[YY,UR,UK,UL,aj,kI,aF,jH];rfl
  ·simp only[YY,UR,UK,UL,aj,mh a (show l.length<=2^63-1 by omega),aF,iP]
   exact iT (by simp only[dU,ew,nD,oL,lb,<-qt])
 ·intro m;simp only[Eb,P1,YE,UZ,UN,UK]
theorem aBJ{l:List aQ}(e:l.length<n)(h:∀i,oV n<|l.getD i default):xm n l=some ((allI l.length λi=>gS (l.getD i default).aY)&&allI l.length λi=>fY (l.getD i default).Key&&(!decide (0<(i:Int))||Op.bytesLess (l.getD (pv i) default).Key (l.getD i default).Key)):=by
 have f:DB n l=some (allI l.length λi=>fY (l.getD i default).Key&&(!decide (0<(i:Int))||Op.bytesLess (l.getD (pv i) default).Key (l.getD i default).Key)):=by
  unfold DB;rw[iA (L:=vJ n l) (no:=false) (yes:=true) e,mi]
  ·intro m i a;have d:=h i;simp only[vJ,DA,UP,a,YW,UL,bW a,aF,aj,US,cu (show i<=2^63-2 by omega),Kz (show(l.getD i default).Key.length<n by have:=d.1;omega) (by have:=d.1;omega),A4 a,mh a (show l.length<=2^63-1 by omega),U4]
   exact iT (by simp only[dU,ew,nD,oL,lb,<-qt])
  ·intro m;simp only[vJ,DA,OR,UZ,UN,UK]
 unfold xm;rw[iA (L:=vK n l) (U2:=λi=>gS (l.getD i default).aY) (no:=false) (yes:=allI l.length λi=>fY (l.getD i default).Key&&(!decide (0<(i:Int))||Op.bytesLess (l.getD (pv i) default).Key (l.getD i default).Key)) e,sX]
 ·intro m i a;have d:=h i;simp only[vK,DC,UP,a,YW,UL,bW a,aF,aj,US,cu (show i<=2^63-2 by omega),KB (show(l.getD i default).aY.S.length<n by have:=d.2;omega) (by have:=d.2;omega)]
  exact iT rfl
 ·intro m;simp only[vK,DC,OS,UZ,UN,UK,f,aj]
omit b c in
theorem aBK{l:List aQ}(j:l.length<=1000000)(h:((allI l.length λi=>gS (l.getD i default).aY)&&allI l.length λi=>fY (l.getD i default).Key&&(!decide (0<(i:Int))||Op.bytesLess (l.getD (pv i) default).Key (l.getD i default).Key))=true):
 rz l=true/\kS (l.map (·.Key))/\∀p∈l,fY p.Key=true/\gS p.aY=true:=by
 simp only[cb,hN]at h;let⟨e,d⟩:=h;refine⟨?_,R1 _ λi a=>?_,λp g=>?_⟩
 ·unfold rz;rw[hN];intro i a;rw[(d i a).1,e i a,(d i a).2];rfl
 ·rw[jz]at a;have f:=(d (i+1) a).2;rw[A5 i<|by omega,show decide (0<((i+1:Nat):Int))=true from fp (by omega),UR,jJ]at f
  rw[uM l (·.Key) i<|by omega,uM l (·.Key) (i+1) a]
  exact f
 ·obtain⟨i,a,rfl⟩:=yf g;exact⟨(d i a).1,e i a⟩
theorem aBL{s:aq}{W:List aQ}{V:Nat}(j:gN s=true)(z:s.Rows.length+W.length<=10000)(q:V<=1000)(g:∀r∈s.Rows,r.aR.length<=V)(m:∀i,oV n<|W.getD i default)(h:rz W=true)(l:kS<|W.map (·.Key))(A:∀p∈W,fY p.Key=true/\gS p.aY=true)(o:s.bi+1<=1099511627776):
 ∃e,xu n s (s.bi+1) W=some (⟨s.bu,s.bi+1,e⟩,0)/\gN ⟨s.bu,s.bi+1,e⟩=true/\e.length<=s.Rows.length+W.length/\(∀r∈e,r.aR.length<=V+1)/\∀a,a<=s.bi->iG a e=iG a s.Rows:=by
 have f:=(KZ<|by omega).1 j
 let⟨e,x,w,k,u,t⟩:=ami b c f.1.2.1 q W s.Rows l A f.2.1 (λr d=>⟨(f.2.2 r d).1,aBy (by have:=g r d;omega) (f.2.2 r d).2<|by omega,by have:=g r d;omega⟩) (λp _ r d _=>⟨(f.2.2 r d).2,g r d⟩) z
 refine⟨e,?_,?_,u,λr d=>(k r d).2.2,t⟩
 ·unfold xu;rw[Fj (by omega) c<|acj b (by omega) (λr d=>by have:=g r d;omega) j,aj,j]
  simp only[UR,UK];rw[aBI b c (by omega) m,aj,h]
  simp only[UR,UK];rw[en (show¬ s.bi+1<=s.bi by omega),en (show¬ 1099511627776<s.bi+1 by omega)]
  simp only[si,UK]
  have y:zl s.Rows=true:=by
   unfold zl;rw[iF<|by omega,iP,gK]
   exact λr d=>iF (by have:=g r d;omega)
  rw[y,aF,show bF W.length=true from dW (by omega),aF,x,aj]
 ·rw[KZ (by show e.length<=_;omega)]
  exact⟨⟨f.1.1,by show s.bu<=s.bi+1;omega,o⟩,w,λr d=>⟨(k r d).1,(k r d).2.1⟩⟩
end
abbrev Sd(r:bK):bK:=⟨r.Pos,⟨0,0,[]⟩,r.bY,r.b7,r.EG,r.be,r.EK,r.cN⟩
def kT(r:bK)(W:List aQ)(T:List UB):ej:=⟨r.Pos,Sd r,[],true,W,T⟩
def ow(r:bK)(W:List aQ)(T:List UB)(j:Nat):ej:=⟨r.Pos,Sd r,if j=0 then[]else qy W j,false,W.take j,T⟩
section
variable {r:bK} {W:List aQ} {T:List UB}
theorem aBM{s:aq}(a:gN s=true){k:Int}(b:1<=k):Bp (kT r W T) s k=(kT r W T,0):=by
 unfold Bp kT;rw[en (show¬ k<1 by omega),a,show jn []=true from rfl]
 rfl
theorem amm{s:aq}(a:gN s=true)(d:hU s r.Pos=(W,0))(e:kS<|W.map (·.Key))(b:∀p∈W,fY p.Key=true){j:Nat}(m:j=0\/j<W.length){k:Int}(l:1<=k):
 Bp (ow r W T j) s k=(if j+k.toNat<W.length then ow r W T (j+k.toNat)else kT r W T,0):=by
 have g:jn (ow r W T j).Next=true:=by
  unfold ow;by_cases c:j=0
  ·rw[eI c];rfl
  ·rw[de c];unfold qy;have:j<W.length:=by omega
   rw[eI this];exact aBh<|b _<|nJ this
 have i:nO (ow r W T j).Next W=W.drop j:=by
  unfold ow;by_cases c:j=0
  ·subst c;rw[eI rfl,aBj,gj]
  ·rw[de c];unfold qy;have:j<W.length:=by omega
   rw[eI this];exact al1 e this
 unfold Bp;rw[en (show¬ k<1 by omega),a,g,show(ow r W T j).dO=false from rfl,show(ow r W T j).br=r.Pos from rfl,d]
 simp only[UR,si,UK,YW];rw[i];by_cases h:j+k.toNat<W.length
 ·have f:k.toNat<(W.drop j).length:=by rw[od];omega
  rw[eI h,en<|by omega]
  unfold ow qy;simp only[eI f,de (show¬ j+k.toNat=0 by omega),eI h]
  rw[show(W.drop j).getD k.toNat default=W.getD (j+k.toNat) default by simp[List.getD],xI]
 ·have f:(W.drop j).length<=k.toNat:=by rw[od];omega
  rw[de h,fp f,re f];unfold ow kT qy;simp only[de (show¬ k.toNat<(W.drop j).length by omega),pK]
def Bs(r:bK)(W:List aQ)(T:List UB)(c:ej):Prop:=c=kT r W T\/∃j,(j=0\/j<W.length)/\c=ow r W T j
theorem aBN{s:aq}(a:gN s=true)(d:hU s r.Pos=(W,0))(e:kS<|W.map (·.Key))(b:∀p∈W,fY p.Key=true){c:ej}(l:Bs r W T c){k:Int}(f:1<=k):∃g,Bp c s k=(g,0)/\Bs r W T g:=by
 rcases l with rfl|⟨j,i,rfl⟩
 ·exact⟨_,aBM a f,.inl rfl⟩
 ·refine⟨_,amm a d e b i f,?_⟩
  by_cases h:j+k.toNat<W.length
  ·rw[eI h];exact .inr ⟨_,.inr h,rfl⟩
  ·rw[de h];exact .inl rfl
theorem amn{n:Nat}(u:2000<=n)(l:W.length<=60)(g:T.length<=40)(b:∀p∈W,fY p.Key=true){c:ej}(d:Bs r W T c):FD n c:=by
 rcases d with rfl|⟨j,f,rfl⟩
 ·exact⟨by show 0<n;omega,by show 0<=_;omega,by show W.length<=_;omega,by show T.length<=_;omega⟩
 ·have e:(ow r W T j).Next.length<=24:=by
   unfold ow qy;by_cases a:j=0
   ·simp only[eI a];simp
   ·simp only[de a];by_cases h:j<W.length
    ·rw[eI h];exact aml<|b _<|nJ h
    ·rw[de h];simp
  exact⟨by omega,by omega,by show(W.take j).length<=_;rw[jF];omega,by show T.length<=_;omega⟩
theorem aBO{c:ej}(b:Bs r W T c)(x:UB):Bs r W (T++[x]) ⟨c.br,c.Fa,c.Next,c.dO,c.fg,c.dg++[x]⟩:=by
 rcases b with rfl|⟨j,a,rfl⟩
 ·exact .inl rfl
 ·exact .inr ⟨j,a,rfl⟩
variable {n:Nat} (u:100000000<=n) (o:n<=2^63) {s:aq} (a:gN s=true) (t:s.Rows.length<=5000) (f:∀q∈s.Rows,q.aR.length<=1000) (d:hU s r.Pos=(W,0)) (e:kS<|W.map (·.Key)) (b:∀p∈W,fY p.Key=true) (l:W.length<=60) (g:T.length<=40)
include u o a t f d e b l g
theorem aBP(w:Eo n T r (kT r W T)=some true):∀m i c,61<m+i->i<=61->(c=kT r W T\/∃j,(j=0\/j<W.length)/\i<=j/\c=ow r W T j)->
 I' n T r s.bu s.bi s.Rows m c (i:Int)=some true:=by
 intro m;induction m with
 |zero=>intro i c B w;omega
 |succ m z=>
  intro i c F E x;simp only[I',YS];rcases x with rfl|⟨j,k,H,rfl⟩
  ·rw[show(kT r W T).dO=true from rfl]
   simp only[UR,ew,kL,UK];exact w
  ·have A:i<61:=by omega
   rw[show(ow r W T j).dO=false from rfl,fp (show(i:Int)<61 by omega)]
   simp only[YY,UL];rw[alZ (by omega) o (acj (by omega) (by omega) (λq y=>by have:=f q y;omega) a) t<|amn (by omega) l g b<|.inr ⟨j,k,rfl⟩,aj,amm a d e b k<|by omega]
   simp only[YW,UR,UK];rw[show YV ((i:Int)+1)=((i+1:Nat):Int)by rw[wr]<;>omega]
   refine z (i+1) _ (by omega) (by omega) ?_
   rw[show(1:Int).toNat=1 from rfl]
   by_cases h:j+1<W.length
   ·rw[eI h];exact .inr ⟨j+1,.inr h,by omega,rfl⟩
   ·rw[de h];exact .inl rfl
theorem aBQ(k:Eo n T r (kT r W T)=some true){c:ej}(i:Bs r W T c):Qi n r c s.bu s.bi s.Rows T=some true:=by
 unfold Qi;refine aBP u o a t f d e b l g k n 0 c (by omega) (by omega) ?_
 rcases i with rfl|⟨j,h,rfl⟩
 ·exact .inl rfl
 ·exact .inr ⟨j,h,rZ _,rfl⟩
end
end Go.Ab.Y

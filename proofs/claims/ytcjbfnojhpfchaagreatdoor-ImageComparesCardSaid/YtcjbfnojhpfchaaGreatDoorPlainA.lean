/- The plain law: what the functions compute answers as the statement says. -/
import Derived.Lib.ItoaNum
import Derived.Test.YtcjbfnojhpfchaaGreatDoorCtrB
set_option linter.all false
namespace Go.Ab.Y
open Go Go.Ab Go.Proofs
def aug{h:Decidable True}:@decide True h=true:=_root_.decide_true h
def auh{h:Decidable False}:@decide False h=false:=_root_.decide_false h
def auo:(∀n:Nat,(n:Int).toNat=n)∧∀(α:Type)(_:Inhabited α)(l:List α)(n:Nat),auA l n=l.getD n default:=⟨λ_=>rfl,λ_ _ _ _=>rfl⟩
def aui{α:Type}{a b:α}:cond true a b=a:=rfl
def auj{α:Type}{a b:α}:cond false a b=b:=rfl
def auk:(!true)=false:=rfl
def aul:(!false)=true:=rfl
def aum{α:Type}{a:α}{l:List α}:(a::l).length=l.length+1:=rfl
def aun{α:Type}:([]:List α).length=0:=rfl
def aup{a b:Nat}:((a:Int)<b)↔a<b:=_root_.Int.ofNat_lt
def auq{α:Type}{a b:List α}:(a++b).length=a.length+b.length:=_root_.List.length_append
def aur{α:Type}{a:α}:[a].length=1:=rfl
def aus{α:Type}{b:Bool}{x y:α}:cond b x y=if b then x else y:=_root_.Bool.cond_eq_ite b x y
def aut(a:Int):¬a<a:=_root_.Int.lt_irrefl a
def auu(a:Bool):(a||true)=true:=_root_.Bool.or_true a
def auv{α:Type}{a b:α}{h:Decidable True}:@ite α True h a b=a:=_root_.if_true a b
def auw{α:Type}{a b:α}{h:Decidable False}:@ite α False h a b=b:=_root_.if_false a b
def wr{x:Int}(Z : -9223372036854775808≤x)(ab:x≤9223372036854775807):auz x=x:=by(try unfold auz);rw [IntKind.wrap_i64];omega
def bm{i:Nat}(h:i≤4611686018427387904):auz ((i:Int)+1)=((i+1:Nat):Int):=by rw [wr]<;>omega
def bw{i n:Nat}(h:i<n):aL (i:Int) n=true:=by simp [aL];omega
def ma{n:Nat}(h:0<n):aL 0 n=true:=by simp [aL];omega
def xI{i n:Nat}(h:i≤n):ho (i:Int) n=true:=by simp [ho];omega
def FQ{i j n:Nat}(h:i≤j)(ab:j≤n):lW (i:Int) (j:Int) n=true:=by simp [lW];omega
@[simp] def aK {α : Type} (x : Option α) : ax true x = x := rfl
def e9{α:Type}(l:List α)(i:Nat)(d:α)(h:i<l.length):l.drop i=l.getD i d::l.drop (i+1):=by
 rw [List.drop_eq_getElem_cons h];simp [List.getD,h]
def gu{α:Type}(l:List α)(i:Nat)(h:¬ i<l.length):l.drop i=[]:=List.drop_of_length_le (by omega)
def pu(a k:Nat):((a:Int)<(no_index (OfNat.ofNat k):Int))↔a<k:=Int.ofNat_lt
def jG(a k:Nat):((a:Int)≤(no_index (OfNat.ofNat k):Int))↔a≤k:=Int.ofNat_le
def eO(a k:Nat):((no_index (OfNat.ofNat k):Int)<(a:Int))↔k<a:=Int.ofNat_lt
def tj(a k:Nat):((no_index (OfNat.ofNat k):Int)≤(a:Int))↔k≤a:=Int.ofNat_le
def fs(a k:Nat):((a:Int)=(no_index (OfNat.ofNat k):Int))↔a=k:=Int.ofNat_inj
def dv(a b:Bool):(bif a then true else b)=(a||b):=by cases a<;>rfl
def eg(a b:Bool):(bif a then b else false)=(a&&b):=by cases a<;>rfl
def ak{α β:Type}(a:α)(f:α→Option β):Option.bind (some a) f=f a:=rfl
def okB(c:UInt8):Bool:=decide (32≤c.toNat)&&decide (c.toNat≤126)
def ju(s:aux):Bool:=s.all okB&&decide (s.length≤64)
def Bl(c:UInt8):(decide (c.toNat<32)||decide (126<c.toNat)) = !okB c:=by
 unfold okB;by_cases h:c.toNat<32
 ·simp [h]
 ·by_cases ab:c.toNat≤126
  ·simp [ab,show 32≤c.toNat by omega,h]
  ·simp [ab];omega
def alo(n:Nat)(s:aux)(hs:s.length≤4611686018427387904):∀m i,s.length<i+m→i≤s.length→zh n s m (i:Int)=some ((s.drop i).all okB&&decide (s.length≤64)):=by
 intro m;induction m with
 |zero=>intro i h ab;omega
 |succ m aG=>
  intro i hm hi;simp only [zh,PL,PK];by_cases h:i<s.length
  ·rw [e9 s i 0 h,bm (by omega),aG (i+1) (by omega) (by omega)]
   simp only [h,bw h,auo,aup,aug,aui,aK,auu,List.all_cons,pu,eO,dv,Bl];cases okB (s.getD i 0)<;>simp
  ·rw [gu s i h];simp [h,jG]
def aaG{n:Nat}{s:aux}(h:s.length<n)(hs:s.length≤4611686018427387904):PM n s=some (ju s):=alo n s hs n 0 (by omega) (by omega)
def alp(n:Nat)(s:aux)(hs:s.length≤4611686018427387904):∀m i,s.length<i+m→i≤s.length→EP n s m (i:Int)=some ((s.drop i).all okB):=by
 intro m;induction m with
 |zero=>intro i h ab;omega
 |succ m aG=>
  intro i hm hi;simp only [EP,RW,RV];by_cases h:i<s.length
  ·rw [e9 s i 0 h,bm (by omega),aG (i+1) (by omega) (by omega)]
   simp only [h,bw h,auo,aup,aug,aui,aK,auu,List.all_cons,pu,eO,dv,Bl];cases okB (s.getD i 0)<;>simp
  ·rw [gu s i h];simp [h,jG]
def alq{n:Nat}{s:aux}(h:s.length<n)(hs:s.length≤4611686018427387904):Kv n s=some (ju s):=by
 unfold Kv;rw [show(0:Int)=((0:Nat):Int)from rfl,alp n s hs n 0 (by omega) (by omega)]
 unfold ju;simp only [List.drop_zero,eO];by_cases h:64<s.length
 ·simp [h]
 ·simp [h];omega
def pw:List aux:=[[112,114,111,99],[108,101,116],[112,117,116],[100,101,108,101,116,101],[105,102],[101,108,115,101],[102,111,114],[116,111],[109,97,120],[101,109,105,116],[97,98,111,114,116],[110,111,116],[97,110,100],[111,114],[105,110,116],[115,116,114],[98,111,111,108],[116,101,120,116],[108,101,110],[103,101,116,105,110,116],[103,101,116,115,116,114],[104,97,115],[110,111,119],[114,97,110,100,111,109],[110,111,100,101]]
def tk(s:aux):Bool:=decide (s∈pw)
def aaH(n:Nat)(s:aux):Do n s=some (tk s):=by
 unfold tk;by_cases h:s∈pw
 ·simp only [h,aug];simp only [pw,List.mem_cons,List.not_mem_nil,or_false]at h;rcases h with rfl|rfl|rfl|rfl|rfl|rfl|rfl|rfl|rfl|rfl|rfl|rfl|rfl|rfl|rfl|rfl|rfl|rfl|rfl|rfl|rfl|rfl|rfl|rfl|rfl<;>rfl
 ·simp only [h,auh];simp only [pw,List.mem_cons,List.not_mem_nil,or_false,not_or]at h;simp only [Do,ip,Pq,h,auh,auj]
def alr(n:Nat)(l:List aux)(s:aux)(hs:l.length≤4611686018427387904):∀m i,l.length<i+m→i≤l.length→EJ n l s m (i:Int)=some (decide (s∈l.drop i)):=by
 intro m;induction m with
 |zero=>intro i h ab;omega
 |succ m aG=>
  intro i hm hi;simp only [EJ,RD,RC];by_cases h:i<l.length
  ·rw [e9 l i default h,bm (by omega),aG (i+1) (by omega) (by omega)]
   simp only [h,bw h,auo,aup,aug,aui,aK,List.mem_cons];by_cases he:l.getD i default=s
   ·simp only [he,aug,aui,true_or]
   ·simp only [he,auh,auj,show¬ s=l.getD i default from λx=>he x.symm,false_or]
  ·rw [gu l i h];simp [h]
def als(n:Nat):RB n=some pw:=rfl
def alt{n:Nat}(l:List aux)(s:aux)(h:l.length<n)(hs:l.length≤4611686018427387904):RE n l s=some (decide (s∈l)):=alr n l s hs n 0 (by omega) (by omega)
def aaI{n:Nat}(s:aux)(h:25<n):EK n s=some (tk s):=by
 unfold EK;simp only [als,ak];rw [alt pw s (by show 25<_;omega) (by decide)]
 rfl
def lL(c:UInt8):Bool:=decide (97≤c.toNat)&&decide (c.toNat≤122)
def Tj(n:Nat)(c:UInt8):AK n ((c.toNat:Nat):Int)=some (lL c):=by
 simp only [AK,eg,tj,jG,lL]
def alu{x:Nat}(h:x<256):IntKind.i32.wrap (x:Int)=x:=by rw [IntKind.wrap_i32];omega
def aaJ(n:Nat)(c:UInt8):Dp n (IntKind.i32.wrap ((c.toNat:Nat):Int))=some (lL c):=by
 rw [alu c.toNat_lt];simp only [Dp,eg,tj,jG,lL]
def aaK(n:Nat)(c:UInt8):EL n ((c.toNat:Nat):Int)=some (fQ c):=by
 simp only [EL,Tj,ak,RF,eg,dv,tj,jG,fs];unfold fQ lL;by_cases h:97≤c.toNat∧c.toNat≤122
 ·simp [h.1,h.2]
 ·have:(decide (97≤c.toNat)&&decide (c.toNat≤122))=false:=by simpa using h
  rw [this];simp only [aul,aui,ak,Bool.false_or,h,false_or,Bool.decide_or,Bool.decide_and]
def LZ(s:aux):hH s≤s.length:=by unfold hH;exact(List.takeWhile_prefix _).length_le
def u4(c:UInt8)(s:aux):hH (c::s)=bif fQ c then hH s+1 else 0:=by
 unfold hH;cases h:fQ c<;>simp [List.takeWhile,h]
def alv(n:Nat)(s:aux)(hs:s.length≤4611686018427387904):∀m i,s.length<i+m→i≤s.length→EM n s m (i:Int)=some (((i+hH (s.drop i):Nat):Int)):=by
 intro m;induction m with
 |zero=>intro i h ab;omega
 |succ m aG=>
  intro i hm hi;simp only [EM,RH,RG];by_cases h:i<s.length
  ·rw [e9 s i 0 h,bm (by omega),aG (i+1) (by omega) (by omega)]
   simp only [h,bw h,auo,aup,aug,aui,aK,auu,aaK,ak,u4];cases fQ (s.getD i 0)
   ·rfl
   ·simp only [aui,Option.some.injEq];omega
  ·rw [gu s i h];simp [h,hH]
def aaL{n:Nat}{s:aux}(i:Nat)(h:s.length<n)(hi:i≤s.length)(hs:s.length≤4611686018427387904):Kr n s (i:Int)=some (((i+hH (s.drop i):Nat):Int)):=alv n s hs n i (by omega) hi
def gv(s:aux):Bool:=
 match s with
 |[]=>false
 |c::l=>decide (l.length≤15)&&lL c&&decide (hH (c::l)=l.length+1) && !tk (c::l)
def Bm{n:Nat}(s:aux)(h:s.length<n)(ab:25<n)(hs:s.length≤4611686018427387904):s' n s=some (gv s):=by
 unfold s';cases s with
 |nil=>rfl
 |cons c l=>
  simp only [aaI _ ab,eg,tj,jG,aum,show 1≤l.length+1 by omega,aug,Bool.true_and,ma (show 0<l.length+1 by omega),auu,aK,List.getD_cons_zero,Tj]
  rw [show(0:Int)=((0:Nat):Int)from rfl,aaL 0 h (by omega) hs]
  simp only [List.drop_zero,Nat.zero_add,gv,Int.ofNat_inj,show(l.length+1≤16)=(l.length≤15)by rw [eq_iff_iff];omega]
  cases decide (l.length≤15)<;>simp only [Bool.false_and,auj,ak,Bool.true_and,aui]
  cases lL c<;>simp only [Bool.false_and,auj,ak,Bool.true_and,aui,Int.ofNat_inj]
  cases decide (hH (c::l)=l.length+1)<;>simp only [Bool.false_and,auj,ak,Bool.true_and,aui]
def aaM(n:Nat)(s:aux)(h:s.length≤140737488351232):y1 n s=some ((hH s:Nat):Int):=by
 unfold y1;simp only [h,aug,aK]
def Bn(n:Nat)(s:aux)(h:s.length≤140737488351232):sQ n s=some (gv s):=by
 unfold sQ;cases s with
 |nil=>rfl
 |cons c l=>
  simp only [aaH,eg,tj,jG,aum,reduceCtorEq,auh,aul,Bool.true_and,ma (show 0<l.length+1 by omega),auu,aK,List.getD_cons_zero,aaJ,aaM _ _ h]
  simp only [gv,Int.ofNat_inj,show(l.length+1≤16)=(l.length≤15)by rw [eq_iff_iff];omega]
  cases decide (l.length≤15)<;>simp only [Bool.false_and,auj,ak,Bool.true_and,aui]
  cases lL c<;>simp only [Bool.false_and,auj,ak,Bool.true_and,aui,Int.ofNat_inj]
  cases decide (hH (c::l)=l.length+1)<;>simp only [Bool.false_and,auj,ak,Bool.true_and,aui]
def jH(op:Int):Int:=bif decide (op<1)||decide (27<op)then -1 else bif decide (op≤3)||decide (25≤op)then 0 else bif decide (op=9)||decide (op=18)||decide (20≤op)then 1 else 2
def alw(n:Nat)(op:Int):Il n op=some (jH op):=by
 simp only [Il,jH,dv];cases decide (op<1)||decide (27<op)<;>simp only [aui,auj]
 cases decide (op≤3)||decide (25≤op)<;>simp only [aui,auj]
 cases decide (op=9)||decide (op=18)||decide (20≤op)<;>rfl
def alx(n:Nat)(op:Int):EO n op=some (jH op):=by
 by_cases h:1≤op∧op≤27
 ·obtain rfl|rfl|rfl|rfl|rfl|rfl|rfl|rfl|rfl|rfl|rfl|rfl|rfl|rfl|rfl|rfl|rfl|rfl|rfl|rfl|rfl|rfl|rfl|rfl|rfl|rfl|rfl:op=1∨op=2∨op=3∨op=4∨op=5∨op=6∨op=7∨op=8∨op=9∨op=10∨op=11∨op=12∨op=13∨op=14∨op=15∨op=16∨op=17∨op=18∨op=19∨op=20∨op=21∨op=22∨op=23∨op=24∨op=25∨op=26∨op=27:=by omega
  all_goals rfl
 ·have ha:jH op = -1:=by
   unfold jH;by_cases Z:op<1
   ·simp [Z]
   ·simp [show 27<op by omega]
  have hb:(decide (4≤op)&&decide (op≤19))=false:=by
   by_cases Z:4≤op
   ·simp [Z];omega
   ·simp [Z]
  simp only [EO,uU,tb,RU,eg,hb,ha,show¬ op=1 by omega,show¬ op=2 by omega,show¬ op=3 by omega,show¬ op=25 by omega,show¬ op=26 by omega,show¬ op=27 by omega,show¬ op=9 by omega,show¬ op=18 by omega,show¬ op=20 by omega,show¬ op=21 by omega,show¬ op=22 by omega,show¬ op=23 by omega,show¬ op=24 by omega,auh,auj]
def px(e:Expr)(depth:Int):Int:=
 if jH e.Op<0∨(e.Op≠1∧e.N≠0)∨(e.Op≠2∧e.Op≠3∧e.S≠[])then 1
 else if e.Op=3∧gv e.S=false then 7
 else if e.N<0∨(e.Op=2∧ju e.S=false)∨(e.ar.length:Int)≠jH e.Op then 1
 else if 12<depth then 2 else 0
def aly{n:Nat}(e:Expr)(depth:Int)(h:e.S.length<n)(hs:e.S.length≤140737488351232):Im n e depth=some (px e depth):=by
 obtain⟨Op,N,S,ar⟩:=e;simp only at h hs
 simp only [Im,alw,ak,Bn _ _ hs,aaG h (by omega),px]
 by_cases Z:jH Op<0
 ·simp [Z]
 by_cases ab:Op=1
 ·subst ab;by_cases aT:S=[]
  ·by_cases bP:N<0
   ·simp [Z,aT,bP]
   ·by_cases cM:(ar.length:Int)=jH 1
    ·by_cases dj:12<depth<;>simp [Z,aT,bP,cM,dj]
    ·simp [Z,aT,bP,cM]
  ·simp [Z,aT]
 ·by_cases aj:N=0
  ·by_cases aC:Op=3
   ·subst aC;cases hn:gv S
    ·simp [Z,aj,hn]
    ·by_cases cM:(ar.length:Int)=jH 3
     ·by_cases dj:12<depth<;>simp [Z,aj,hn,cM,dj]
     ·simp [Z,aj,hn,cM]
   ·by_cases aT:Op=2
    ·subst aT;cases hn:ju S
     ·simp [Z,aj,hn]
     ·by_cases cM:(ar.length:Int)=jH 2
      ·by_cases dj:12<depth<;>simp [Z,aj,hn,cM,dj]
      ·simp [Z,aj,hn,cM]
    ·by_cases bP:S=[]
     ·by_cases cM:(ar.length:Int)=jH Op
      ·by_cases dj:12<depth<;>simp [Z,ab,aj,aC,aT,bP,cM,dj]
      ·simp [Z,ab,aj,aC,aT,bP,cM]
     ·simp [Z,ab,aj,aC,aT,bP]
  ·simp [Z,ab,aj]
def alz{n:Nat}(e:Expr)(depth:Int)(h:e.S.length<n)(ab:25<n)(hs:e.S.length≤140737488351232):Kw n e depth=some (px e depth):=by
 obtain⟨Op,N,S,ar⟩:=e;simp only at h hs
 simp only [Kw,alx,ak,Bm S h ab (by omega),alq h (by omega),px]
 clear ab;by_cases Z:jH Op<0
 ·simp [Z]
 by_cases ab:Op=1
 ·subst ab;by_cases aT:S=[]
  ·by_cases bP:N<0
   ·simp [Z,aT,bP]
   ·by_cases cM:(ar.length:Int)=jH 1
    ·by_cases dj:12<depth<;>simp [Z,aT,bP,cM,dj]
    ·simp [Z,aT,bP,cM]
  ·simp [Z,aT]
 ·by_cases aj:N=0
  ·by_cases aC:Op=3
   ·subst aC;cases hn:gv S
    ·simp [Z,aj,hn]
    ·by_cases cM:(ar.length:Int)=jH 3
     ·by_cases dj:12<depth<;>simp [Z,aj,hn,cM,dj]
     ·simp [Z,aj,hn,cM]
   ·by_cases aT:Op=2
    ·subst aT;cases hn:ju S
     ·simp [Z,aj,hn]
     ·by_cases cM:(ar.length:Int)=jH 2
      ·by_cases dj:12<depth<;>simp [Z,aj,hn,cM,dj]
      ·simp [Z,aj,hn,cM]
    ·by_cases bP:S=[]
     ·by_cases cM:(ar.length:Int)=jH Op
      ·by_cases dj:12<depth<;>simp [Z,ab,aj,aC,aT,bP,cM,dj]
      ·simp [Z,ab,aj,aC,aT,bP,cM]
     ·simp [Z,ab,aj,aC,aT,bP]
  ·simp [Z,ab,aj]
mutual
def da:Expr→Nat
 |⟨_,_,S,ar⟩=>30+S.length+mB ar
def mB:List Expr→Nat
 |[]=>0
 |x::l=>da x+1+mB l
end
def oQ(e:Expr):da e=30+e.S.length+mB e.ar:=by cases e;rfl
def Bo:∀l:List Expr,l.length≤mB l
 |[]=>Nat.le_refl _
 |x::l=>by have:=Bo l;simp only [mB,aum];omega
def Bp:∀(l:List Expr) (i:Nat),i<l.length→da (l.getD i default)<mB l
 |[],i,h=>by simp at h
 |x::l,0,h=>by simp only [mB,List.getD_cons_zero];omega
 |x::l,i+1,h=>by have:=Bp l i (by simpa using h);simp only [mB,List.getD_cons_succ];omega
def aaN:∀(n:Nat) (e:Expr),da e≤n→da e≤140737488351232→rE n e e=some true:=by
 intro n;induction n with
 |zero=>intro e h;rw [oQ]at h;omega
 |succ n aG=>
  intro e h aa;have tl:=oQ e;have py:=Bo e.ar;simp only [rE,JX,aug,auk,auj]
  have gR:∀m i,e.ar.length<i+m→i≤e.ar.length→uH n (rE n) e e m (i:Int)=some true:=by
   intro m;induction m with
   |zero=>intro i Z ab;omega
   |succ m la=>
    intro i Z ab;simp only [uH,EA,JW];by_cases hi:i<e.ar.length
    ·have hg:=Bp e.ar i hi;simp only [hi,bw hi,auo,aup,aug,aui,aK,aG (e.ar.getD i default) (by omega) (by omega),ak,bm (show i≤4611686018427387904 by omega),auk,auj]
     exact la (i+1) (by omega) (by omega)
    ·simp only [hi,aup,auh,auj]
  exact gR n 0 (by omega) (by omega)
open Go Go.Ab Go.Proofs
def ir(c:UInt8):Bool:=decide (48≤c.toNat)&&decide (c.toNat≤57)
def val(u:Nat)(l:aux):Nat:=l.foldl (λu c=>u*10+(c.toNat-48)) u
def FR(u:Nat):val u []=u:=rfl
def FSb(u:Nat)(c:UInt8)(l:aux):val u (c::l)=val (u*10+(c.toNat-48)) l:=by unfold val;rw [List.foldl_cons]
def aaO(l:aux):∀(u:Nat),u≤val u l:=by
 induction l with
 |nil=>intro u;simp only [FR,Nat.le_refl]
 |cons c l aG=>
  intro u;rw [FSb];have Z:u≤u*10+(c.toNat-48):=by omega
  exact Nat.le_trans Z (aG _)
def qx(c:UInt8):ir c=true↔48≤c.toNat∧c.toNat≤57:=by simp [ir]
def alA(l:aux):∀u,l.all ir=true→Lib.parseUintM 18446744073709551615 u l=(if val u l≤18446744073709551615 then .ok (val u l)else .range)∨18446744073709551615<u:=by
 induction l with
 |nil=>
  intro u _;by_cases h:u≤18446744073709551615
  ·left;rw [FR,if_pos h];rfl
  ·right;omega
 |cons c l aG=>
  intro u h;simp only [List.all_cons,Bool.and_eq_true,qx]at h;left
  rw [FSb];simp only [Lib.parseUintM,h.1,and_self,auv];have hg:=aaO l (u*10+(c.toNat-48));have pz:=aG (u*10+(c.toNat-48)) h.2;generalize val (u*10+(c.toNat-48)) l=w at hg pz ⊢
  by_cases Z:1844674407370955162≤u
  ·rw [if_pos Z,if_neg (by omega)]
  ·rw [if_neg Z];by_cases ab:18446744073709551615<u*10+(c.toNat-48)
   ·rw [if_pos ab,if_neg (by omega)]
   ·rw [if_neg ab];rcases pz with aj|aj
    ·exact aj
    ·exact absurd aj ab
def nR(w:aux):Int×Int:=
 if w.all ir=true∧(w.head? ≠ some 48∨w.length=1) then
  if val 0 w≤9223372036854775807 then(((val 0 w:Nat):Int),0) else(0,3)
 else(0,5)
def aaP(c:UInt8)(l:aux)(h:(c::l).all ir=true):Dl (c::l)=if val 0 (c::l)≤9223372036854775807 then .inl (val 0 (c::l):Nat)else .inr 9223372036854775807:=by
 have hc:48≤c.toNat∧c.toNat≤57:=by
  simp only [List.all_cons,Bool.and_eq_true,qx]at h;exact h.1
 have Z:Lib.parseIntB 64 (c::l)=_:=Lib.parseIntB_plain 64 c l (by omega) (by omega)
 have ab:Lib.parseUintB 64 (c::l)=(if val 0 (c::l)≤18446744073709551615 then .ok (val 0 (c::l))else .range):=by
  unfold Lib.parseUintB;rw [if_neg (by simp)]
  rcases alA (c::l) 0 h with aj|aj
  ·exact aj
  ·omega
 have aC:Lib.intSat 64 (c::l)=9223372036854775807:=by rw [Lib.intSat_other 64 c l (by omega)];rfl
 rw [ab]at Z;unfold Dl;rw [Z,aC];by_cases aT:val 0 (c::l)≤18446744073709551615
 ·rw [if_pos aT];by_cases bP:val 0 (c::l)≤9223372036854775807
  ·rw [if_pos bP];simp only [Lib.signlessC];rw [if_neg (by omega)]
  ·rw [if_neg bP];simp only [Lib.signlessC];rw [if_pos (by omega)]
 ·rw [if_neg aT,if_neg (by omega)];rfl
def alB{c:UInt8}(h:48≤c.toNat∧c.toNat≤57):IntKind.u8.wrap (((c.toNat:Nat):Int)-48)=((c.toNat-48:Nat):Int):=by rw [IntKind.wrap_u8];omega
def aaQ{x:Nat}(h:x≤18446744073709551615):IntKind.u64.wrap (x:Int)=x:=by rw [IntKind.wrap_u64];omega
def alC{x:Nat}(h:x≤9223372036854775807):auz (x:Int)=x:=by(try unfold auz);rw [IntKind.wrap_i64];omega
def alD(n:Nat)(s:aux)(hs:s.length≤4611686018427387904)(hd:s.all ir=true)(h0:s.head? ≠ some 45):
 ∀(m i u:Nat),s.length<i+m→i≤s.length→u≤9223372036854775807→Ls n s s 9223372036854775807 m (u:Int) (i:Int)=some (if val u (s.drop i)≤9223372036854775807 then(((val u (s.drop i):Nat):Int),(0:Int)) else(0,3)):=by
 intro m;induction m with
 |zero=>intro i u h ab;omega
 |succ m aG=>
  intro i u hm hi hu;simp only [Ls,YV];by_cases h:i<s.length
  ·have hc:48≤(s.getD i 0).toNat∧(s.getD i 0).toNat≤57:=by
    rw [←qx];have:=List.all_eq_true.1 hd s[i] (List.getElem_mem h)
    simpa [List.getD,h]using this
   have ao:=aaO (s.drop (i+1)) (u*10+((s.getD i 0).toNat-48));rw [e9 s i 0 h,bm (by omega),FSb]
   simp only [h,bw h,auo,aup,aug,aui,aK,alB hc];rw [aaQ (show(s.getD i 0).toNat-48≤18446744073709551615 by omega)]
   have e1:IntKind.u64.wrap (9223372036854775807-(((s.getD i 0).toNat-48:Nat):Int))=((9223372036854775807-((s.getD i 0).toNat-48):Nat):Int):=by rw [IntKind.wrap_u64];omega
   have e2:IntKind.u64.wrap (Int.tdiv ((9223372036854775807-((s.getD i 0).toNat-48):Nat):Int) 10)=(((9223372036854775807-((s.getD i 0).toNat-48)) / 10:Nat):Int):=by
    rw [show(Int.tdiv ((9223372036854775807-((s.getD i 0).toNat-48):Nat):Int) 10)=(((9223372036854775807-((s.getD i 0).toNat-48)) / 10:Nat):Int)from rfl]
    exact aaQ (by omega)
   rw [e1,e2];simp only [aup];by_cases aj:(9223372036854775807-((s.getD i 0).toNat-48)) / 10<u
   ·simp only [aj,aug,aui];rw [if_neg (by omega)]
   ·simp only [aj,auh,auj]
    have e3:IntKind.u64.wrap (IntKind.u64.wrap ((u:Int)*10)+(((s.getD i 0).toNat-48:Nat):Int))=((u*10+((s.getD i 0).toNat-48):Nat):Int):=by
     rw [IntKind.wrap_u64,IntKind.wrap_u64];omega
    rw [e3];exact aG (i+1) _ (by omega) (by omega) (by omega)
  ·rw [gu s i h,FR];simp only [h,aup,auh,auj,hu,auv,YU]
   have:(bif (decide (0<((s.length:Nat):Int))) then(decide ((((s.getD 0 0).toNat:Nat):Int)=45))else false)=false:=by
    cases s with
    |nil=>rfl
    |cons c l=>
     simp only [List.head?_cons,ne_eq,Option.some.injEq]at h0;simp only [List.getD_cons_zero,fs];have:¬ c.toNat=45:=λe=>h0 (UInt8.toNat_inj.1 e)
     simp [this]
   rw [this];simp only [auj,alC hu]
def alE(n:Nat)(s:aux)(hs:s.length≤4611686018427387904):∀m i,s.length<i+m→i≤s.length→E_ n s m (i:Int)=some ((s.drop i).all ir&&decide (0<s.length)&&(!decide (s.head? = some 48)||decide (s.length=1))):=by
 intro m;induction m with
 |zero=>intro i h ab;omega
 |succ m aG=>
  intro i hm hi;simp only [E_,YS,YR];by_cases h:i<s.length
  ·rw [e9 s i 0 h,bm (by omega),aG (i+1) (by omega) (by omega)]
   simp only [h,bw h,auo,aup,aug,aui,aK,auu,List.all_cons,pu,eO,dv];cases hd:ir (s.getD i 0)
   ·have:(decide ((s.getD i 0).toNat<48)||decide (57<(s.getD i 0).toNat))=true:=by
     have:¬ (48≤(s.getD i 0).toNat∧(s.getD i 0).toNat≤57):=λx=>by rw [(qx _).2 x]at hd;cases hd
     by_cases Z:(s.getD i 0).toNat<48
     ·simp only [Z,aug,Bool.true_or]
     ·simp only [show 57<(s.getD i 0).toNat by omega,aug,auu]
    rw [this];rfl
   ·have Z:=(qx _).1 hd
    have:(decide ((s.getD i 0).toNat<48)||decide (57<(s.getD i 0).toNat))=false:=by
     simp only [show¬ (s.getD i 0).toNat<48 by omega,show¬ 57<(s.getD i 0).toNat by omega,auh,Bool.or_self]
    rw [this];simp only [auj,Bool.true_and]
  ·rw [gu s i h];cases s with
   |nil=>
    simp only [aun,aup,Nat.not_lt_zero,auh,auj];rfl
   |cons c l=>
    rw [aum]at h;simp only [h,auh,auj,aup,aum,eO,show 0<l.length+1 by omega,aug,auk,Bool.false_or,ma (show 0<l.length+1 by omega),aK,aui,List.getD_cons_zero,fs,List.all_nil,Bool.true_and,List.head?_cons,Option.some.injEq,dv]
    have:decide (c.toNat=48)=decide (c=48):=by
     rw [decide_eq_decide];exact⟨λe=>UInt8.toNat_inj.1 e,λe=>by subst e;rfl⟩
    rw [this]
def alF{n:Nat}(c:UInt8)(l:aux)(h:l.length+1<n)(hs:l.length+1≤4611686018427387904)(hc:c.toNat≠45):SN n (c::l)=some (nR (c::l)):=by
 unfold SN SM YT;have hd:=alE n (c::l) hs n 0 (by simp only [aum];omega) (by omega)
 have Tk:(bif (decide (0<(((c::l).length:Nat):Int))) then(decide (((((c::l).getD 0 0).toNat:Nat):Int)=45))else false)=false:=by
  simp only [List.getD_cons_zero,fs,hc,auh];cases decide (0<(((c::l).length:Nat):Int))<;>rfl
 have hd:E_ n (c::l) n 0=_:=hd;have hin:(!(decide ((0:Int)<(((c::l).length:Nat):Int)))||aL 0 (c::l).length)=true:=by rw [ma (show 0<(c::l).length by simp)];simp only [auu]
 rw [Tk,hd,hin];simp only [aul,aum,ma (show 0<l.length+1 by omega),auu,aK,auj,ak,List.drop_zero,show(0<l.length+1)=True by simp,aug,Bool.and_true]
 unfold nR;by_cases Z:(c::l).all ir=true∧((c::l).head? ≠ some 48∨(c::l).length=1)
 ·rw [if_pos Z]
  have:((c::l).all ir&&(!decide ((c::l).head? = some 48)||decide (l.length+1=1)))=true:=by
   rw [Z.1];rcases Z.2 with ab|ab
   ·simp only [ab,auh,aul,Bool.true_or,Bool.and_self]
   ·simp only [show l.length+1=1 from ab,aug,auu,Bool.and_self]
  rw [this]
  have bn:(c::l).head? ≠ some 45:=by
   intro e;simp only [List.head?_cons,Option.some.injEq]at e;subst e;exact hc rfl
  have:=alD n (c::l) hs Z.1 bn n 0 0 (by simp only [aum];omega) (by omega) (by omega)
  simpa using this
 ·rw [if_neg Z]
  have:((c::l).all ir&&(!decide ((c::l).head? = some 48)||decide (l.length+1=1)))=false:=by
   cases ab:(c::l).all ir
   ·rfl
   ·by_cases aj:(c::l).head? = some 48
    ·by_cases aC:l.length+1=1
     ·exact absurd ⟨ab,Or.inr aC⟩ Z
     ·simp only [aj,aC,aug,auh,auk,Bool.or_self,Bool.and_false]
    ·exact absurd ⟨ab,Or.inl aj⟩ Z
  rw [this];rfl
open Go Go.Ab Go.Proofs
def dl(l:aux):Nat:=(l.takeWhile ir).length
def Tl(c:UInt8)(l:aux):dl (c::l)=bif ir c then dl l+1 else 0:=by
 unfold dl;cases h:ir c<;>simp [List.takeWhile,h]
def alG(l:aux):dl l≤l.length:=by unfold dl;exact(List.takeWhile_prefix _).length_le
def aaR(l:aux):dl l=l.length↔l.all ir=true:=by
 induction l with
 |nil=>simp [dl]
 |cons c l aG=>
  rw [Tl];cases h:ir c
  ·simp [h]
  ·simp [h,aG]
def alH(n:Nat)(s:aux)(b:Bool)(hs:s.length≤4611686018427387904):∀m i,s.length<i+m→i≤s.length→zW n s s b m (i:Int)=Ef n s s b ((i+dl (s.drop i):Nat):Int):=by
 intro m;induction m with
 |zero=>intro i h ab;omega
 |succ m aG=>
  intro i hm hi;simp only [zW,QO];by_cases h:i<s.length
  ·rw [e9 s i 0 h,bm (by omega),aG (i+1) (by omega) (by omega),Tl]
   simp only [h,bw h,auo,aup,aug,aui,aK,tj,jG,eg];rw [show(decide (48≤(s.getD i 0).toNat)&&decide ((s.getD i 0).toNat≤57))=ir (s.getD i 0)from rfl]
   cases ir (s.getD i 0)
   ·rfl
   ·simp only [aui];rw [show i+1+dl (s.drop (i+1))=i+(dl (s.drop (i+1))+1)by omega]
  ·rw [gu s i h];simp only [h,aup,auh,auj];rfl
def alI{n:Nat}{s:aux}(h:s.length≤281474976710656):y2 n s 10 64=some (Dl s):=by
 unfold y2;rw [decide_eq_true (show(10:Int)=10∧(64:Int)=64∧s.length≤281474976710656 from⟨rfl,rfl,h⟩)]
 rfl
def alJ{n:Nat}(c:UInt8)(l:aux)(h:l.length+1<n)(hs:l.length+1≤140737488351232)(hc:ir c=true):Js n (c::l)=some (nR (c::l)):=by
 have l2:=(qx c).1 hc;have di:¬ c.toNat=45:=by omega
 unfold Js Jr
 have Tk:(bif (decide (0<(((c::l).length:Nat):Int))) then(decide (((((c::l).getD 0 0).toNat:Nat):Int)=45))else false)=false:=by
  simp only [List.getD_cons_zero,fs,di,auh];cases decide (0<(((c::l).length:Nat):Int))<;>rfl
 have hin:(!(decide ((0:Int)<(((c::l).length:Nat):Int)))||aL 0 (c::l).length)=true:=by rw [ma (show 0<(c::l).length by simp)];simp only [auu]
 have gR:=alH n (c::l) false (by simp only [aum];omega) n 0 (by simp only [aum];omega) (by omega)
 have gR:zW n (c::l) (c::l) false n 0=_:=gR;rw [Tk,hin,gR];simp only [aK,auj,List.drop_zero,Nat.zero_add];have Z:1≤dl (c::l):=by rw [Tl,hc];simp
 have hlen:(c::l).length=l.length+1:=rfl;have hle:=alG (c::l);unfold Ef;simp only [ma (show 0<(c::l).length by simp),auu,aK,fs,show¬ dl (c::l)=0 by omega,auh,auj,aup,List.getD_cons_zero,eO,dv]
 unfold nR;by_cases ha:(c::l).all ir=true
 ·have hd:=(aaR _).2 ha;simp only [hd,Nat.lt_irrefl,auh,Bool.false_or,ha,true_and];by_cases Tm:c=48
  ·subst Tm;by_cases fm:l=[]
   ·subst fm;simp only [List.head?_cons,aum,aun];rw [if_pos (by simp)]
    simp only [y2,aaP _ _ ha];rw [if_pos (by decide)]
    rfl
   ·have:1<((48::l:aux)).length:=by
     cases l with
     |nil=>exact absurd rfl fm
     |cons _ _=>simp
    simp only [this,aug,aui];rw [if_neg (by simp [fm])]
    rfl
  ·have alK:¬ c.toNat=48:=λe=>Tm (UInt8.toNat_inj.1 e)
   simp only [alK,auh,auj];rw [if_pos (show(c::l).head? ≠ some 48∨(c::l).length=1 from Or.inl (by simpa using Tm))]
   rw [alI (by simp only [aum];omega),aaP _ _ ha]
   by_cases av:val 0 (c::l)≤9223372036854775807
   ·rw [if_pos av,if_pos av];rfl
   ·rw [if_neg av,if_neg av];rfl
 ·have hd:dl (c::l)<(c::l).length:=by
   have:¬ dl (c::l)=(c::l).length:=λe=>ha ((aaR _).1 e)
   omega
  simp only [hd,aug,Bool.true_or,aui];rw [if_neg (λx=>ha x.1)]
def lb(w:aux):Token×Int:=
 match w with
 |[]=>(⟨0,[],0,0⟩,0)
 |c::_=>
  if lL c=true then
   if tk w=true then(⟨2,w,0,0⟩,0)else if gv w=true then(⟨1,w,0,0⟩,0) else(⟨0,[],0,0⟩,2)
  else if(nR w).2=0 then(⟨3,[],(nR w).1,0⟩,0) else(⟨0,[],0,0⟩,(nR w).2)
def alL{n:Nat}(c:UInt8)(l:aux)(h:l.length+1<n)(hs:l.length+1≤140737488351232)(hw:fQ c=true):Jt n (c::l)=some (lb (c::l)):=by
 unfold Jt lb;simp only [ma (show 0<(c::l).length by simp),aK,List.getD_cons_zero,fs,aaJ,ak,aaH,Bn _ _ (show(c::l).length≤140737488351232 from hs)]
 by_cases Z:c.toNat=95
 ·have e:c=95:=UInt8.toNat_inj.1 Z;subst e
  have alM:nR (95::l)=(0,5):=by
   unfold nR;rw [if_neg (by simp [show ir 95=false from rfl])]
  simp only [Z,aug,aui];rw [if_neg (by decide),alM]
  rfl
 ·simp only [Z,auh,auj];cases aa:lL c
  ·have hd:ir c=true:=by
    unfold fQ at hw;have hw:=of_decide_eq_true hw;unfold lL at aa;rw [qx];simp only [Bool.and_eq_false_iff,decide_eq_false_iff_not]at aa;omega
   simp only [auj,alJ c l h hs hd,ak,Bool.false_eq_true,auw];by_cases aT:(nR (c::l)).2=0
   ·simp only [aT,aug,auk,auj,auv]
   ·simp only [aT,auh,aul,aui,auw]
  ·simp only [aui,auv];cases tk (c::l)
   ·cases gv (c::l)<;>rfl
   ·rfl
def alN{n:Nat}(c:UInt8)(l:aux)(h:l.length+1<n)(ab:25<n)(hs:l.length+1≤140737488351232)(hw:fQ c=true):SO n (c::l)=some (lb (c::l)):=by
 unfold SO lb
 have hc:c.toNat≠45:=by
  unfold fQ at hw;have hw:=of_decide_eq_true hw;omega
 simp only [ma (show 0<(c::l).length by simp),aK,List.getD_cons_zero,fs,Tj,ak,aaI _ ab,Bm (c::l) h ab (show(c::l).length≤4611686018427387904 by simp only [aum];omega),alF c l h (by omega) hc]
 cases aa:lL c
 ·simp only [auj,ak,Bool.false_eq_true,auw];by_cases aT:(nR (c::l)).2=0
  ·simp only [aT,aug,auk,auj,auv]
  ·simp only [aT,auh,aul,aui,auw]
 ·simp only [aui,auv];cases tk (c::l)
  ·cases gv (c::l)<;>rfl
  ·rfl
open Go Go.Ab Go.Proofs
def up(k:Nat):Int ⊕ (aux×Nat)→Int ⊕ (aux×Nat)
 |.inl e=>.inl e
 |.inr p=>.inr (p.1,p.2+k)
def gw:aux→aux→Int ⊕ (aux×Nat)
 |[],acc=>.inl 6
 |[c],acc=>if c.toNat=34 then .inr (acc,1)else if c.toNat=92 then .inl 6 else if okB c=false then .inl 5 else if acc.length=64 then .inl 2 else .inl 6
 |c::d::l,acc=>
  if c.toNat=34 then .inr (acc,1)
  else if c.toNat=92 then
   if d.toNat≠34∧d.toNat≠92 then .inl 5 else if acc.length=64 then .inl 2 else up 2 (gw l (acc++[d]))
  else if okB c=false then .inl 5
  else if acc.length=64 then .inl 2
  else up 1 (gw (d::l) (acc++[c]))
def fS(l:aux):List Int:=l.map λc=>((c.toNat:Nat):Int)
def Tn(l:aux):jV (fS l)=l:=by
 unfold jV fS;rw [List.map_map]
 conv=>rhs;rw [←List.map_id l]
 refine List.map_congr_left λc _=>?_
 simp
def To(l:aux):nB (fS l)=true:=by
 unfold nB fS;rw [List.all_eq_true];intro x hx;obtain⟨c,_,rfl⟩:=List.mem_map.1 hx;have:=c.toNat_lt
 simp only [Bool.and_eq_true,decide_eq_true_eq];omega
def L0(l:aux):(fS l).length=l.length:=by simp [fS]
def Tp(l:aux)(c:UInt8):fS l++[((c.toNat:Nat):Int)]=fS (l++[c]):=by simp [fS]
def xJ(z:Int)(i:Nat):Int ⊕ (aux×Nat)→aux×Int×Int
 |.inl e=>([],z,e)
 |.inr p=>(p.1,((i+p.2:Nat):Int),0)
def L1(z:Int)(i k:Nat)(r:Int ⊕ (aux×Nat)):xJ z i (up k r)=xJ z (i+k) r:=by
 cases r with
 |inl e=>rfl
 |inr p=>simp only [up,xJ];rw [show i+(p.2+k)=i+k+p.2 by omega]
def aaS{k:Nat}(h:k≤65):room k 1=true:=by simp [room];omega
def Bq(c:UInt8)(l acc:aux)(h:c.toNat≠92):gw (c::l) acc=if c.toNat=34 then .inr (acc,1)else if okB c=false then .inl 5 else if acc.length=64 then .inl 2 else up 1 (gw l (acc++[c])):=by
 cases l with
 |nil=>
  simp only [gw];by_cases Z:c.toNat=34
  ·simp only [Z,auv]
  ·simp only [Z,h,auw,up]
 |cons d l =>
  simp only [gw];by_cases Z:c.toNat=34
  ·simp only [Z,auv]
  ·simp only [Z,h,auw]
def alO{d:UInt8}(h:¬ (d.toNat≠34∧d.toNat≠92)):okB d=true:=by
 unfold okB;simp only [Bool.and_eq_true,decide_eq_true_eq];omega
def aaT(p:Prop)[Decidable p]:(!decide p)=decide (¬ p):=by by_cases h:p<;>simp [h]
def alP(n:Nat)(s:aux)(hs:s.length≤4611686018427387904):∀(m i:Nat) (acc:aux),s.length<i+m→i≤s.length→acc.length≤64→
 zV n s m (fS acc) (i:Int)=some (xJ 0 i (gw (s.drop i) acc)):=by
 intro m;induction m with
 |zero=>intro i acc h ab;omega
 |succ m aG=>
  intro i acc hm hi ha;simp only [zV,QL,Jp,QK,Jo];by_cases h:i<s.length
  ·rw [e9 s i 0 h,bm (by omega)]
   simp only [h,bw h,auo,aup,Int.ofNat_inj,aug,aui,aK,pu,eO,fs,dv,Bl,L0];generalize hc:s.getD i 0=c
   by_cases g_:c.toNat=34
   ·simp only [g_,aug,aui,To,aK,Tn];rw [Bq c _ _ (by omega),if_pos g_]
    rfl
   ·by_cases nS:c.toNat=92
    ·simp only [nS,aug,aui,show¬ (92=34)by omega,auh,auj]
     by_cases mb:i+1=s.length
     ·simp only [mb,aug,aui];rw [gu s s.length (by omega)]
      simp only [gw,g_,auw,nS,auv];rfl
     ·have cO:i+1<s.length:=by omega
      rw [e9 s (i+1) 0 cO,bm (by omega)]
      simp only [mb,auh,auj,bw cO,aK];generalize s.getD (i+1) 0=d
      simp only [gw,g_,auw,nS,auv,eg,aaT,show¬ (92=34)by omega]
      by_cases hd:d.toNat≠34∧d.toNat≠92
      ·rw [if_pos hd];simp only [hd.1,hd.2,aug,not_false_eq_true,Bool.and_self,aui];rfl
      ·rw [if_neg hd];have:(decide (¬ d.toNat=34)&&decide (¬ d.toNat=92))=false:=by rw [←Bool.decide_and];exact decide_eq_false hd
       simp only [this,auj,alO hd,auk];by_cases qy:acc.length=64
       ·simp only [qy,aug,aui,auv];rfl
       ·simp only [qy,auh,auj,auw,aum,aun,aaS (show acc.length+(0+1)≤65 by omega),aK,Tp]
        rw [aG (i+1+1) (acc++[d]) (by omega) (by omega) (by simp only [auq,aum,aun];omega),L1]
    ·simp only [g_,nS,auh,auj];rw [Bq c _ _ nS,if_neg g_];cases cF:okB c
     ·simp only [aul,aui,auv];rfl
     ·simp only [auk,auj,auw,Bool.true_eq_false];by_cases qy:acc.length=64
      ·simp only [qy,aug,aui,auv];rfl
      ·simp only [qy,auh,auj,auw,aum,aun,aaS (show acc.length+(0+1)≤65 by omega),aK,Tp]
       rw [aG (i+1) (acc++[c]) (by omega) (by omega) (by simp only [auq,aum,aun];omega),L1]
  ·rw [gu s i h];simp only [h,aup,auh,auj];rfl
def Tq{k:Nat}(h:k≤9223372036854775807):b0 k=true:=by simp [b0];omega
def aaU(s:aux)(i:Nat)(h:i<s.length):(s.take (i+1)).drop i=[s.getD i 0]:=by
 rw [e9 (s.take (i+1)) i 0 (by simp;omega),gu _ _ (by simp;omega)]
 simp [List.getD,h]
def alQ(n:Nat)(s:aux)(hs:s.length≤4611686018427387904):∀(m i:Nat) (acc:aux),s.length<i+m→i≤s.length→acc.length≤64→
 ∃z,Lt n s m (i:Int) acc=some (xJ z i (gw (s.drop i) acc)):=by
 intro m;induction m with
 |zero=>intro i acc h ab;omega
 |succ m aG=>
  intro i acc hm hi ha;simp only [Lt,YX,SP,YW];by_cases h:i<s.length
  ·rw [e9 s i 0 h,bm (by omega)]
   simp only [h,bw h,auo,aup,Int.ofNat_inj,aug,aui,aK,pu,eO,fs,dv,Bl,L0,FQ (Nat.le_succ i) h,aaU s i h];generalize hc:s.getD i 0=c
   by_cases g_:c.toNat=34
   ·simp only [g_,aug,aui];rw [Bq c _ _ (by omega),if_pos g_]
    exact⟨0,rfl⟩
   ·by_cases nS:c.toNat=92
    ·simp only [nS,aug,aui,show¬ (92=34)by omega,auh,auj]
     by_cases mb:i+1=s.length
     ·simp only [mb,aug,aui];rw [gu s s.length (by omega)]
      simp only [gw,g_,auw,nS,auv];exact⟨_,rfl⟩
     ·have cO:i+1<s.length:=by omega
      rw [e9 s (i+1) 0 cO,bm (by omega)]
      simp only [mb,auh,auj,bw cO,aK,auu,auo,aaU s (i+1) cO,FQ (Nat.le_succ (i+1)) cO];generalize s.getD (i+1) 0=d
      simp only [gw,g_,auw,nS,auv,eg,aaT,show¬ (92=34)by omega]
      by_cases hd:d.toNat≠34∧d.toNat≠92
      ·rw [if_pos hd];simp only [hd.1,hd.2,aug,not_false_eq_true,Bool.and_self,aui];exact⟨_,rfl⟩
      ·rw [if_neg hd];have:(decide (¬ d.toNat=34)&&decide (¬ d.toNat=92))=false:=by rw [←Bool.decide_and];exact decide_eq_false hd
       simp only [this,auj];by_cases qy:acc.length=64
       ·simp only [qy,aug,aui,auv];exact⟨_,rfl⟩
       ·simp only [qy,auh,auj,auw,aum,aun,Tq (show acc.length+(0+1)≤9223372036854775807 by omega),aK]
        obtain⟨z,dx⟩:=aG (i+1+1) (acc++[d]) (by omega) (by omega) (by simp only [auq,aum,aun];omega)
        exact⟨z,by rw [dx,L1]⟩
    ·simp only [g_,nS,auh,auj];rw [Bq c _ _ nS,if_neg g_];cases cF:okB c
     ·simp only [aul,aui,auv];exact⟨_,rfl⟩
     ·simp only [auk,auj,auw,Bool.true_eq_false];by_cases qy:acc.length=64
      ·simp only [qy,aug,aui,auv];exact⟨_,rfl⟩
      ·simp only [qy,auh,auj,auw,aum,aun,Tq (show acc.length+(0+1)≤9223372036854775807 by omega),aK]
       obtain⟨z,dx⟩:=aG (i+1) (acc++[c]) (by omega) (by omega) (by simp only [auq,aum,aun];omega)
       exact⟨z,by rw [dx,L1]⟩
  ·rw [gu s i h];simp only [h,aup,auh,auj];exact⟨_,rfl⟩
open Go Go.Ab Go.Proofs
def two:List aux:=[[61,61],[33,61],[60,61],[62,61],[43,43]]
def pA:aux:=[40,41,123,125,44,59,58,61,60,62,43,45,42,47,37]
def marks:List aux:=two++pA.map λc=>[c]
def kQ(l w:aux):Bool:=decide (w.length≤l.length∧l.take w.length=w)
def lM(l:aux):aux:=(marks.find? (kQ l)).getD []
def find_eq{α β:Type}[DecidableEq β](x:β)(p:α→Bool)(f:α→β)(L:List α)(h:∀w,w∈L→p w=decide (x=f w))(aY:∀v w,v∈L→w∈L→f v=f w→v=w):
 (∃v,v∈L∧x=f v∧L.find? p=some v)∨((∀v,v∈L→x≠f v)∧L.find? p=none):=by
 cases ao:L.find? p with
 |none=>
  right
  rw [List.find?_eq_none]at ao;refine⟨λv av e=>ao v av ?_,rfl⟩
  rw [h v av];exact decide_eq_true e
 |some v=>
  left
  have av:=List.mem_of_find?_eq_some ao;have:=List.find?_some ao
  rw [h v av]at this;exact⟨v,av,of_decide_eq_true this,rfl⟩
def alR(a c:UInt8)(t:aux):kQ (a::t) [c]=decide (a=c):=by
 unfold kQ;rw [decide_eq_decide];simp
def alS(a b:UInt8)(t:aux)(w:aux)(h:w∈two):kQ (a::b::t) w=decide ([a,b]=w):=by
 have:w.length=2:=by
  simp only [two,List.mem_cons,List.not_mem_nil,or_false]at h;rcases h with rfl|rfl|rfl|rfl|rfl<;>rfl
 unfold kQ;rw [decide_eq_decide,this];simp
def alT(a:UInt8)(w:aux)(h:w∈two):kQ [a] w=false:=by
 have:w.length=2:=by
  simp only [two,List.mem_cons,List.not_mem_nil,or_false]at h;rcases h with rfl|rfl|rfl|rfl|rfl<;>rfl
 unfold kQ;rw [this];simp
def aaV(a:UInt8)(t:aux):((pA.map λc=>[c]).find? (kQ (a::t))).getD []=if a∈pA then[a] else[]:=by
 rw [List.find?_map];have Z:((λw=>kQ (a::t) w)∘λc=>[c])=λc=>decide (a=c):=by funext c;exact alR a c t
 have Z:(kQ (a::t)∘λc=>[c])=λc=>decide (a=c):=Z
 rw [Z];rcases find_eq a (λc=>decide (a=c)) (λc=>c) pA (λ_ _=>rfl) (λ_ _ _ _ e=>e) with⟨v,av,rfl,ab⟩|⟨hn,ab⟩
 ·rw [ab,if_pos av];rfl
 ·rw [ab,if_neg λhm=>hn a hm rfl];rfl
def Tr(a b:UInt8)(t:aux):lM (a::b::t)=if[a,b]∈two then[a,b]else if a∈pA then[a] else[]:=by
 unfold lM marks;rw [List.find?_append];rcases find_eq [a,b] (kQ (a::b::t)) (λc=>c) two (λw hw=>alS a b t w hw) (λ_ _ _ _ e=>e) with⟨v,av,rfl,ab⟩|⟨hn,ab⟩
 ·rw [ab,if_pos av];rfl
 ·rw [ab,if_neg λhm=>hn _ hm rfl]
  exact aaV a (b::t)
def aaW(a:UInt8):lM [a]=if a∈pA then[a] else[]:=by
 unfold lM marks;rw [List.find?_append]
 have:two.find? (kQ [a])=none:=by
  rw [List.find?_eq_none];intro w hw;rw [alT a w hw];exact Bool.false_ne_true
 rw [this];exact aaV a []
def aaX(a:UInt8):∀l:aux,Lib.indexByte l a = -1∧a∉l∨0≤Lib.indexByte l a∧a∈l
 |[]=>Or.inl ⟨rfl,by simp⟩
 |b::l=>by
  unfold Lib.indexByte;by_cases h:b=a
  ·subst h;right;simp
  ·have cO:(b == a)=false:=by simp [h]
   rw [cO];simp only [Bool.false_eq_true,auw];rcases aaX a l with⟨Z,ab⟩|⟨Z,ab⟩
   ·left
    rw [Z];refine⟨rfl,?_⟩
    simp only [List.mem_cons,not_or];exact⟨λe=>h e.symm,ab⟩
   ·right
    have:(Lib.indexByte l a == -1)=false:=by
     simp only [beq_eq_false_iff_ne,ne_eq];omega
    rw [this];simp only [Bool.false_eq_true,auw];exact⟨by omega,List.mem_cons_of_mem _ ab⟩
def alU(a:UInt8):(((a.toNat:Nat):Int)).toNat.toUInt8=a:=by
 (simp only [auo]);exact UInt8.ofNat_toNat
def aaY(n:Nat)(a:UInt8)(t:aux):Ee n (a::t)=some (if a∈pA then[a] else[]):=by
 unfold Ee QN HX;simp only [reduceCtorEq,auh,aul,ma (show 0<(a::t).length by simp),auu,aK,aui,ak,List.getD_cons_zero,alU]
 rw [show([40,41,123,125,44,59,58,61,60,62,43,45,42,47,37]:aux)=pA from rfl]
 rcases aaX a pA with⟨Z,ab⟩|⟨Z,ab⟩
 ·rw [Z,if_neg ab];rfl
 ·rw [if_pos ab];have hu:ho 1 (a::t).length=true:=xI (i:=1) (show 1≤(a::t).length by simp)
  simp only [Z,aug,aui,hu,aK,List.take_succ_cons,List.take_zero]
def alV(n:Nat)(a:UInt8)(t:aux):Jq n (a::t)=some (lM (a::t)):=by
 unfold Jq;cases t with
 |nil=>
  rw [aaW];exact aaY n a []
 |cons b t=>
  rw [Tr];have ab:decide ((2:Int)≤(((a::b::t).length:Nat):Int))=true:=decide_eq_true (by simp only [aum];omega)
  have hu:ho 2 (a::b::t).length=true:=xI (i:=2) (show 2≤(a::b::t).length by simp)
  simp only [ab,aui,hu,aK,w7,aaY];rw [show(a::b::t).take 2=[a,b]from rfl]
  generalize [a,b]=w
  by_cases h:w∈two
  ·rw [if_pos h];simp only [two,List.mem_cons,List.not_mem_nil,or_false]at h;rcases h with rfl|rfl|rfl|rfl|rfl<;>rfl
  ·rw [if_neg h];simp only [two,List.mem_cons,List.not_mem_nil,or_false,not_or]at h;simp only [h,auh,auj]
def alW(n:Nat):YQ n=some marks:=rfl
def Ts(w:aux)(h:w∈marks):1≤w.length∧w.length≤2:=by
 have:∀w,w∈marks→decide (1≤w.length∧w.length≤2)=true:=by decide
 exact of_decide_eq_true (this w h)
def alX(i:Nat):Option aux→Token×Int×Int
 |none=>(⟨0,[],0,0⟩,(i:Int),5)
 |some w=>(⟨5,w,0,0⟩,((i+w.length:Nat):Int),0)
def aaZ(s:aux)(i k:Nat):(s.take (i+k)).drop i=(s.drop i).take k:=by
 rw [List.drop_take];congr 1;omega
def alY(n:Nat)(s:aux)(at_:Nat)(L:List aux)(hs:s.length≤4611686018427387904)(ha:at_≤s.length)(c8:L.length≤100)(hw:∀w,w∈L→w.length≤2):
 ∀m i,L.length<i+m→i≤L.length→Fa n s (at_:Int) L m (i:Int)=some (alX at_ ((L.drop i).find? (kQ (s.drop at_)))):=by
 intro m;induction m with
 |zero=>intro i h ab;omega
 |succ m aG=>
  intro i hm hi;simp only [Fa,Y0,YZ];by_cases h:i<L.length
  ·(rw [e9 L i default h,bm (by omega),aG (i+1) (by omega) (by omega)];simp only [auo])
   have Tt:(L.getD i default).length≤2:=hw _ (by simp [List.getD,h])
   generalize L.getD i default=w at Tt
   simp only [h,bw h,aup,aug,aui,aK,auu];have e1:auz ((at_:Int)+((w.length:Nat):Int))=((at_+w.length:Nat):Int):=by rw [wr]<;>omega
   simp only [e1,auo,aaZ,Int.ofNat_le];by_cases Z:at_+w.length≤s.length
   ·simp only [Z,aug,auk,Bool.false_or,FQ (Nat.le_add_right at_ w.length) Z,aK,aui];by_cases ab:(s.drop at_).take w.length=w
    ·have:kQ (s.drop at_) w=true:=decide_eq_true ⟨by simp;omega,ab⟩
     simp only [ab,aug,aui,List.find?_cons,this];rfl
    ·have:kQ (s.drop at_) w=false:=decide_eq_false λx=>ab x.2
     simp only [ab,auh,auj,List.find?_cons,this]
   ·have:kQ (s.drop at_) w=false:=decide_eq_false λx=>by have:=x.1;simp at this;omega
    simp only [Z,auh,aul,Bool.true_or,aK,auj,List.find?_cons,this]
  ·rw [gu L i h];simp only [h,aup,auh,auj];rfl
open Go Go.Ab Go.Proofs
def xK:Int ⊕ (aux×Nat)→Token×Nat×Int
 |.inl e=>(⟨4,[],0,0⟩,0,e)
 |.inr p=>(⟨4,p.1,0,0⟩,p.2+1,0)
def fT(l:aux):Token×Nat×Int:=
 match l with
 |[]=>(⟨0,[],0,0⟩,0,0)
 |c::t=>
  if fQ c=true then((lb ((c::t).take (hH (c::t)))).1,hH (c::t),(lb ((c::t).take (hH (c::t)))).2)
  else if c.toNat=34 then xK (gw t [])
  else if lM (c::t)=[] then(⟨0,[],0,0⟩,0,5) else(⟨5,lM (c::t),0,0⟩,(lM (c::t)).length,0)
def FT:∀(l acc:aux) (e:Int),gw l acc = .inl e→e≠0
 |[],acc,e,h=>by simp only [gw,Sum.inl.injEq]at h;omega
 |[c],acc,e,h=>by
  simp only [gw]at h
  (repeat' split at h)<;>simp only [reduceCtorEq,Sum.inl.injEq]at h<;>omega
 |c::d::l,acc,e,h=>by
  simp only [gw]at h;split at h
  ·cases h
  ·split at h
   ·split at h
    ·simp only [Sum.inl.injEq]at h;omega
    ·split at h
     ·simp only [Sum.inl.injEq]at h;omega
     ·cases ao:gw l (acc++[d]) with
      |inl bg=>rw [ao]at h;simp only [up,Sum.inl.injEq]at h;subst h;exact FT l _ _ ao
      |inr p=>rw [ao]at h;cases h
   ·split at h
    ·simp only [Sum.inl.injEq]at h;omega
    ·split at h
     ·simp only [Sum.inl.injEq]at h;omega
     ·cases ao:gw (d::l) (acc++[c]) with
      |inl bg=>rw [ao]at h;simp only [up,Sum.inl.injEq]at h;subst h;exact FT (d::l) _ _ ao
      |inr p=>rw [ao]at h;cases h
def Tu:∀(l acc:aux) (p:aux×Nat),gw l acc = .inr p→1≤p.2∧p.2≤l.length∧p.1.length≤acc.length+p.2
 |[],acc,e,h=>by simp only [gw,reduceCtorEq]at h
 |[c],acc,p,h=>by
  simp only [gw]at h;split at h
  ·simp only [Sum.inr.injEq]at h;subst h;simp
  ·(repeat' split at h)<;>simp only [reduceCtorEq]at h
 |c::d::l,acc,p,h=>by
  simp only [gw]at h;split at h
  ·simp only [Sum.inr.injEq]at h;subst h;simp
  ·split at h
   ·split at h
    ·simp only [reduceCtorEq]at h
    ·split at h
     ·simp only [reduceCtorEq]at h
     ·cases ao:gw l (acc++[d]) with
      |inl bg=>rw [ao]at h;simp only [up,reduceCtorEq]at h
      |inr q=>
       rw [ao]at h;simp only [up,Sum.inr.injEq]at h;subst h;have:=Tu l _ _ ao
       simp only [auq,aum,aun]at this ⊢;omega
   ·split at h
    ·simp only [reduceCtorEq]at h
    ·split at h
     ·simp only [reduceCtorEq]at h
     ·cases ao:gw (d::l) (acc++[c]) with
      |inl bg=>rw [ao]at h;simp only [up,reduceCtorEq]at h
      |inr q=>
       rw [ao]at h;simp only [up,Sum.inr.injEq]at h;subst h;have:=Tu (d::l) _ _ ao
       simp only [auq,aum,aun]at this ⊢;omega
def alZ(l:aux):lM l=[]∨(1≤(lM l).length∧(lM l).length≤l.length):=by
 unfold lM;cases h:marks.find? (kQ l) with
 |none=>left;rfl
 |some w=>
  right
  have Z:=Ts w (List.mem_of_find?_eq_some h);have ab:=List.find?_some h;have:=(of_decide_eq_true ab).1
  exact⟨Z.1,this⟩
def al0(w:aux):(lb w).1.Text.length≤w.length:=by
 cases w with
 |nil=>simp [lb]
 |cons c l=>
  unfold lb;simp only
  (repeat' split)<;>simp
def aa0(l:aux)(aa:l≠[])(h:(fT l).2.2=0):1≤(fT l).2.1∧(fT l).2.1≤l.length∧(fT l).1.Text.length≤(fT l).2.1:=by
 cases l with
 |nil=>exact absurd rfl aa
 |cons c t=>
  unfold fT at h ⊢;simp only at h ⊢
  split at h
  ·rename_i hw;rw [if_pos hw];simp only
   have Z:=LZ (c::t);refine⟨by rw [u4,hw];simp,Z,?_⟩
   refine Nat.le_trans (al0 _) ?_;simp only [List.length_take];omega
  ·rename_i hw;rw [if_neg hw];split at h
   ·rename_i g_;rw [if_pos g_];cases ao:gw t [] with
    |inl e=>rw [ao]at h;exact absurd h (FT t [] e ao)
    |inr p=>
     have:=Tu t [] p ao
     simp only [xK,aum,aun]at this ⊢;omega
   ·rename_i g_;rw [if_neg g_];split at h
    ·simp only at h;omega
    ·rename_i hm;rw [if_neg hm];have:=(alZ (c::t)).resolve_left hm
     simp only
     exact⟨this.1,this.2,Nat.le_refl _⟩
def aa1(c:UInt8)(t:aux)(h:fQ c=true):∃k,hH (c::t)=k+1∧(c::t).take (hH (c::t))=c::t.take k∧k≤t.length:=by
 refine⟨hH t,by rw [u4,h];rfl,by rw [u4,h];rfl,LZ t⟩
def al1{c:UInt8}(h:c.toNat=34):fQ c=false:=by
 unfold fQ;exact decide_eq_false (by omega)
def aa2{n:Nat}(c:UInt8)(t:aux)(h:t.length+1<n)(hs:t.length+1≤140737488351232):
 zX n (c::t)=some ((fT (c::t)).1,(((fT (c::t)).2.1:Nat):Int),(fT (c::t)).2.2):=by
 unfold zX;rw [aaM n (c::t) hs,ak];unfold fT;simp only
 cases hw:fQ c
 ·have h0:hH (c::t)=0:=by rw [u4,hw];rfl
  rw [h0];simp only [show decide ((0:Int)<((0:Nat):Int))=false from rfl,auj,ma (show 0<(c::t).length by simp),aK,List.getD_cons_zero,fs,Bool.false_eq_true,auw]
  by_cases g_:c.toNat=34
  ·rw [if_pos g_];simp only [g_,aug,aui];unfold QM;have:=alP n (c::t) (by simp only [aum];omega) n 1 [] (by simp only [aum];omega) (by simp) (by simp)
   rw [show zV n (c::t) n ([]:List Int) 1=_ from this,List.drop_succ_cons,List.drop_zero]
   cases gw t [] with
   |inl e=>rfl
   |inr p=>simp only [xJ,xK,ak];rw [Nat.add_comm 1 p.2]
  ·rw [if_neg g_];simp only [g_,auh,auj,alV,ak];by_cases hm:lM (c::t)=[]
   ·rw [if_pos hm];simp only [hm,aug,aui];rfl
   ·rw [if_neg hm];simp only [hm,auh,auj]
 ·obtain⟨k,hk,xL,HJ⟩:=aa1 c t hw;rw [if_pos rfl];simp only [eO,show 0<hH (c::t)by omega,aug,aui,xI (LZ (c::t)),aK,auo]
  rw [xL,alL c (t.take k) (by simp only [List.length_take];omega) (by simp only [List.length_take];omega) hw]
  rfl
def al2{n:Nat}(s:aux)(i:Nat)(hi:i<s.length)(h:s.length<n)(ab:100<n)(hs:s.length≤140737488351232):
 ∃t z,SQ n s (i:Int)=some (t,z,(fT (s.drop i)).2.2)∧((fT (s.drop i)).2.2=0→t=(fT (s.drop i)).1∧z=((i+(fT (s.drop i)).2.1:Nat):Int)):=by
 unfold SQ;have hd:=e9 s i 0 hi
 (simp only [auo])
 generalize hc:s.getD i 0=c at hd
 generalize aF:s.drop (i+1)=t at hd
 have FU:t.length+(i+1)=s.length:=by rw [←aF,List.length_drop];omega
 rw [hd];unfold fT;simp only [bw hi,aK,fs];by_cases g_:c.toNat=34
 ·simp only [al1 g_,Bool.false_eq_true,auw,g_,aug,aui,auv];unfold YY;rw [bm (by omega)]
  obtain⟨z,dx⟩:=alQ n s (by omega) n (i+1) [] (by omega) (by omega) (by simp)
  rw [dx,aF];cases ao:gw t [] with
  |inl e=>exact⟨_,_,rfl,λb4=>absurd b4 (FT _ _ _ ao)⟩
  |inr p=>exact⟨_,_,rfl,λ_=>⟨rfl,by simp only [xK,xJ];rw [show i+1+p.2=i+(p.2+1)by omega]⟩⟩
 ·simp only [g_,auh,auj,auw,aaK,ak];cases hw:fQ c
  ·simp only [auj,Bool.false_eq_true,auw,alW,ak];have:=alY n s i marks (by omega) (by omega) (by decide) (λw hw=>(Ts w hw).2) n 0 (by have:marks.length=20:=rfl;omega) (by omega)
   rw [show Fa n s (i:Int) marks n 0=_ from this,List.drop_zero,hd]
   unfold lM;cases ao:marks.find? (kQ (c::t)) with
   |none=>exact⟨_,_,rfl,λb4=>absurd b4 (by decide)⟩
   |some w=>
    have di:¬ w=[]:=λe=>by have:=(Ts w (List.mem_of_find?_eq_some ao)).1;rw [e]at this;simp at this
    simp only [Option.getD_some,di,auw];exact⟨_,_,rfl,λ_=>⟨rfl,rfl⟩⟩
  ·obtain⟨k,hk,xL,HJ⟩:=aa1 c t hw;have Tt:=LZ (c::t);simp only [aum]at Tt;simp only [aui,auv,aaL i h (by omega) (show s.length≤4611686018427387904 by omega),ak,hd,FQ (Nat.le_add_right i (hH (c::t))) (show i+hH (c::t)≤s.length by omega),aK,auo,aaZ]
   rw [xL,alN c (t.take k) (by simp only [List.length_take];omega) (by omega) (by simp only [List.length_take];omega) hw]
   exact⟨_,_,rfl,λ_=>⟨rfl,rfl⟩⟩
open Go Go.Ab Go.Proofs
def ja:Bool→aux→Nat
 |_,[]=>0
 |false,c::l=>if c.toNat=35 then 1+ja true l else if c.toNat=32∨c.toNat=9∨c.toNat=10 then 1+ja false l else 0
 |true,c::l=>if c.toNat=10 then 1+ja false l else 1+ja true l
def gS:aux→Nat
 |[]=>0
 |c::l=>if c.toNat=10 then 0 else 1+gS l
def Tv:∀l,gS l≤l.length
 |[]=>Nat.le_refl _
 |c::l=>by have:=Tv l;simp only [gS];split<;>simp only [aum]<;>omega
def Tw:∀l,ja true l=gS l+ja false (l.drop (gS l))
 |[]=>rfl
 |c::l=>by
  by_cases h:c.toNat=10
  ·simp only [ja,gS,h,auv,List.drop_zero,Nat.zero_add,show¬ (10=35)by omega,auw,or_true]
  ·simp only [ja,gS,h,auw];rw [Tw l,Nat.add_comm 1 (gS l),List.drop_succ_cons];omega
def al3(n:Nat)(s:aux)(al:Int→auC)(hs:s.length≤4611686018427387904):∀m i,s.length<i+m→i≤s.length→Lp n al s m (i:Int)=al ((i+gS (s.drop i):Nat):Int):=by
 intro m;induction m with
 |zero=>intro i h ab;omega
 |succ m aG=>
  intro i hm hi;simp only [Lp,YO];by_cases h:i<s.length
  ·(rw [e9 s i 0 h,bm (by omega),aG (i+1) (by omega) (by omega)];simp only [auo])
   generalize s.getD i 0=c
   simp only [h,bw h,aup,aug,aui,aK,auu,fs,gS];by_cases gH:c.toNat=10
   ·simp only [gH,aug,auk,auj,auv];rfl
   ·simp only [gH,auh,aul,aui,auw];rw [show i+(1+gS (s.drop (i+1)))=i+1+gS (s.drop (i+1))by omega]
  ·rw [gu s i h];simp only [h,aup,auh,auj,aul,Bool.true_or,aK];rfl
def al4(n:Nat)(s:aux)(hs:s.length≤4611686018427387904)(hn:s.length<n):∀m i,s.length<i+m→i≤s.length→Lq n s m (i:Int)=some ((i+ja false (s.drop i):Nat):Int):=by
 intro m;induction m with
 |zero=>intro i h ab;omega
 |succ m aG=>
  intro i hm hi;simp only [Lq,YP,YN];by_cases h:i<s.length
  ·have gN:=Tv (s.drop i);rw [al3 n s _ hs n i (by omega) hi]
   rw [e9 s i 0 h]at gN ⊢
   (rw [bm (by omega),aG (i+1) (by omega) (by omega)];simp only [auo])
   have FU:(s.drop (i+1)).length=s.length-(i+1):=List.length_drop;generalize s.getD i 0=c at gN ⊢
   simp only [h,bw h,aup,aug,aui,aK,auu,fs,dv];by_cases u5:c.toNat=35
   ·have e:gS (c::s.drop (i+1))=1+gS (s.drop (i+1)):=by simp only [gS,u5,show¬ (35=10)by omega,auw]
    rw [e]at gN ⊢;simp only [aum,FU]at gN;rw [aG (i+(1+gS (s.drop (i+1)))) (by omega) (by omega)]
    simp only [u5,aug,aui,ja,auv];rw [Tw,List.drop_drop]
    congr 2
    rw [show i+(1+gS (s.drop (i+1)))=i+1+gS (s.drop (i+1))by omega]
    omega
   ·simp only [u5,auh,auj,ja,auw];by_cases hb:c.toNat=32∨c.toNat=9∨c.toNat=10
    ·have:(decide (c.toNat=32)||decide (c.toNat=9)||decide (c.toNat=10))=true:=by
      rcases hb with hb|hb|hb<;>simp [hb]
     rw [if_pos hb,this,aui]
     congr 2;omega
    ·have:(decide (c.toNat=32)||decide (c.toNat=9)||decide (c.toNat=10))=false:=by
      simp only [not_or]at hb;simp only [hb.1,hb.2.1,hb.2.2,auh,Bool.or_self]
     rw [if_neg hb,this,auj];rfl
  ·rw [gu s i h];simp only [h,aup,auh,auj];rfl
def fd(s:aux)(i:Nat):Nat:=(s.take i).count 10
def aa3(s:aux)(i k:Nat)(h:(10:UInt8)∉(s.drop i).take k):fd s (i+k)=fd s i:=by
 unfold fd;rw [List.take_add,List.count_append,List.count_eq_zero.2 h];rfl
def aa4(s:aux)(i:Nat)(h:i<s.length):fd s (i+1)=fd s i+(if(s.getD i 0).toNat=10 then 1 else 0):=by
 unfold fd;rw [List.take_add,List.count_append,e9 s i 0 h,List.take_succ_cons,List.take_zero]
 congr 1
 generalize s.getD i 0=c
 by_cases hc:c.toNat=10
 ·rw [if_pos hc];obtain rfl:c=10:=UInt8.toNat_inj.1 hc;rfl
 ·rw [if_neg hc];refine List.count_eq_zero.2 λhm=>?_
  simp only [List.mem_cons,List.not_mem_nil,or_false]at hm;exact hc (by rw [←hm];rfl)
def al5(n:Nat)(s:aux)(a:Nat)(hs:s.length≤4611686018427387904)(ha:a≤s.length):∀m i,a<i+m→i≤a→Lo n s (a:Int) m ((fd s i:Nat):Int) (i:Int)=some ((fd s a:Nat):Int):=by
 intro m;induction m with
 |zero=>intro i h ab;omega
 |succ m aG=>
  intro i hm hi;simp only [Lo,YM,YL,SK];by_cases h:i<a
  ·have hle:fd s i≤i:=by unfold fd;exact Nat.le_trans List.count_le_length (by simp;omega)
   have kf:=aa4 s i (by omega)
   have pz:=aG (i+1) (by omega) (by omega)
   rw [kf]at pz
   (rw [bm (by omega),bm (by omega)];simp only [auo])
   generalize s.getD i 0=c at pz
   simp only [h,bw (show i<s.length by omega),aup,aug,aui,aK,fs]
   by_cases gH:c.toNat=10
   ·rw [if_pos gH]at pz;simp only [gH,aug,aui];exact pz
   ·rw [if_neg gH]at pz;simp only [gH,auh,auj];exact pz
  ·obtain rfl:i=a:=by omega
   simp only [Nat.lt_irrefl,aup,auh,auj]
def al6{n:Nat}(s:aux)(a:Nat)(hs:s.length≤4611686018427387904)(ha:a≤s.length)(hn:s.length<n):SL n s (a:Int)=some ((fd s a:Nat):Int):=by
 unfold SL;exact al5 n s a hs ha n 0 (by omega) (by omega)
def Tx:∀(l acc:aux) (p:aux×Nat),gw l acc = .inr p→(10:UInt8)∉l.take p.2
 |[],acc,e,h=>by simp only [gw,reduceCtorEq]at h
 |[c],acc,p,h=>by
  simp only [gw]at h;split at h
  ·rename_i hc;simp only [Sum.inr.injEq]at h;subst h;intro hm;simp only [List.take_succ_cons,List.take_zero,List.mem_cons,List.not_mem_nil,or_false]at hm;rw [←hm]at hc;exact absurd hc (by decide)
  ·(repeat' split at h)<;>simp only [reduceCtorEq]at h
 |c::d::l,acc,p,h=>by
  simp only [gw]at h;split at h
  ·rename_i hc;simp only [Sum.inr.injEq]at h;subst h;intro hm;simp only [List.take_succ_cons,List.take_zero,List.mem_cons,List.not_mem_nil,or_false]at hm;rw [←hm]at hc;exact absurd hc (by decide)
  ·split at h
   ·rename_i g_ nS;split at h
    ·simp only [reduceCtorEq]at h
    ·rename_i hd;split at h
     ·simp only [reduceCtorEq]at h
     ·cases ao:gw l (acc++[d]) with
      |inl bg=>rw [ao]at h;simp only [up,reduceCtorEq]at h
      |inr q=>
       rw [ao]at h;simp only [up,Sum.inr.injEq]at h;subst h;have:=Tx l _ _ ao
       intro hm;simp only [List.take_succ_cons,List.mem_cons]at hm;rcases hm with hm|hm|hm
       ·rw [←hm]at nS;exact absurd nS (by decide)
       ·rw [←hm]at hd;exact absurd (show(10:UInt8).toNat≠34∧(10:UInt8).toNat≠92 by decide) hd
       ·exact this hm
   ·split at h
    ·simp only [reduceCtorEq]at h
    ·rename_i cF;split at h
     ·simp only [reduceCtorEq]at h
     ·cases ao:gw (d::l) (acc++[c]) with
      |inl bg=>rw [ao]at h;simp only [up,reduceCtorEq]at h
      |inr q=>
       rw [ao]at h;simp only [up,Sum.inr.injEq]at h;subst h;have:=Tx (d::l) _ _ ao
       intro hm;rw [List.take_succ_cons,List.mem_cons]at hm;rcases hm with hm|hm
       ·rw [←hm]at cF;exact cF (by decide)
       ·exact this hm
def al7(l:aux)(aa:l≠[])(h:(fT l).2.2=0):(10:UInt8)∉l.take (fT l).2.1:=by
 cases l with
 |nil=>exact absurd rfl aa
 |cons c t=>
  unfold fT at h ⊢;simp only at h ⊢
  split at h
  ·rename_i hw;rw [if_pos hw];simp only
   intro hm
   have e:(c::t).take (hH (c::t))=(c::t).takeWhile fQ:=by
    unfold hH;exact(List.prefix_iff_eq_take.1 (List.takeWhile_prefix fQ)).symm
   rw [e]at hm;have:=List.all_eq_true.1 (List.all_takeWhile (p:=fQ) (l:=c::t)) _ hm
   exact absurd this (by decide)
  ·rename_i hw;rw [if_neg hw];split at h
   ·rename_i g_;rw [if_pos g_];cases ao:gw t [] with
    |inl e=>rw [ao]at h;exact absurd h (FT t [] e ao)
    |inr p=>
     simp only [xK];intro hm;rw [List.take_succ_cons,List.mem_cons]at hm;rcases hm with hm|hm
     ·rw [←hm]at g_;exact absurd g_ (by decide)
     ·exact Tx _ _ _ ao hm
   ·rename_i g_;rw [if_neg g_];split at h
    ·simp only at h;omega
    ·rename_i hm;rw [if_neg hm];simp only
     unfold lM at hm ⊢;cases ao:marks.find? (kQ (c::t)) with
     |none=>rw [ao]at hm;exact absurd rfl hm
     |some w=>
      simp only [Option.getD_some];have ab:=List.find?_some ao;rw [(of_decide_eq_true ab).2];have:∀w,w∈marks→decide ((10:UInt8)∉w)=true:=by decide
      exact of_decide_eq_true (this w (List.mem_of_find?_eq_some ao))
def aa5:∀l:aux,(10:UInt8)∉l.take (gS l)
 |[]=>by simp
 |c::l=>by
  by_cases h:c.toNat=10
  ·simp [gS,h]
  ·have:=aa5 l
   simp only [gS,h,auw];rw [Nat.add_comm,List.take_succ_cons,List.mem_cons];intro hm;rcases hm with hm|hm
   ·rw [←hm]at h;exact h rfl
   ·exact this hm
open Go Go.Ab Go.Proofs
def lN:List Token→Nat
 |[]=>0
 |t::l=>60+t.Text.length+lN l
def Ty:∀l m:List Token,lN (l++m)=lN l+lN m
 |[],m=>by simp [lN]
 |t::l,m=>by rw [List.cons_append,lN,lN,Ty l m];omega
def L2:∀l:List Token,60*l.length≤lN l
 |[]=>Nat.le_refl _
 |t::l=>by have:=L2 l;simp only [lN,aum];omega
def al8(n:Nat)(src:aux)(al:List Token→Int→Int→Option (List Token×Int×Int))(out:List Token)(j':Int)(hs:src.length≤4611686018427387904):
 ∀m i,src.length<i+m→i≤src.length→Eh n al src out j' m (i:Int)=al out j' ((i+gS (src.drop i):Nat):Int):=by
 intro m;induction m with
 |zero=>intro i h ab;omega
 |succ m aG=>
  intro i hm hi;simp only [Eh,QQ,QP];by_cases h:i<src.length
  ·(rw [e9 src i 0 h,bm (by omega),aG (i+1) (by omega) (by omega)];simp only [auo])
   generalize src.getD i 0=c
   simp only [h,bw h,aup,aug,aui,aK,auu,fs,gS];by_cases gH:c.toNat=10
   ·simp only [gH,aug,auk,auj,auv];rfl
   ·simp only [gH,auh,aul,aui,auw];rw [show i+(1+gS (src.drop (i+1)))=i+1+gS (src.drop (i+1))by omega]
  ·rw [gu src i h];simp only [h,aup,auh,auj,aul,Bool.true_or,aK];rfl
def clone{n:Nat}{s:aux}(h:s.length≤281474976710656):Ju n s=some s:=by
 unfold Ju HW;simp only [h,aug,aK,ak]
def aa6{k:Nat}(h:k≤1000000000000):room k 40=true:=by simp [room];omega
def aa7{n:Nat}(s:aux)(i:Nat)(hs:s.length≤4611686018427387904)(hn:s.length<n)(hi:i≤s.length):Lr n s (i:Int)=some ((i+ja false (s.drop i):Nat):Int):=al4 n s hs hn n i (by omega) hi
def al9(
 G:Token→Prop) (sL:∀(s:aux) (j':Int),s≠[]→(fT s).2.2=0→G ⟨(fT s).1.Kind,(fT s).1.Text,(fT s).1.N,j'⟩) (n:Nat) (src:aux) (hs:src.length≤1000000000) (hn:src.length<n) (rL:100<n):∀(k i m m2:Nat) (out:List Token),src.length-i=k→i≤src.length→src.length<i+m→src.length<i+m2→lN out≤61*i→(∀t,t∈out→G t)→
 ∃r,s2 n src m out ((fd src i+1:Nat):Int) (i:Int)=some r∧Fb n src m2 out ((i+ja false (src.drop i):Nat):Int)=some r∧(r.2.2=0→lN r.1≤61*src.length∧∀t,t∈r.1→G t):=by
 intro k;induction k using Nat.strongRecOn with
 |_ k aa8=>
  intro i m m2 out hk hi hm atx hw Tz;cases m with
  |zero=>omega
  |succ m=>
   simp only [s2,z1,zY];by_cases h:i<src.length
   ·have hd:=e9 src i 0 h;have kf:=aa4 src i h;have aty:fd src i≤i:=by unfold fd;exact Nat.le_trans List.count_le_length (by simp;omega)
    simp only [zZ,Eg]
    (rw [al8 n src _ out _ (by omega) n i (by omega) hi,bm (by omega),bm (by omega)];simp only [auo])
    have FU:(src.drop (i+1)).length=src.length-(i+1):=List.length_drop;have gN:=Tv (src.drop i);have al':=aa5 (src.drop i);have TA:∀(j:Nat),i<j→j≤src.length→_:=λj hj v7=>aa8 (src.length-j) (by omega) j m m2 out rfl v7 (by omega) (by omega) (by omega) Tz
    generalize hc:src.getD i 0=c at hd kf
    simp only [h,bw h,aup,aug,aui,aK,fs];by_cases gH:c.toNat=10
    ·simp only [gH,aug,aui];obtain⟨r,Z,ab,aj⟩:=TA (i+1) (by omega) (by omega)
     rw [kf,if_pos gH]at Z;refine⟨r,Z,?_,aj⟩
     rw [hd];simp only [ja,gH,show¬ (10=35)by omega,auw,or_true,auv]
     rw [show i+(1+ja false (src.drop (i+1)))=i+1+ja false (src.drop (i+1))by omega]
     exact ab
    ·have al_:fd src (i+1)=fd src i:=by rw [kf,if_neg gH];rfl
     simp only [gH,auh,auj];by_cases hb:c.toNat=32∨c.toNat=9
     ·obtain⟨r,Z,ab,aj⟩:=TA (i+1) (by omega) (by omega)
      rw [al_]at Z;refine⟨r,?_,?_,aj⟩
      ·rcases hb with hb|hb
       ·simp only [hb,aug,aui];exact Z
       ·simp only [hb,show¬ (9=32)by omega,auh,aug,aui,auj];exact Z
      ·rw [hd];simp only [ja];rw [if_neg (by omega),if_pos (by omega),show i+(1+ja false (src.drop (i+1)))=i+1+ja false (src.drop (i+1))by omega]
       exact ab
     ·have dc:¬ c.toNat=32:=λe=>hb (Or.inl e)
      have fC:¬ c.toNat=9:=λe=>hb (Or.inr e)
      simp only [dc,fC,auh,auj];by_cases u5:c.toNat=35
      ·simp only [u5,aug,aui];have e:gS (src.drop i)=1+gS (src.drop (i+1)):=by rw [hd];simp only [gS,gH,auw]
       obtain⟨r,Z,ab,aj⟩:=TA (i+gS (src.drop i)) (by omega) (by simp only [List.length_drop]at gN;omega)
       rw [aa3 src i _ al']at Z;refine⟨r,Z,?_,aj⟩
       rw [hd];simp only [ja,u5,auv]
       rw [Tw,List.drop_drop,show i+(1+(gS (src.drop (i+1))+ja false (src.drop (i+1+gS (src.drop (i+1))))))=i+gS (src.drop i)+ja false (src.drop (i+gS (src.drop i))) by
        rw [e,show i+(1+gS (src.drop (i+1)))=i+1+gS (src.drop (i+1))by omega];omega]
       exact ab
      ·simp only [u5,auh,auj,xI (Nat.le_of_lt h),aK]
       have ama:ja false (src.drop i)=0:=by
        rw [hd];simp only [ja];rw [if_neg u5,if_neg (by omega)]
       rw [ama,show i+0=i from rfl]
       cases m2 with
       |zero=>omega
       |succ m2=>
        simp only [Fb,SR];have di:src.drop i≠[]:=by rw [hd];simp
        obtain⟨t,z,ix,iV⟩:=al2 (n:=n) src i h (by omega) rL (by omega)
        have aY:zX n (src.drop i)=some ((fT (src.drop i)).1,(((fT (src.drop i)).2.1:Nat):Int),(fT (src.drop i)).2.2):=by
         rw [hd];exact aa2 c (src.drop (i+1)) (by omega) (by omega)
        rw [aY,ix,al6 src i (by omega) hi hn]
        simp only [h,aup,aug,aui,ak];rw [bm (by omega)]
        by_cases he:(fT (src.drop i)).2.2=0
        ·have cF:=aa0 _ di he;have TB:=al7 _ di he;have atz:(src.drop i).length=src.length-i:=List.length_drop;obtain⟨rfl,rfl⟩:=iV he;have fG:=sL (src.drop i) ((fd src i+1:Nat):Int) di he;generalize fT (src.drop i)=T at he cF TB fG
         obtain⟨t,kk,e⟩:=T;simp only at he cF TB fG
         subst he;have G1:=L2 out;simp only [aug,auk,auj,clone (show t.Text.length≤281474976710656 by omega),ak,aum,aun,aa6 (show out.length+(0+1)≤1000000000000 by omega),aK]
         rw [show auz ((i:Int)+((kk:Nat):Int))=((i+kk:Nat):Int)by rw [wr]<;>omega,aa7 src (i+kk) (by omega) hn (by omega),ak]
         obtain⟨r,Z,ab,aj⟩:=aa8 (src.length-(i+kk)) (by omega) (i+kk) m m2 (out++[⟨t.Kind,t.Text,t.N,((fd src i+1:Nat):Int)⟩]) rfl (by omega) (by omega) (by omega) (by rw [Ty];simp only [lN];omega) (λbS eM=>by
          rcases List.mem_append.1 eM with cO|cO
          ·exact Tz bS cO
          ·obtain rfl:=List.mem_singleton.1 cO;exact fG)
         rw [aa3 src i _ TB]at Z;exact⟨r,Z,ab,aj⟩
        ·simp only [he,auh,aul,aui];exact⟨_,rfl,rfl,λb4=>absurd b4 he⟩
   ·rw [gu src i h];simp only [ja,Nat.add_zero];cases m2 with
    |zero=>omega
    |succ m2=>
     simp only [Fb,SR,Y1,h,aup,auh,auj];exact⟨_,rfl,rfl,λ_=>⟨by simp only;omega,Tz⟩⟩
def amb(G:Token→Prop)(sL:∀(s:aux) (j':Int),s≠[]→(fT s).2.2=0→G ⟨(fT s).1.Kind,(fT s).1.Text,(fT s).1.N,j'⟩){n:Nat}(src:aux)(hn:src.length≤16384→src.length<n)(rL:100<n):
 ∃r,w8 n src=some r∧Y2 n src=some r∧(r.2.2=0→lN r.1≤61*src.length∧src.length≤16384∧∀t,t∈r.1→G t):=by
 unfold w8 Y2;simp only [eO];by_cases h:16384<src.length
 ·simp only [h,aug,aui];exact⟨_,rfl,rfl,λe=>absurd e (by decide)⟩
 ·simp only [h,auh,auj];have hn:=hn (by omega)
  have:=aa7 (n:=n) src 0 (by omega) hn (by omega)
  rw [show Lr n src 0=_ from this,ak]
  obtain⟨r,Z,ab,aj⟩:=al9 G sL n src (by omega) hn rL (src.length-0) 0 n n [] rfl (by omega) (by omega) (by omega) (by simp [lN]) (λt aF=>by cases aF)
  exact⟨r,Z,ab,λe=>⟨(aj e).1,by omega,(aj e).2⟩⟩
def amc(s:aux)(j':Int)(hs:s≠[])(h:(fT s).2.2=0):(fT s).1.Kind=5→(fT s).1.Text∈marks:=by
 cases s with
 |nil=>exact absurd rfl hs
 |cons c t=>
  unfold fT at h ⊢;simp only at h ⊢
  split
  ·intro hk;exfalso
   revert hk
   generalize (c::t).take (hH (c::t))=w
   cases w with
   |nil=>intro hk;simp [lb]at hk
   |cons d w=>
    unfold lb;simp only
    (repeat' split)<;>(intro hk;simp at hk)
  ·split
   ·cases gw t []<;>(intro hk;exfalso;simp [xK]at hk)
   ·split
    ·rename_i hm;intro hk;exfalso;simp at hk
    ·rename_i hm;intro _;simp only
     unfold lM at hm ⊢;cases ao:marks.find? (kQ (c::t)) with
     |none=>rw [ao]at hm;exact absurd rfl hm
     |some w=>exact List.mem_of_find?_eq_some ao
open Go Go.Ab Go.Proofs
def hK(l:List Token)(i:Nat)(w:aux):Bool:=
 decide (i<l.length)&&((decide ((l.getD i default).Kind=2)||decide ((l.getD i default).Kind=5))&&decide ((l.getD i default).Text=w))
def TC{l:List Token}{i:Nat}{w:aux}(h:hK l i w=true):i<l.length:=by
 unfold hK at h;simp only [Bool.and_eq_true,decide_eq_true_eq]at h;exact h.1
def xM(n:Nat)(l:List Token)(i:Nat)(w:aux):uF n w ⟨l,(i:Int)⟩=some (hK l i w):=by
 unfold uF hK;simp only [auo,Int.ofNat_le,dv,eg];by_cases h:i<l.length
 ·simp only [show¬ l.length≤i by omega,auh,auj,bw h,aK,h,aug,Bool.true_and]
 ·simp only [show l.length≤i by omega,aug,aui,h,auh,Bool.false_and]
def aa9(l:List Token)(i:Nat):Int:=
 if i<l.length then(l.getD i default).lE else if l.length=0 then 1 else(l.getD (l.length-1) default).lE
def tW(l:List Token)(i:Nat)(c:Int):V:=.iface 332 (.agg [.int .i64 (aa9 l i),.int .i64 c])
def Br(l:List Token)(i:Nat)(c:Int):Int:=if i<l.length then c else 6
def L3(n:Nat)(l:List Token)(i:Nat)(c:Int)(aa:l.length≤4611686018427387904):s3 n c ⟨l,(i:Int)⟩=some (.bf (tW l i (Br l i c)) ()):=by
 unfold s3 QS QR tW aa9 Br;simp only [auo,aup];by_cases h:i<l.length
 ·simp only [h,bw h,aug,aui,aK,auv]
 ·simp only [h,auh,auj,auw];by_cases h0:l.length=0
  ·simp only [h0,auv];rfl
  ·have:auz (((l.length:Nat):Int)-1)=((l.length-1:Nat):Int):=by rw [wr]<;>omega
   rw [this];simp only [fs,h0,auh,auj,bw (show l.length-1<l.length by omega),aK,auo,auw]
def FV(n:Nat)(l:List Token)(i:Nat)(w:aux)(hi:i≤4611686018427387904):kI n w ⟨l,(i:Int)⟩=some (hK l i w,(((bif hK l i w then i+1 else i):Nat):Int)):=by
 unfold kI;rw [xM,ak,bm hi];cases hK l i w<;>rfl
def Bs(n:Nat)(l:List Token)(i:Nat)(w:aux)(hi:i≤4611686018427387904)(aa:l.length≤4611686018427387904):
 kJ n w ⟨l,(i:Int)⟩=some (bif hK l i w then .ret () ((i+1:Nat):Int)else .bf (tW l i (Br l i 5)) (i:Int)):=by
 unfold kJ;rw [FV n l i w hi,ak];cases hK l i w
 ·simp only [aul,aui,auj];rw [L3 n l i 5 aa,ak];rfl
 ·rfl
def rM:List (aux×Int×Int):=[([111,114],1,17),([97,110,100],2,16),([61,61],4,10),([33,61],4,11),([60],4,12),([60,61],4,13),([62],4,14),([62,61],4,15),([43,43],5,19),([43],6,4),([45],6,5),([42],7,6),([47],7,7),([37],7,8)]
def L4:Option (aux×Int×Int)→Int×Int
 |none=>(0,0)
 |some r=>r.2
def tm(l:List Token)(i:Nat):Int×Int:=L4 (rM.find? λr=>hK l i r.1)
def TD{l:List Token}{i:Nat}(h:i<l.length)(hk:(l.getD i default).Kind=2∨(l.getD i default).Kind=5)(w:aux):hK l i w=decide ((l.getD i default).Text=w):=by
 unfold hK;have:(decide ((l.getD i default).Kind=2)||decide ((l.getD i default).Kind=5))=true:=by rcases hk with hk|hk<;>rw [decide_eq_true hk]<;>simp
 rw [this,decide_eq_true h];rfl
def L5{l:List Token}{i:Nat}(h:¬ (i<l.length∧((l.getD i default).Kind=2∨(l.getD i default).Kind=5)))(w:aux):hK l i w=false:=by
 unfold hK;by_cases Z:i<l.length
 ·by_cases ab:(l.getD i default).Kind=2
  ·exact absurd ⟨Z,Or.inl ab⟩ h
  ·by_cases aj:(l.getD i default).Kind=5
   ·exact absurd ⟨Z,Or.inr aj⟩ h
   ·rw [decide_eq_false ab,decide_eq_false aj];simp
 ·rw [decide_eq_false Z];rfl
def TE(n:Nat)(l:List Token)(i:Nat):Jw n ⟨l,(i:Int)⟩=some (tm l i):=by
 unfold Jw tm
 (simp only [auo])
 simp only [Int.ofNat_le,eg];by_cases h:i<l.length
 ·simp only [show¬ l.length≤i by omega,auh,auj,bw h,aK]
  by_cases hk:(l.getD i default).Kind=2∨(l.getD i default).Kind=5
  ·have ia:((!decide ((l.getD i default).Kind=2)) && !decide ((l.getD i default).Kind=5))=false:=by
    rcases hk with hk|hk<;>rw [decide_eq_true hk]<;>simp
   rw [ia];simp only [auj,TD h hk];generalize (l.getD i default).Text=w
   by_cases hw:w∈rM.map (·.1)
   ·simp only [rM,List.map_cons,List.map_nil,List.mem_cons,List.not_mem_nil,or_false]at hw;rcases hw with rfl|rfl|rfl|rfl|rfl|rfl|rfl|rfl|rfl|rfl|rfl|rfl|rfl|rfl<;>rfl
   ·simp only [rM,List.map_cons,List.map_nil,List.mem_cons,List.not_mem_nil,or_false,not_or]at hw;simp only [hw,auh,auj,rM,List.find?_cons,List.find?_nil];rfl
  ·have ia:((!decide ((l.getD i default).Kind=2)) && !decide ((l.getD i default).Kind=5))=true:=by
    simp only [not_or]at hk;rw [decide_eq_false hk.1,decide_eq_false hk.2];rfl
   rw [ia];simp only [aui,L5 (λx=>hk x.2),rM,List.find?_cons,List.find?_nil]
   rfl
 ·simp only [show l.length≤i by omega,aug,aui,L5 (λx=>h x.1),rM,List.find?_cons,List.find?_nil]
  rfl
open Go Go.Ab Go.Proofs
def qz:List (aux×Int):=[([116,101,120,116],20),([108,101,110],21),([103,101,116,105,110,116],22),([103,101,116,115,116,114],23),([104,97,115],24),([110,111,119],25),([114,97,110,100,111,109],26),([110,111,100,101],27)]
def call2:Option (aux×Int)→Int
 |none=>0
 |some r=>r.2
def L6(l:List Token)(i:Nat):Int:=call2 (qz.find? λr=>hK l i r.1)
def ld(l:List Token):Prop:=∀t,t∈l→t.Kind=5→t.Text∈marks
def TF(n:Nat)(l:List Token)(i:Nat)(hg:ld l):Jy n ⟨l,(i:Int)⟩=some (L6 l i):=by
 unfold Jy L6
 (simp only [auo])
 simp only [Int.ofNat_le,dv];by_cases h:i<l.length
 ·simp only [show¬ l.length≤i by omega,auh,Bool.false_or,bw h,aK]
  by_cases hk:(l.getD i default).Kind=2
  ·simp only [hk,aug,auk,auj,TD h (Or.inl hk)];generalize (l.getD i default).Text=w
   by_cases hw:w∈qz.map (·.1)
   ·simp only [qz,List.map_cons,List.map_nil,List.mem_cons,List.not_mem_nil,or_false]at hw;rcases hw with rfl|rfl|rfl|rfl|rfl|rfl|rfl|rfl<;>rfl
   ·simp only [qz,List.map_cons,List.map_nil,List.mem_cons,List.not_mem_nil,or_false,not_or]at hw;simp only [hw,auh,auj,qz,List.find?_cons,List.find?_nil];rfl
  ·simp only [hk,auh,aul,aui];by_cases aT:(l.getD i default).Kind=5
   ·have hm:(l.getD i default).Text∈marks:=hg _ (by simp [List.getD,h]) aT
    simp only [TD h (Or.inr aT)];generalize (l.getD i default).Text=w at hm
    have:∀w,w∈marks→qz.find? (λr=>decide (w=r.1))=none:=by decide
    rw [this w hm];rfl
   ·have:∀w,hK l i w=false:=L5 (λx=>by rcases x.2 with e|e;exact hk e;exact aT e)
    simp only [this,qz,List.find?_cons,List.find?_nil];rfl
 ·simp only [show l.length≤i by omega,aug,Bool.true_or,aK,aui,L5 (λx=>h x.1),qz,List.find?_cons,List.find?_nil]
  rfl
def TG(n:Nat)(l:List Token)(i d:Nat)(aa:l.length≤4611686018427387904)(hd:d≤24):z6 n (d:Int) ⟨l,(i:Int)⟩=some (if d=24 then .bf (tW l i (Br l i 2)) ()else .ret ((d+1:Nat):Int) ()):=by
 unfold z6 Jx;simp only [tj];by_cases h:d=24
 ·simp only [show 24≤d by omega,aug,aui,L3 n l i 2 aa,ak,h,auv];rfl
 ·simp only [show¬ 24≤d by omega,auh,auj,h,auw]
  rw [bm (by omega)]
open Go Go.Ab Go.Proofs
def FW(n:Nat):h2 (n+1)=uG n (h2 n) (oJ n) (na n) (oK n):=rfl
def amd(n:Nat):oJ (n+1)=Jz n (h2 n) (oJ n) (na n) (oK n):=rfl
def ame(n:Nat):na (n+1)=JB n (h2 n) (oJ n) (na n) (oK n):=rfl
def amf(n:Nat):oK (n+1)=JC n (h2 n) (oJ n) (na n) (oK n):=rfl
section
variable {l:List Token}
theorem aa'{i:Nat}(h:i≤1000000000):auz (((i+1:Nat):Int)-1)=(i:Int):=by rw [wr]<;>omega
end
open Go Go.Ab Go.Proofs
def iN(e:Expr):(⟨e.Op,e.N,e.S,e.ar⟩:Expr)=e:=by cases e;rfl
section
variable {l:List Token}
end
open Go Go.Ab Go.Proofs
open Go Go.Ab Go.Proofs
def amg(n:Nat)(l:List Token)(i:Nat)(kd:Int)(aa:l.length≤1000000000)(hi:i≤l.length):
 qo n kd ⟨l,(i:Int)⟩=some (if i<l.length∧(l.getD i default).Kind=kd then .ret (l.getD i default) ((i+1:Nat):Int)else .bf (tW l i (Br l i 5)) (i:Int)):=by
 unfold qo JD
 (rw [bm (by omega),aa' (by omega)];simp only [auo])
 simp only [Int.ofNat_le,dv];by_cases h:i<l.length
 ·simp only [show¬ l.length≤i by omega,auh,Bool.false_or,bw h,aK,h,true_and]
  by_cases hk:(l.getD i default).Kind=kd
  ·rw [if_pos hk];simp only [hk,aug,auk,auj]
  ·rw [if_neg hk];simp only [hk,auh,aul,aui,L3 n l i 5 (by omega),ak,aE.on]
 ·rw [if_neg (λx=>h x.1)]
  simp only [show l.length≤i by omega,aug,Bool.true_or,aK,aui,L3 n l i 5 (by omega),ak,aE.on]
section
variable {α:Type} {wt:α→Nat} {l:List Token}
end
mutual
def fst:Stmt→Nat
 |⟨_,Name,_,A,B,Body,bz⟩=>80+Name.length+da A+da B+dq Body+dq bz
def dq:List Stmt→Nat
 |[]=>0
 |x::l=>fst x+1+dq l
end
def mC(s:Stmt):(⟨s.Op,s.Name,s.Max,s.A,s.B,s.Body,s.bz⟩:Stmt)=s:=by cases s;rfl
def fst_eq(s:Stmt):fst s=80+s.Name.length+da s.A+da s.B+dq s.Body+dq s.bz:=by cases s;rfl
def TH:∀l m:List Stmt,dq (l++m)=dq l+dq m
 |[],m=>by simp [dq]
 |x::l,m=>by rw [List.cons_append,dq,dq,TH l m];omega
def rN:∀l:List Stmt,80*l.length≤dq l
 |[]=>Nat.le_refl _
 |x::l=>by have:=rN l;have:=fst_eq x;simp only [dq,aum];omega
def amh(n:Nat)(s:Stmt)(l:List Token)(i:Nat)(hi:i≤4611686018427387904)(aa:l.length≤4611686018427387904):
 rB n s ⟨l,(i:Int)⟩=some (bif hK l i [59]then .ret s ((i+1:Nat):Int)else .bf (tW l i (Br l i 5)) (i:Int)):=by
 unfold rB;rw [Bs n l i _ hi aa];cases hK l i [59]
 ·rfl
 ·simp only [ak,aui,aE.on,iN,mC]
open Go Go.Ab Go.Proofs
def ami(n:Nat):rD (n+1)=JG n (rD n) (xh n) (z' n):=rfl
def tn(n:Nat):xh (n+1)=pn n (rD n) (xh n) (z' n):=rfl
def amj(n:Nat):z' (n+1)=JN n (rD n) (xh n) (z' n):=rfl
section
variable {l:List Token}
theorem amk{k:Nat}(h:k≤100000000000):room k 192=true:=by simp [room];omega
end
open Go Go.Ab Go.Proofs
section
variable {l:List Token}
end
open Go Go.Ab Go.Proofs
section
variable {l:List Token}
end
open Go Go.Ab Go.Proofs
section
variable {l:List Token}
end
open Go Go.Ab Go.Proofs
section
variable {l:List Token}
theorem aa_{k:Nat}(h:k≤100000000000):room k 24=true:=by simp [room];omega
end
open Go Go.Ab Go.Proofs
def h4:List Param→Nat
 |[]=>0
 |p::l=>60+p.Name.length+h4 l
def xN:∀l:List Param,60*l.length≤h4 l
 |[]=>Nat.le_refl _
 |t::l=>by have:=xN l;simp only [h4,aum];omega
section
variable {l:List Token}
def aml(p:bb):Nat:=p.Name.length+h4 p.Params+dq p.Body
end
open Go Go.Ab Go.Proofs
mutual
def gV:Expr→Int→Int
 |⟨Op,N,S,ar⟩,d=>if px ⟨Op,N,S,ar⟩ d=0 then tp ar (auz (d+1))else px ⟨Op,N,S,ar⟩ d
def tp:List Expr→Int→Int
 |[],d=>0
 |x::l,d=>if gV x d=0 then tp l d else gV x d
end
def aba(e:Expr)(d:Int):gV e d=if px e d=0 then tp e.ar (auz (d+1))else px e d:=by cases e;rfl
def abb:∀(n:Nat) (e:Expr) (d:Int),da e≤n→da e≤140737488351232→zi n e d=some (gV e d)∧AM n e d=some (gV e d):=by
 intro n;induction n with
 |zero=>intro e d h;rw [oQ]at h;omega
 |succ n aG=>
  intro e d h aa;have tl:=oQ e;have py:=Bo e.ar;simp only [zi,AM,PP,RZ];rw [aly e d (by omega) (by omega),alz e d (by omega) (by omega) (by omega),aba]
  simp only [ak];by_cases h0:px e d=0
  ·rw [if_pos h0];simp only [h0,aug,auk,auj]
   have gR:∀m i,e.ar.length<i+m→i≤e.ar.length→Dy n (zi n) d e m (i:Int)=some (tp (e.ar.drop i) (auz (d+1)))∧EQ n (AM n) d e m (i:Int)=some (tp (e.ar.drop i) (auz (d+1))):=by
    intro m;induction m with
    |zero=>intro i Z ab;omega
    |succ m la=>
     intro i Z ab;simp only [Dy,PO,PN,EQ,RY,RX];by_cases hi:i<e.ar.length
     ·have hg:=Bp e.ar i hi;obtain⟨ix,iV⟩:=aG (e.ar.getD i default) (auz (d+1)) (by omega) (by omega)
      obtain⟨amm,rL⟩:=la (i+1) (by omega) (by omega)
      (rw [e9 e.ar i default hi,bm (by omega)];simp only [auo];rw [ix,iV,amm,rL])
      simp only [hi,bw hi,aup,aug,aui,aK,ak,tp];by_cases ai:gV (e.ar.getD i default) (auz (d+1))=0
      ·simp only [ai,aug,auk,auj,auv,and_self]
      ·simp only [ai,auh,aul,aui,auw,and_self]
     ·rw [gu e.ar i hi];simp only [hi,aup,auh,auj,tp,and_self]
   exact gR n 0 (by omega) (by omega)
  ·rw [if_neg h0];simp only [h0,auh,aul,aui,and_self]
def abc{n:Nat}(e:Expr)(h:da e≤n)(aa:da e≤140737488351232):Dz n e=some (gV e 1):=by
 simp only [Dz,(abb n e 1 h aa).1,ak]
def abd{n:Nat}(e:Expr)(h:da e≤n)(aa:da e≤140737488351232):ER n e=some (gV e 1):=by
 simp only [ER,(abb n e 1 h aa).2,ak]
def ng(e:Expr):Bool:=decide (e.Op=0)&&decide (e.N=0)&&decide (e.S=[])&&decide (e.ar.length=0)
def abe(n:Nat)(e:Expr):zj n e=some (ng e):=by
 simp only [zj,ng,eg,fs]
def abf(n:Nat)(e:Expr):s_ n e=some (ng e):=by
 simp only [s_,ng,eg,fs]
def j_(op:Int):k5×Bool:=
 if op=1∨op=2 then(⟨true,true,false,false,false,false⟩,true)
 else if op=3 then(⟨false,true,true,false,false,false⟩,true)
 else if op=4∨op=7 then(⟨false,true,false,false,false,false⟩,true)
 else if op=5 then(⟨false,true,false,false,true,true⟩,true)
 else if op=6 then(⟨true,true,true,true,true,false⟩,true)
 else if op=8 then(⟨false,false,false,true,false,false⟩,true)
 else(⟨false,false,false,false,false,false⟩,false)
def amn(n:Nat)(op:Int):Iq n op=some (j_ op):=by
 by_cases h:1≤op∧op≤8
 ·obtain rfl|rfl|rfl|rfl|rfl|rfl|rfl|rfl:op=1∨op=2∨op=3∨op=4∨op=5∨op=6∨op=7∨op=8:=by omega
  all_goals rfl
 ·have e:j_ op=(⟨false,false,false,false,false,false⟩,false):=by
   unfold j_;rw [if_neg (by omega),if_neg (by omega),if_neg (by omega),if_neg (by omega),if_neg (by omega),if_neg (by omega)]
  rw [e];simp only [Iq,Ip,Io,PQ,show¬ op=1 by omega,show¬ op=2 by omega,show¬ op=3 by omega,show¬ op=4 by omega,show¬ op=5 by omega,show¬ op=6 by omega,show¬ op=7 by omega,show¬ op=8 by omega,auh,auj]
def amo(n:Nat)(op:Int)(h:1≤op∧op≤8):ES n op=some ((j_ op).1.name,(j_ op).1.max,(j_ op).1.a,(j_ op).1.b,(j_ op).1.body,(j_ op).1.other):=by
 obtain rfl|rfl|rfl|rfl|rfl|rfl|rfl|rfl:op=1∨op=2∨op=3∨op=4∨op=5∨op=6∨op=7∨op=8:=by omega
 all_goals rfl
def amp(n:Nat)(op:Int)(h:¬ (1≤op∧op≤8)):ES n op=some (false,true,false,false,false,false):=by
 simp only [ES,Ky,Kx,R0,show¬ op=1 by omega,show¬ op=2 by omega,show¬ op=3 by omega,show¬ op=4 by omega,show¬ op=5 by omega,show¬ op=6 by omega,show¬ op=7 by omega,auh,auj]
def Bt(s:Stmt)(u:k5):Bool:=
 (!u.name && !decide (s.Name=[]))||(!u.a && !ng s.A)||(!u.b && !ng s.B)||(!u.max && !decide (s.Max=0))||(!u.body&&decide (0<s.Body.length))||(!u.other&&decide (0<s.bz.length))
def rO(s:Stmt):Bool:=if s.Op=6 then decide (1≤s.Max)&&decide (s.Max≤16)else if s.Op=8 then decide (0≤s.Max)&&decide (s.Max≤999)else true
def kp(s:Stmt)(d:Int):Int:=
 if(j_ s.Op).2=false∨Bt s (j_ s.Op).1=true∨rO s=false then 1
 else if(j_ s.Op).1.name=true∧gv s.Name=false then 7
 else if(j_ s.Op).1.a=true∧gV s.A 1≠0 then gV s.A 1
 else if(j_ s.Op).1.b=true∧gV s.B 1≠0 then gV s.B 1
 else if 12<d then 2 else 0
open Go Go.Ab Go.Proofs
def amq(n:Nat)(s:Stmt)(u:k5):In n s u=some (!Bt s u&&rO s):=by
 have hm:(bif decide (s.Op=6)then some (bif decide (1≤s.Max)then decide (s.Max≤16)else false)else bif decide (s.Op=8)then some (bif decide (0≤s.Max)then decide (s.Max≤999)else false)else some true)=some (rO s):=by
  unfold rO;by_cases bP:s.Op=6
  ·simp only [bP,aug,aui,auv,eg]
  ·by_cases dj:s.Op=8
   ·simp only [dj,show¬ (8:Int)=6 by omega,aug,auh,aui,auj,auv,auw,eg]
   ·simp only [bP,dj,auh,auj,auw]
 unfold In Bt;rw [hm];simp only [abe,iN,eg,dv,eO];generalize decide (s.Name=[])=x
 generalize ng s.A=y
 generalize ng s.B=z
 generalize decide (s.Max=0)=w
 generalize decide (0<s.Body.length)=p
 generalize decide (0<s.bz.length)=q
 generalize rO s=r
 obtain⟨mD,a,b,kc,kZ,xO⟩:=u;cases mD<;>cases x<;>cases a<;>cases y<;>cases b<;>cases z<;>simp only [auk,aul,Bool.and_true,Bool.and_false,Bool.true_and,Bool.false_and,auu,Bool.or_false,Bool.true_or,Bool.false_or,aui,auj,ak]<;>(cases ((!kc && !w)||(!kZ&&p)||(!xO&&q))<;>simp_all)
def amr{n:Nat}(s:Stmt)(d:Int)(aO:da s.A≤n)(cN:da s.B≤n)(u6:da s.A≤140737488351232)(mE:da s.B≤140737488351232)(aI:s.Name.length≤140737488351232):It n s d=some (kp s d):=by
 unfold It Is Ir kp;simp only [amn,ak,iN,mC,amq,Bn n s.Name aI,abc s.A aO u6,abc s.B cN mE];generalize (j_ s.Op)=U
 obtain⟨u,ams⟩:=U;obtain⟨mD,a,b,kc,kZ,xO⟩:=u;simp only
 generalize Bt s ⟨mD,a,b,kc,kZ,xO⟩=m
 generalize rO s=r
 cases ams
 ·simp
 ·cases m
  ·cases r
   ·simp
   ·generalize gv s.Name=x
    simp only [auk,aul,aui,auj,ak,Bool.true_and,Bool.and_true,Bool.true_eq_false,Bool.false_eq_true,or_self,auw];cases mD
    ·simp only [auj,ak,Bool.false_eq_true,false_and,auw];cases a
     ·simp only [auj,Bool.false_eq_true,false_and,auw];cases b
      ·by_cases gP:12<d<;>simp [gP]
      ·by_cases hb:gV s.B 1=0<;>by_cases gP:12<d<;>simp [hb,gP]
     ·by_cases ha:gV s.A 1=0
      ·cases b
       ·by_cases gP:12<d<;>simp [ha,gP]
       ·by_cases hb:gV s.B 1=0<;>by_cases gP:12<d<;>simp [ha,hb,gP]
      ·simp [ha]
    ·cases x
     ·simp
     ·simp only [aui,ak,auk,auj,Bool.true_eq_false,and_false,auw];cases a
      ·simp only [auj,Bool.false_eq_true,false_and,auw];cases b
       ·by_cases gP:12<d<;>simp [gP]
       ·by_cases hb:gV s.B 1=0<;>by_cases gP:12<d<;>simp [hb,gP]
      ·by_cases ha:gV s.A 1=0
       ·cases b
        ·by_cases gP:12<d<;>simp [ha,gP]
        ·by_cases hb:gV s.B 1=0<;>by_cases gP:12<d<;>simp [ha,hb,gP]
       ·simp [ha]
  ·simp
def amt(s:Stmt):((decide (s.Op=6)&&(decide (s.Max<1)||decide (16<s.Max)))||(decide (s.Op=8)&&(decide (s.Max<0)||decide (999<s.Max)))) = !rO s:=by
 unfold rO;by_cases bP:s.Op=6
 ·simp only [bP,auv,aug,Bool.true_and,show¬ (6:Int)=8 by omega,auh,Bool.false_and,Bool.or_false]
  by_cases Z:s.Max<1
  ·simp only [Z,show¬ 1≤s.Max by omega,aug,auh,Bool.true_or,Bool.false_and,aul]
  ·by_cases ab:16<s.Max
   ·simp only [Z,ab,show¬ s.Max≤16 by omega,aug,auh,auu,Bool.and_false,aul]
   ·simp only [Z,ab,show s.Max≤16 by omega,show 1≤s.Max by omega,aug,auh,Bool.or_self,Bool.and_self,auk]
 ·by_cases dj:s.Op=8
  ·simp only [dj,show¬ (8:Int)=6 by omega,auv,auw,aug,auh,Bool.true_and,Bool.false_and,Bool.false_or]
   by_cases Z:s.Max<0
   ·simp only [Z,show¬ 0≤s.Max by omega,aug,auh,Bool.true_or,Bool.false_and,aul]
   ·by_cases ab:999<s.Max
    ·simp only [Z,ab,show¬ s.Max≤999 by omega,aug,auh,auu,Bool.and_false,aul]
    ·simp only [Z,ab,show s.Max≤999 by omega,show 0≤s.Max by omega,aug,auh,Bool.or_self,Bool.and_self,auk]
  ·simp only [bP,dj,auw,auh,Bool.false_and,Bool.or_self,auk]
def amu(a y b z pre P Q:Bool)(G:Bool→auC):
 (Option.bind (bif (!pre && !a)then some y else some default) λr2=>Option.bind (bif (!(pre||(!a && !r2)) && !b)then some z else some default) λr3=>G ((((pre||(!a && !r2))||(!b && !r3))||P)||Q))=G ((((pre||(!a && !y))||(!b && !z))||P)||Q):=by
 cases pre<;>cases a<;>cases y<;>cases b<;>cases z<;>rfl
def amv{n:Nat}(s:Stmt)(d:Int)(hn:25<n)(aO:da s.A≤n)(cN:da s.B≤n)(u6:da s.A≤140737488351232)(mE:da s.B≤140737488351232)(aI:s.Name.length<n)(amw:s.Name.length≤140737488351232):KB n s d=some (kp s d):=by
 unfold KB KA Kz kp;by_cases dX:1≤s.Op∧s.Op≤8
 ·have TI:(
   j_ s.Op).2=true:=by
   have:s.Op=1∨s.Op=2∨s.Op=3∨s.Op=4∨s.Op=5∨s.Op=6∨s.Op=7∨s.Op=8:=by omega
   rcases this with e|e|e|e|e|e|e|e<;>rw [e]<;>rfl
  simp only [amo n s.Op dX,ak,iN,mC,abf,Bm s.Name aI hn (by omega),abd s.A aO u6,abd s.B cN mE,TI,show¬ s.Op<1 by omega,show¬ 8<s.Op by omega,auh,auj,eg,dv,Bool.or_self,Bool.false_or,amt,eO]
  generalize rO s=r
  unfold Bt;generalize (j_ s.Op).1=u
  generalize decide (s.Name=[])=fI
  generalize ng s.A=y
  generalize ng s.B=z
  generalize decide (s.Max=0)=w
  generalize decide (0<s.Body.length)=p
  generalize decide (0<s.bz.length)=q
  generalize gv s.Name=x
  obtain⟨mD,a,b,kc,kZ,xO⟩:=u;simp only
  have hm:((!mD && !fI)||(!a && !y)||(!b && !z)||(!kc && !w)||(!kZ&&p)||(!xO&&q))=((((((!mD && !fI)||(!kc && !w))||(!a && !y))||(!b && !z))||(!kZ&&p))||(!xO&&q)):=by
   generalize (!mD && !fI)=c1
   generalize (!kc && !w)=c2
   generalize (!a && !y)=c3
   generalize (!b && !z)=c4
   cases c1<;>cases c2<;>cases c3<;>cases c4<;>rfl
  rw [hm];clear hm;generalize ((!mD && !fI)||(!kc && !w))=pre
  generalize (!kZ&&p)=c1
  generalize (!xO&&q)=c2
  refine(amu a y b z pre c1 c2 (λc=>bif c then some 1 else bif !r then some 1 else Option.bind (bif mD then some x else some default) λbO=>bif (mD && !bO)then some 7 else
   bif a then(bif !decide (gV s.A 1=0)then some (gV s.A 1)else bif b then(bif !decide (gV s.B 1=0)then some (gV s.B 1)else bif decide (12<d)then some 2 else some 0)else bif decide (12<d)then some 2 else some 0)
   else bif b then(bif !decide (gV s.B 1=0)then some (gV s.B 1)else bif decide (12<d)then some 2 else some 0)else bif decide (12<d)then some 2 else some 0)).trans ?_
  generalize ((((pre||(!a && !y))||(!b && !z))||c1)||c2)=m
  cases m
  ·cases r
   ·simp
   ·simp only [auk,aul,aui,auj,ak,Bool.true_and,Bool.and_true,Bool.true_eq_false,Bool.false_eq_true,or_self,auw];cases mD
    ·simp only [auj,ak,Bool.false_eq_true,false_and,auw,Bool.false_and];cases a
     ·simp only [auj,Bool.false_eq_true,false_and,auw];cases b
      ·by_cases gP:12<d<;>simp [gP]
      ·by_cases hb:gV s.B 1=0<;>by_cases gP:12<d<;>simp [hb,gP]
     ·by_cases ha:gV s.A 1=0
      ·cases b
       ·by_cases gP:12<d<;>simp [ha,gP]
       ·by_cases hb:gV s.B 1=0<;>by_cases gP:12<d<;>simp [ha,hb,gP]
      ·simp [ha]
    ·cases x
     ·simp
     ·simp only [aui,ak,auk,auj,Bool.true_eq_false,and_false,auw,Bool.and_false];cases a
      ·simp only [auj,Bool.false_eq_true,false_and,auw];cases b
       ·by_cases gP:12<d<;>simp [gP]
       ·by_cases hb:gV s.B 1=0<;>by_cases gP:12<d<;>simp [hb,gP]
      ·by_cases ha:gV s.A 1=0
       ·cases b
        ·by_cases gP:12<d<;>simp [ha,gP]
        ·by_cases hb:gV s.B 1=0<;>by_cases gP:12<d<;>simp [ha,hb,gP]
       ·simp [ha]
  ·simp
 ·have TI:(j_ s.Op).2=false:=by
   unfold j_;rw [if_neg (by omega),if_neg (by omega),if_neg (by omega),if_neg (by omega),if_neg (by omega),if_neg (by omega)]
  have hb:(decide (s.Op<1)||decide (8<s.Op))=true:=by
   by_cases Z:s.Op<1
   ·rw [decide_eq_true Z];rfl
   ·rw [decide_eq_true (show 8<s.Op by omega)];simp
  simp only [amp n s.Op dX,ak,TI,hb,dv,eg,Bool.true_or,auk,Bool.false_and,auj,aui,true_or,auv]
open Go Go.Ab Go.Proofs
def u7(before:List Param):List Param→Int
 |[]=>0
 |x::l=>if gv x.Name=false then 7 else if x.fi<1∨3<x.fi then 10 else if(before.any λy=>decide (y.Name=x.Name))=true then 8 else u7 (before++[x]) l
def amx(n:Nat)(s:List Param)(b:Param)(hs:s.length≤4611686018427387904):∀m i,s.length<i+m→i≤s.length→
 ∃r,zf n s b m (i:Int)=some r∧(decide (0≤r)=(s.drop i).any λy=>decide (y.Name=b.Name)):=by
 intro m;induction m with
 |zero=>intro i h ab;omega
 |succ m aG=>
  intro i hm hi;simp only [zf,PG,PF,PE];by_cases h:i<s.length
  ·obtain⟨r,Z,ab⟩:=aG (i+1) (by omega) (by omega)
   (rw [e9 s i default h,bm (by omega)];simp only [auo];rw [Z])
   generalize s.getD i default=c
   simp only [h,bw h,aup,aug,aui,aK,ak,List.any_cons];by_cases hc:c.Name=b.Name
   ·simp only [hc,aug,aui,Bool.true_or];exact⟨_,rfl,decide_eq_true (by omega)⟩
   ·simp only [hc,auh,auj,Bool.false_or];exact⟨r,rfl,ab⟩
  ·rw [gu s i h];simp only [h,aup,auh,auj];exact⟨-1,rfl,rfl⟩
def amy{n:Nat}(s:List Param)(b:Param)(hs:s.length≤4611686018427387904)(hn:s.length<n):Ij n s b=some (s.any λy=>decide (y.Name=b.Name)):=by
 unfold Ij PH;obtain⟨r,Z,ab⟩:=amx n s b hs n 0 (by omega) (by omega)
 rw [show zf n s b n 0=_ from Z,ak,ab,List.drop_zero]
def xP{α:Type}[Inhabited α](l:List α)(i:Nat)(h:i<l.length):l.take (i+1)=l.take i++[l.getD i default]:=by
 rw [List.take_add,e9 l i default h,List.take_succ_cons,List.take_zero]
def TJ:∀(l:List Param) (i:Nat),i<l.length→(l.getD i default).Name.length<h4 l
 |[],i,h=>by simp at h
 |x::l,0,h=>by simp only [h4,List.getD_cons_zero];omega
 |x::l,i+1,h=>by have:=TJ l i (by simpa using h);simp only [h4,List.getD_cons_succ];omega
def amz(n:Nat)(l:List Param)(aY:h4 l<n)(tY:h4 l≤140737488351232):∀m i,l.length<i+m→i≤l.length→zg n l m (i:Int)=some (u7 (l.take i) (l.drop i)):=by
 have hlen:=xN l;intro m;induction m with
 |zero=>intro i h ab;omega
 |succ m aG=>
  intro i hm hi;simp only [zg,PJ,PI];by_cases h:i<l.length
  ·have hg:=TJ l i h
   (rw [e9 l i default h,bm (by omega)];simp only [auo];rw [aG (i+1) (by omega) (by omega),xP l i h])
   generalize l.getD i default=c at hg
   rw [Bn n c.Name (by omega),amy (l.take i) c (by simp;omega) (by simp;omega)]
   simp only [h,bw h,aup,aug,aui,aK,ak,xI hi,dv,u7];cases gv c.Name
   ·simp
   ·by_cases aF:c.fi<1∨3<c.fi
    ·have:(decide (c.fi<1)||decide (3<c.fi))=true:=by rcases aF with aF|aF<;>rw [decide_eq_true aF]<;>simp
     simp [this,aF]
    ·have:(decide (c.fi<1)||decide (3<c.fi))=false:=by rw [decide_eq_false (λe=>aF (Or.inl e)),decide_eq_false (λe=>aF (Or.inr e))];rfl
     rw [this];simp only [auk,auj,Bool.true_eq_false,auw,aF];cases ((l.take i).any λy=>decide (y.Name=c.Name))<;>rfl
  ·rw [gu l i h];simp only [h,aup,auh,auj];rfl
def amA(n:Nat)(al:Int→auC)(l:List Param)(i:Nat)(h:i<l.length)(hs:l.length≤4611686018427387904):∀m k,i<k+m→k≤i→
 AL n al l (i:Int) m (k:Int)=if(((l.take i).drop k).any λy=>decide (y.Name=(l.getD i default).Name))=true then some 8 else al ((i+1:Nat):Int):=by
 intro m;induction m with
 |zero=>intro k Z ab;omega
 |succ m aG=>
  intro k hm hk;simp only [AL,RS,RR];by_cases Hq:k<i
  ·have e:(l.take i).drop k=l.getD k default::(l.take i).drop (k+1):=by
    rw [e9 (l.take i) k default (by simp;omega)]
    congr 1
    simp [List.getD,Hq]
   (rw [e,bm (by omega),aG (k+1) (by omega) (by omega)];simp only [auo])
   generalize l.getD k default=c
   simp only [Hq,bw h,bw (show k<l.length by omega),aup,aug,aui,aK,List.any_cons]
   by_cases hc:c.Name=(l.getD i default).Name
   ·simp only [hc,aug,aui,Bool.true_or,auv]
   ·simp only [hc,auh,auj,Bool.false_or]
  ·obtain rfl:k=i:=by omega
   rw [gu (l.take k) k (by simp;omega),bm (by omega)]
   simp only [aup,Nat.lt_irrefl,auh,auj,List.any_nil,Bool.false_eq_true,auw]
def amB(n:Nat)(l:List Param)(hn:25<n)(aY:h4 l<n)(tY:h4 l≤140737488351232):∀m i,l.length<i+m→i≤l.length→uT n l m (i:Int)=some (u7 (l.take i) (l.drop i)):=by
 have hlen:=xN l;intro m;induction m with
 |zero=>intro i h ab;omega
 |succ m aG=>
  intro i hm hi;simp only [uT,RT,RQ];by_cases h:i<l.length
  ·have hg:=TJ l i h;have aC:=amA n (uT n l m) l i h (by omega) n 0 (by omega) (by omega)
   rw [show AL n (uT n l m) l (i:Int) n 0=_ from aC,List.drop_zero]
   (rw [e9 l i default h];simp only [auo];rw [aG (i+1) (by omega) (by omega),xP l i h])
   generalize l.getD i default=c at hg
   rw [Bm c.Name (by omega) hn (by omega)]
   simp only [h,bw h,aup,aug,aui,aK,ak,auu,dv,u7];cases gv c.Name
   ·simp
   ·by_cases aF:c.fi<1∨3<c.fi
    ·have:(decide (c.fi<1)||decide (3<c.fi))=true:=by rcases aF with aF|aF<;>rw [decide_eq_true aF]<;>simp
     simp [this,aF]
    ·have:(decide (c.fi<1)||decide (3<c.fi))=false:=by rw [decide_eq_false (λe=>aF (Or.inl e)),decide_eq_false (λe=>aF (Or.inr e))];rfl
     rw [this];simp only [auk,auj,Bool.true_eq_false,auw,aF];cases ((l.take i).any λy=>decide (y.Name=c.Name))<;>rfl
  ·rw [gu l i h];simp only [h,aup,auh,auj];rfl
def qA(l:List Param):Int:=if 6<l.length then 2 else u7 [] l
def amC{n:Nat}(l:List Param)(aY:h4 l<n)(tY:h4 l≤140737488351232):Ik n l=some (qA l):=by
 have hlen:=xN l;unfold Ik qA;have:=amz n l aY tY n 0 (by omega) (by omega)
 rw [show zg n l n 0=_ from this]
 simp only [eO];by_cases h:6<l.length
 ·simp only [h,aug,aui,auv]
 ·simp only [h,auh,auj,auw,List.take_zero,List.drop_zero]
def amD{n:Nat}(l:List Param)(hn:25<n)(aY:h4 l<n)(tY:h4 l≤140737488351232):Ku n l=some (qA l):=by
 have hlen:=xN l;unfold Ku qA;have:=amB n l hn aY tY n 0 (by omega) (by omega)
 rw [show uT n l n 0=_ from this]
 simp only [eO];by_cases h:6<l.length
 ·simp only [h,aug,aui,auv]
 ·simp only [h,auh,auj,auw,List.take_zero,List.drop_zero]
open Go Go.Ab Go.Proofs
mutual
def tq:Expr→Nat→Nat
 |⟨_,_,_,ar⟩,k=>if k=0 then 0 else qB ar (k-1)
def qB:List Expr→Nat→Nat
 |[],k=>k
 |x::l,k=>qB l (tq x k)
end
def abg(e:Expr)(k:Nat):tq e k=if k=0 then 0 else qB e.ar (k-1):=by cases e;rfl
mutual
def FX:∀(e:Expr) (k:Nat),tq e k≤k
 |⟨_,_,_,ar⟩,k=>by
  have:=TK ar (k-1)
  simp only [tq];split<;>omega
def TK:∀(l:List Expr) (k:Nat),qB l k≤k
 |[],k=>Nat.le_refl _
 |x::l,k=>by
  have Z:=FX x k;have ab:=TK l (tq x k);simp only [qB];omega
end
def ka(e:Expr)(k:Nat):Nat:=if k=0∨ng e=true then k else tq e k
def L7(e:Expr)(k:Nat):ka e k≤k:=by unfold ka;split;exact Nat.le_refl _;exact FX e k
mutual
def qC:Stmt→Int→Nat×Int→Nat×Int
 |⟨Op,Name,Max,A,B,Body,bz⟩,d,r=>
  h5 bz (auz (d+1)) (h5 Body (auz (d+1)) (ka B (ka A (r.1-1)),if r.2=0 then kp ⟨Op,Name,Max,A,B,Body,bz⟩ d else r.2))
def h5:List Stmt→Int→Nat×Int→Nat×Int
 |[],d,r=>r
 |s::l,d,r=>if r.1=0 then r else h5 l d (qC s d r)
end
def abh(s:Stmt)(d:Int)(r:Nat×Int):qC s d r=h5 s.bz (auz (d+1)) (h5 s.Body (auz (d+1)) (ka s.B (ka s.A (r.1-1)),if r.2=0 then kp s d else r.2)):=by cases s;rfl
mutual
def amE:∀(s:Stmt) (d:Int) (r:Nat×Int),(qC s d r).1≤r.1
 |⟨Op,Name,Max,A,B,Body,bz⟩,d,r=>by
  have Z:=L7 A (r.1-1);have ab:=L7 B (ka A (r.1-1));have aj:=u9 Body (auz (d+1)) (ka B (ka A (r.1-1)),if r.2=0 then kp ⟨Op,Name,Max,A,B,Body,bz⟩ d else r.2)
  have aC:=u9 bz (auz (d+1)) (h5 Body (auz (d+1)) (ka B (ka A (r.1-1)),if r.2=0 then kp ⟨Op,Name,Max,A,B,Body,bz⟩ d else r.2))
  simp only [qC]at *;omega
def u9:∀(l:List Stmt) (d:Int) (r:Nat×Int),(h5 l d r).1≤r.1
 |[],d,r=>Nat.le_refl _
 |s::l,d,r=>by
  have Z:=amE s d r;have ab:=u9 l d (qC s d r);simp only [h5];split
  ·exact Nat.le_refl _
  ·omega
end
def amF:∀(n:Nat) (e:Expr) (k:Nat) (b:Int),da e≤n→da e≤140737488351232→k≤1000→zk n e (k:Int) b=some ((tq e k:Nat):Int):=by
 intro n;induction n with
 |zero=>intro e k b h;rw [oQ]at h;omega
 |succ n aG=>
  intro e k b h aa hk;have tl:=oQ e;have py:=Bo e.ar;simp only [zk,PT,fs];rw [abg];by_cases h0:k=0
  ·rw [if_pos h0];simp only [h0,aug,aui]
  ·rw [if_neg h0];simp only [h0,auh,auj]
   have gR:∀m i k,e.ar.length<i+m→i≤e.ar.length→k≤1000→DA n (zk n) e b m ((k:Nat):Int) (i:Int)=some ((qB (e.ar.drop i) k:Nat):Int):=by
    intro m;induction m with
    |zero=>intro i k Z ab;omega
    |succ m la=>
     intro i k Z ab hk;simp only [DA,PS];by_cases hi:i<e.ar.length
     ·have hg:=Bp e.ar i hi;have hle:=FX (e.ar.getD i default) k
      (rw [e9 e.ar i default hi,bm (by omega)];simp only [auo];rw [aG _ k b (by omega) (by omega) hk])
      simp only [hi,bw hi,aup,aug,aui,aK,ak,qB];exact la (i+1) _ (by omega) (by omega) (by omega)
     ·rw [gu e.ar i hi];simp only [hi,aup,auh,auj,qB]
   rw [show auz ((k:Int)-1)=((k-1:Nat):Int)by rw [wr]<;>omega]
   exact gR n 0 (k-1) (by omega) (by omega) (by omega)
def abi{n:Nat}(e:Expr)(k:Nat)(b:Int)(h:da e≤n)(aa:da e≤140737488351232)(hk:k≤1000):DB n e (k:Int) b=some ((ka e k:Nat):Int):=by
 unfold DB ka PR;simp only [abe,fs,amF n e k b h aa hk,ak];by_cases h0:k=0
 ·simp [h0]
 ·cases ng e<;>simp [h0]
open Go Go.Ab Go.Proofs
def FY:∀(l:List Stmt) (i:Nat),i<l.length→fst (l.getD i default)<dq l
 |[],i,h=>by simp at h
 |x::l,0,h=>by simp only [dq,List.getD_cons_zero];omega
 |x::l,i+1,h=>by have:=FY l i (by simpa using h);simp only [dq,List.getD_cons_succ];omega
def abj{α β:Type}(x:α×β):(x.1,x.2)=x:=rfl
def amG:∀(n:Nat) (l:List Stmt) (d:Int) (k:Nat) (e:Int),dq l+2≤n→dq l≤140737488351232→k≤1000→
 wK n l d (k:Int) e=some ((((h5 l d (k,e)).1:Nat):Int),(h5 l d (k,e)).2):=by
 intro n;induction n with
 |zero=>intro l d k e h;omega
 |succ n aG=>
  intro l d k e h aa hk;have py:=rN l;simp only [wK,PV]
  have gR:∀m i k e,l.length<i+m→i≤l.length→k≤1000→DC n (wK n) d l m ((k:Nat):Int) e (i:Int)=some ((((h5 (l.drop i) d (k,e)).1:Nat):Int),(h5 (l.drop i) d (k,e)).2):=by
   intro m;induction m with
   |zero=>intro i k e Z ab;omega
   |succ m la=>
    intro i k e Z ab hk;simp only [DC,PU,iN,mC];by_cases hi:i<l.length
    ·have hg:=FY l i hi
     (rw [e9 l i default hi];simp only [auo])
     generalize l.getD i default=s at hg
     have lZ:=fst_eq s;rw [bm (by omega)]
     simp only [hi,bw hi,aup,aug,aui,aK,fs,h5];by_cases h0:k=0
     ·simp only [h0,aug,aui,auv]
     ·simp only [h0,auh,auj,auw]
      have av:Iu n s d e=some (if e=0 then kp s d else e):=by
       unfold Iu;simp only [iN,mC,amr s d (show da s.A≤n by omega) (show da s.B≤n by omega) (by omega) (by omega) (by omega),ak]
       by_cases he:e=0
       ·simp only [he,aug,aui,auv]
       ·simp only [he,auh,auj,auw]
      rw [av,ak,show auz ((k:Int)-1)=((k-1:Nat):Int)by rw [wr]<;>omega]
      have fm:=L7 s.A (k-1);have eT:=L7 s.B (ka s.A (k-1));rw [abi s.A (k-1) _ (by omega) (by omega) (by omega),ak,abi s.B _ _ (by omega) (by omega) (by omega),ak]
      have Oe:=u9 s.Body (auz (d+1)) (ka s.B (ka s.A (k-1)),if e=0 then kp s d else e)
      rw [aG s.Body _ _ _ (by omega) (by omega) (by omega),ak]
      simp only [abj]at Oe ⊢;have atA:=u9 s.bz (auz (d+1)) (h5 s.Body (auz (d+1)) (ka s.B (ka s.A (k-1)),if e=0 then kp s d else e))
      rw [aG s.bz _ _ _ (by omega) (by omega) (by omega),ak]
      simp only [abj];rw [la (i+1) _ _ (by omega) (by omega) (by omega),abh]
    ·rw [gu l i hi];simp only [hi,aup,auh,auj,h5]
  exact gR n 0 k e (by omega) (by omega) hk
open Go Go.Ab Go.Proofs
abbrev lf:=ct
def iu:Int→List lf→Int
 |e,[]=>e
 |e,v::l=>iu (if e=0∧v.qf=true then kp v.Stmt v.Di else e) l
def abk:∀(l m:List lf) (e:Int),iu e (l++m)=iu (iu e l) m
 |[],m,e=>rfl
 |v::l,m,e=>by rw [List.cons_append,iu,iu,abk l m]
def TL:∀(l:List lf) (e:Int),(∀v,v∈l→v.qf=false)→iu e l=e
 |[],e,h=>rfl
 |v::l,e,h=>by
  rw [iu,h v (List.mem_cons_self),TL l _ λw hw=>h w (List.mem_cons_of_mem _ hw)]
  simp
def abl{k:Nat}(h:k≤100000):room k 272=true:=by simp [room];omega
def amH:∀(n:Nat) (e:Expr) (out:List lf) (root:Bool),da e≤n→da e≤140737488351232→out.length≤401→
 ∃ext,ta n out e root=some (out++ext)∧(out++ext).length≤401∧401-(out++ext).length=tq e (401-out.length)∧∀v,v∈ext→v.qf=false:=by
 intro n;induction n with
 |zero=>intro e out root h;rw [oQ]at h;omega
 |succ n aG=>
  intro e out root h aa aw;have tl:=oQ e;have py:=Bo e.ar;simp only [ta,RK,eO];rw [abg];by_cases h0:400<out.length
  ·simp only [h0,aug,aui];rw [if_pos (by omega)]
   exact⟨[],by simp,by simpa using aw,by simp;omega,λv av=>by cases av⟩
  ·simp only [h0,auh,auj,aum,aun,abl (show out.length+(0+1)≤100000 by omega),aK]
   rw [if_neg (by omega)]
   have gR:∀m i (out:List lf),e.ar.length<i+m→i≤e.ar.length→out.length≤401→
    ∃ext,EN n (ta n) e m out (i:Int)=some (out++ext)∧(out++ext).length≤401∧401-(out++ext).length=qB (e.ar.drop i) (401-out.length)∧∀v,v∈ext→v.qf=false:=by
    intro m;induction m with
    |zero=>intro i out Z ab;omega
    |succ m la=>
     intro i out Z ab aw;simp only [EN,RJ,RI];by_cases hi:i<e.ar.length
     ·have hg:=Bp e.ar i hi
      (rw [e9 e.ar i default hi];simp only [auo])
      generalize e.ar.getD i default=a at hg
      rw [bm (by omega)]
      simp only [hi,bw hi,aup,aug,aui,aK,jG,qB];by_cases FZ:out.length≤400
      ·simp only [FZ,aug,aui];obtain⟨dA,e1,e2,e3,gG⟩:=aG a out false (by omega) (by omega) aw
       obtain⟨ey,f1,f2,f3,f4⟩:=la (i+1) (out++dA) (by omega) (by omega) e2
       rw [e1,ak,f1];refine⟨dA++ey,by rw [List.append_assoc],by rw [←List.append_assoc];exact f2,by rw [←List.append_assoc,f3,e3],λv av=>?_⟩
       rcases List.mem_append.1 av with av|av
       ·exact gG v av
       ·exact f4 v av
      ·simp only [FZ,auh,auj];have dx:401-out.length=0:=by omega
       have atB:=FX a 0;have yS:=TK (e.ar.drop (i+1)) (tq a 0);exact⟨[],by simp,by simpa using aw,by rw [dx];simp;omega,λv av=>by cases av⟩
     ·rw [gu e.ar i hi];simp only [hi,aup,auh,auj,qB];exact⟨[],by simp,by simpa using aw,by simp,λv av=>by cases av⟩
   obtain⟨x,e1,e2,e3,gG⟩:=gR n 0 (out++[⟨false,⟨0,[],0,⟨0,0,[],[]⟩,⟨0,0,[],[]⟩,[],[]⟩,0,e,root⟩]) (by omega) (by omega) (by simp;omega)
   refine⟨⟨false,⟨0,[],0,⟨0,0,[],[]⟩,⟨0,0,[],[]⟩,[],[]⟩,0,e,root⟩::x,?_,?_,?_,?_⟩
   ·exact e1.trans (by simp)
   ·simpa using e2
   ·have:401-(out++[(⟨false,⟨0,[],0,⟨0,0,[],[]⟩,⟨0,0,[],[]⟩,[],[]⟩,0,e,root⟩:lf)]).length=401-out.length-1:=by simp;omega
    rw [this,List.drop_zero]at e3;simpa using e3
   ·intro v av;rcases List.mem_cons.1 av with rfl|av
    ·rfl
    ·exact gG v av
open Go Go.Ab Go.Proofs
def abm{α:Type}{n:Nat}(e:Expr)(out:List lf)(G:List lf→Option α)(h:da e≤n)(aa:da e≤140737488351232)(aw:out.length≤401):
 ∃ext,(Option.bind (s_ n e) λr=>bif !r then Option.bind (ta n out e true) G else G out)=G (out++ext)∧(out++ext).length≤401∧401-(out++ext).length=ka e (401-out.length)∧∀v,v∈ext→v.qf=false:=by
 rw [abf,ak];unfold ka;cases m7:ng e
 ·obtain⟨x,e1,e2,e3,gG⟩:=amH n e out true h aa aw;refine⟨x,?_,e2,?_,gG⟩
  ·rw [e1];rfl
  ·rw [e3];by_cases h0:401-out.length=0
   ·rw [if_pos (Or.inl h0),h0];have:=FX e 0
    omega
   ·rw [if_neg (by simp [h0])]
 ·refine⟨[],by simp,by simpa using aw,?_,λv av=>by cases av⟩
  rw [if_pos (Or.inr rfl)];simp
def amI:∀(n:Nat) (l:List Stmt) (d:Int) (out:List lf) (e:Int),dq l+2≤n→dq l≤140737488351232→out.length≤401→
 ∃ext,nc n out l d=some (out++ext)∧(out++ext).length≤401∧(401-(out++ext).length,iu e ext)=h5 l d (401-out.length,e)∧∀v,v∈ext→v.qf=true→fst v.Stmt<dq l:=by
 intro n;induction n with
 |zero=>intro l d out e h;omega
 |succ n aG=>
  intro l d out e h aa aw;have py:=rN l;simp only [nc,RO]
  have gR:∀m i (out:List lf) (e:Int),l.length<i+m→i≤l.length→out.length≤401→
   ∃ext,uS n (nc n) l d m out (i:Int)=some (out++ext)∧(out++ext).length≤401∧(401-(out++ext).length,iu e ext)=h5 (l.drop i) d (401-out.length,e)∧∀v,v∈ext→v.qf=true→fst v.Stmt<dq l:=by
   intro m;induction m with
   |zero=>intro i out e Z ab;omega
   |succ m la=>
    intro i out e Z ab aw;simp only [uS,RN,RL,Kt,Ks,RM,iN,mC];by_cases hi:i<l.length
    ·have hg:=FY l i hi
     (rw [e9 l i default hi];simp only [auo])
     generalize l.getD i default=s at hg
     have lZ:=fst_eq s;rw [bm (by omega)]
     simp only [hi,bw hi,aup,aug,aui,aK,jG,h5];by_cases FZ:out.length≤400
     ·rw [if_neg (by omega)]
      simp only [FZ,aug,aui,aum,aun,abl (show out.length+(0+1)≤100000 by omega),aK]
      obtain⟨dA,aZ,a2,a3,a4⟩:=abm (n:=n) s.A (out++[(⟨true,s,d,⟨0,0,[],[]⟩,false⟩:lf)]) (λv28=>Option.bind (s_ n s.B) λiq=>bif !iq then Option.bind (ta n v28 s.B true) λmy=>
       Option.bind (nc n my s.Body (auz (d+1))) λk7=>Option.bind (nc n k7 s.bz (auz (d+1))) λoL=>uS n (nc n) l d m oL ((i+1:Nat):Int)
       else Option.bind (nc n v28 s.Body (auz (d+1))) λk7=>Option.bind (nc n k7 s.bz (auz (d+1))) λoL=>uS n (nc n) l d m oL ((i+1:Nat):Int)) (by omega) (by omega) (by simp;omega)
      rw [aZ];obtain⟨ey,c6,jl,F0,L8⟩:=abm (n:=n) s.B (out++[(⟨true,s,d,⟨0,0,[],[]⟩,false⟩:lf)]++dA) (λv=>Option.bind (nc n v s.Body (auz (d+1))) λk7=>Option.bind (nc n k7 s.bz (auz (d+1))) λoL=>uS n (nc n) l d m oL ((i+1:Nat):Int)) (by omega) (by omega) a2
      rw [c6];obtain⟨jb,c1,c2,c3,c4⟩:=aG s.Body (auz (d+1)) _ (if e=0 then kp s d else e) (by omega) (by omega) jl
      rw [c1,ak];obtain⟨fr,d1,d2,d3,d4⟩:=aG s.bz (auz (d+1)) _ (iu (if e=0 then kp s d else e) jb) (by omega) (by omega) c2
      rw [d1,ak];obtain⟨kL,f1,f2,f3,f4⟩:=la (i+1) _ (iu (iu (if e=0 then kp s d else e) jb) fr) (by omega) (by omega) d2
      rw [f1];have XO:401-(out++[(⟨true,s,d,⟨0,0,[],[]⟩,false⟩:lf)]).length=401-out.length-1:=by simp;omega
      refine⟨(⟨true,s,d,⟨0,0,[],[]⟩,false⟩:lf)::(dA++(ey++(jb++(fr++kL)))),?_,?_,?_,?_⟩
      ·simp
      ·simpa using f2
      ·have e1:iu e ((⟨true,s,d,⟨0,0,[],[]⟩,false⟩:lf)::(dA++(ey++(jb++(fr++kL)))))=iu (iu (iu (if e=0 then kp s d else e) jb) fr) kL:=by
        simp only [iu,and_true,abk];rw [TL dA _ a4,TL ey _ L8]
       have e2:(out++(⟨true,s,d,⟨0,0,[],[]⟩,false⟩:lf)::(dA++(ey++(jb++(fr++kL))))).length=(out++[(⟨true,s,d,⟨0,0,[],[]⟩,false⟩:lf)]++dA++ey++jb++fr++kL).length:=by simp
       rw [e1,e2,f3]
       congr 1
       rw [abh];simp only
       rw [d3,c3,F0,a3,XO]
      ·intro v av dy;simp only [List.mem_cons,List.mem_append]at av;rcases av with rfl|av|av|av|av|av
       ·exact hg
       ·rw [a4 v av]at dy;cases dy
       ·rw [L8 v av]at dy;cases dy
       ·have:=c4 v av dy;omega
       ·have:=d4 v av dy;omega
       ·exact f4 v av dy
     ·rw [if_pos (by omega)]
      simp only [FZ,auh,auj];exact⟨[],by simp,by simpa using aw,by simp [iu],λv av=>by cases av⟩
    ·rw [gu l i hi];simp only [hi,aup,auh,auj,h5];exact⟨[],by simp,by simpa using aw,by simp [iu],λv av=>by cases av⟩
  exact gR n 0 out e (by omega) (by omega) aw
open Go Go.Ab Go.Proofs
def mF(p:bb):Int:=
 if gv p.Name=false then 7 else if qA p.Params≠0 then qA p.Params
 else if(h5 p.Body 1 (401,0)).2=0∧(h5 p.Body 1 (401,0)).1=0 then 2 else(h5 p.Body 1 (401,0)).2
def TM{n:Nat}(p:bb)(aI:p.Name.length≤140737488351232)(kD:h4 p.Params<n)(L9:h4 p.Params≤140737488351232)(cN:dq p.Body+2≤n)(mE:dq p.Body≤140737488351232):DD n p=some (mF p):=by
 unfold DD PW mF;rw [Bn n p.Name aI,amC p.Params kD L9];simp only [ak];cases gv p.Name
 ·rfl
 ·simp only [auk,auj,Bool.true_eq_false,auw];by_cases h:qA p.Params=0
  ·simp only [h,aug,auk,auj,ne_eq,not_true,auw];have:=amG n p.Body 1 401 0 cN mE (by omega)
   rw [show wK n p.Body 1 401 0=_ from this]
   have hle:=u9 p.Body 1 (401,0);simp only at hle
   generalize h5 p.Body 1 (401,0)=r at hle
   obtain⟨k,e⟩:=r;simp only [ak];simp only at hle
   rw [show auz (401-((k:Nat):Int))=401-((k:Nat):Int)by rw [wr]<;>omega]
   by_cases he:e=0
   ·by_cases hk:k=0
    ·subst hk;subst he;rfl
    ·simp only [he,hk,aug,aui,and_false,auw,show¬ (400:Int)<401-((k:Nat):Int)by omega,auh,auj]
   ·simp only [he,auh,auj,false_and,auw]
  ·simp only [h,auh,aul,aui,ne_eq,not_false_iff,auv]
def abn:∀(l:List lf) (e:Int),e≠0→iu e l=e
 |[],e,h=>rfl
 |v::l,e,h=>by rw [iu,if_neg (λx=>h x.1),abn l e h]
def amJ(n:Nat)(l:List lf)(hn:25<n)(B:Nat)(cN:B≤n)(mE:B≤140737488351232)(aa:l.length≤401)(hs:∀v,v∈l→v.qf=true→fst v.Stmt<B):∀m i,l.length<i+m→i≤l.length→
 AN n l m (i:Int)=some (if iu 0 (l.drop i)≠0 then iu 0 (l.drop i)else if 400<l.length then 2 else 0):=by
 intro m;induction m with
 |zero=>intro i h ab;omega
 |succ m aG=>
  intro i hm hi;simp only [AN,R2,R1,KC];by_cases h:i<l.length
  ·have av:l.getD i default∈l:=by
    have e:l.getD i default=l[i]:=by simp [List.getD,h]
    rw [e];exact List.getElem_mem h
   have dy:=hs _ av
   (rw [e9 l i default h,bm (by omega)];simp only [auo];rw [aG (i+1) (by omega) (by omega)])
   generalize l.getD i default=v at dy
   simp only [h,bw h,aup,aug,aui,aK,iu];cases ao:v.qf
   ·simp only [auj,Bool.false_eq_true,and_false,auw]
   ·have aY:=dy ao;have tl:=fst_eq v.Stmt;rw [amv v.Stmt v.Di hn (by omega) (by omega) (by omega) (by omega) (by omega) (by omega)]
    simp only [aui,ak,and_self,auv];by_cases he:kp v.Stmt v.Di=0
    ·simp only [he,aug,auk,auj]
    ·simp only [he,auh,aul,aui];rw [abn _ _ he,if_pos he]
  ·rw [gu l i h];simp only [h,aup,auh,auj,iu,eO,ne_eq,not_true,auw];by_cases aC:400<l.length
   ·simp only [aC,aug,aui,auv]
   ·simp only [aC,auh,auj,auw]
def abo{n:Nat}(p:bb)(hn:500<n)(aI:p.Name.length<n)(amw:p.Name.length≤140737488351232)(kD:h4 p.Params<n)(L9:h4 p.Params≤140737488351232)(cN:dq p.Body+2≤n)(mE:dq p.Body≤140737488351232):KD n p=some (mF p):=by
 unfold KD RP mF;rw [Bm p.Name aI (by omega) (by omega),amD p.Params (by omega) kD L9]
 simp only [ak];cases gv p.Name
 ·rfl
 ·simp only [auk,auj,Bool.true_eq_false,auw];by_cases h:qA p.Params=0
  ·simp only [h,aug,auk,auj,ne_eq,not_true,auw];obtain⟨ext,e1,e2,e3,gG⟩:=amI n p.Body 1 [] 0 cN mE (by simp)
   rw [List.nil_append]at e1 e2 e3;rw [e1];simp only [ak];have:=amJ n ext (by omega) (dq p.Body) (by omega) mE e2 gG n 0 (by omega) (by omega)
   rw [show AN n ext n 0=_ from this,List.drop_zero,aun]at *
   rw [show 401-0=401 from rfl]at e3
   rw [←e3];simp only
   by_cases he:iu 0 ext=0
   ·simp only [he,ne_eq,not_true,auw,true_and];by_cases aC:400<ext.length
    ·rw [if_pos aC,if_pos (by omega)]
    ·rw [if_neg aC,if_neg (by omega)]
   ·rw [if_pos he,if_neg (λx=>he x.1)]
  ·simp only [h,auh,aul,aui,ne_eq,not_false_iff,auv]
def amK:∀(n:Nat) (l:List Stmt),dq l+2≤n→dq l≤140737488351232→s4 n l l=some true:=by
 intro n;induction n with
 |zero=>intro l h;omega
 |succ n aG=>
  intro l h aa;have py:=rN l;simp only [s4,JZ,aug,auk,auj]
  have gR:∀m i,l.length<i+m→i≤l.length→uI n (s4 n) l l m (i:Int)=some true:=by
   intro m;induction m with
   |zero=>intro i Z ab;omega
   |succ m la=>
    intro i Z ab;simp only [uI,EB,JY,iN,mC];by_cases hi:i<l.length
    ·have hg:=FY l i hi
     (rw [bm (by omega),la (i+1) (by omega) (by omega)];simp only [auo])
     generalize l.getD i default=s at hg
     have lZ:=fst_eq s;simp only [hi,bw hi,aup,aug,auk,aui,auj,aK,aaN n s.A (by omega) (by omega),aaN n s.B (by omega) (by omega),aG s.Body (by omega) (by omega),aG s.bz (by omega) (by omega),ak]
     rfl
    ·simp only [hi,aup,auh,auj]
  exact gR n 0 (by omega) (by omega)
def amL{n:Nat}(p:bb)(kD:p.Params.length<n)(L9:p.Params.length≤140737488351232)(cN:dq p.Body+2≤n)(mE:dq p.Body≤140737488351232):Ah n p p=some true:=by
 unfold Ah;simp only [aug,auk,auj]
 have gR:∀m i,p.Params.length<i+m→i≤p.Params.length→uJ n p p m (i:Int)=some true:=by
  intro m;induction m with
  |zero=>intro i Z ab;omega
  |succ m la=>
   intro i Z ab;simp only [uJ,ED,EC];by_cases hi:i<p.Params.length
   ·rw [bm (by omega),la (i+1) (by omega) (by omega)]
    simp only [hi,bw hi,aup,aug,Bool.and_self,auk,aui,auj,aK]
   ·simp only [hi,aup,auh,auj,amK n p.Body cN mE,ak]
 exact gR n 0 (by omega) (by omega)
open Go Go.Ab Go.Proofs
def abp(p:bb):(⟨p.Name,p.Params,p.Body⟩:bb)=p:=rfl
open Go Go.Ab Go.Proofs
def db(t:Token):Token:=⟨t.Kind,t.Text,t.N,0⟩
inductive eJ:aux→List Token→Prop
 |nil:eJ [] []
 |sp {c:UInt8} {s:aux} {T:List Token}:(c.toNat=10∨c.toNat=32)→eJ s T→eJ (c::s) T
 |tok {c:UInt8} {w s:aux} {t:Token} {T:List Token}:c.toNat≠10→c.toNat≠32→c.toNat≠9→c.toNat≠35→fT (c::(w++s))=(t,w.length+1,0)→t.lE=0→eJ s T→eJ (c::(w++s)) (t::T)
def drop_cons{src s:aux}{c:UInt8}{i:Nat}(h:src.drop i=c::s):i<src.length∧src.getD i 0=c∧src.drop (i+1)=s:=by
 have hi:i<src.length:=by
  by_cases hi:i<src.length
  ·exact hi
  ·rw [gu src i hi]at h;cases h
 rw [e9 src i 0 hi]at h;injection h with Z ab;exact⟨hi,Z,ab⟩
def amM(n:Nat)(src:aux)(hs:src.length≤1000000000)(hn:src.length<n)(rL:100<n){s:aux}{T:List Token}(h:eJ s T):
 ∀(i m:Nat) (out:List Token) (j':Nat),src.drop i=s→i≤src.length→src.length<i+m→lN out≤61*i→1≤j'→j'≤i+1→
 ∃l,s2 n src m out (j':Int) (i:Int)=some (out++l,0,0)∧l.map db=T∧∀t,t∈l→1≤t.lE:=by
 induction h with
 |nil=>
  intro i m out j' hd hi hm hw Z ab;obtain⟨m,rfl⟩:∃j,m=j+1:=⟨m-1,by omega⟩
  have h:¬ i<src.length:=λh=>by rw [e9 src i 0 h]at hd;cases hd
  simp only [s2,z1,zY,h,aup,auh,auj];exact⟨[],by simp,rfl,λt aF=>by cases aF⟩
 | @sp c s T hc aH aG=>
  intro i m out j' hd hi hm hw Z ab;obtain⟨m,rfl⟩:∃j,m=j+1:=⟨m-1,by omega⟩
  obtain⟨h,hg,jj⟩:=drop_cons hd;simp only [s2,z1,zY,zZ,Eg]
  (rw [bm (by omega),bm (by omega)];simp only [auo];rw [hg])
  simp only [h,bw h,aup,aug,aui,aK,fs];rcases hc with hc|hc
  ·simp only [hc,aug,aui];exact aG (i+1) m out (j'+1) jj (by omega) (by omega) (by omega) (by omega) (by omega)
  ·simp only [hc,show¬ (32=10)by omega,auh,aug,aui,auj]
   exact aG (i+1) m out j' jj (by omega) (by omega) (by omega) (by omega) (by omega)
 | @tok c w s t T mG amN c9 amO aF aa aH aG=>
  intro i m out j' hd hi hm hw Z ab;obtain⟨m,rfl⟩:∃j,m=j+1:=⟨m-1,by omega⟩
  obtain⟨h,hg,jj⟩:=drop_cons hd;have hlen:(src.drop i).length=src.length-i:=List.length_drop;have Oo:w.length+s.length+1=src.length-i:=by rw [←hlen,hd];simp
  have cF:=aa0 (c::(w++s)) (by simp) (by rw [aF])
  rw [aF]at cF;simp only at cF
  have aY:zX n (src.drop i)=some (t,((w.length+1:Nat):Int),0):=by
   rw [hd,aa2 c (w++s) (by simp;omega) (by simp;omega),aF]
  simp only [s2,z1,zY,zZ,Eg]
  (simp only [auo];rw [hg,aY])
  have G1:=L2 out;simp only [h,bw h,aup,aug,aui,aK,fs,mG,amN,c9,amO,auh,auj,xI hi,ak,auk,clone (show t.Text.length≤281474976710656 by omega),aum,aun,aa6 (show out.length+(0+1)≤1000000000000 by omega)]
  rw [show auz ((i:Int)+((w.length+1:Nat):Int))=((i+(w.length+1):Nat):Int)by rw [wr]<;>omega]
  obtain⟨l,e1,e2,e3⟩:=aG (i+(w.length+1)) m (out++[⟨t.Kind,t.Text,t.N,(j':Int)⟩]) j' (by
   rw [←List.drop_drop,hd,List.drop_succ_cons,List.drop_left]) (by omega) (by omega) (by rw [Ty];simp only [lN];omega) Z (by omega)
  refine⟨⟨t.Kind,t.Text,t.N,(j':Int)⟩::l,by rw [e1];simp,?_,?_⟩
  ·rw [List.map_cons,e2]
   congr 1
   unfold db;rw [←aa]
  ·intro bS eM;rcases List.mem_cons.1 eM with rfl|eM
   ·simp only;omega
   ·exact e3 bS eM
def amP{n:Nat}{s:aux}{T:List Token}(h:eJ s T)(hs:s.length≤16384)(hn:s.length<n)(rL:100<n):
 ∃l,w8 n s=some (l,0,0)∧l.map db=T∧(∀t,t∈l→1≤t.lE)∧ld l∧lN l≤61*s.length:=by
 obtain⟨l,e1,e2,e3⟩:=amM n s (by omega) hn rL h 0 n [] 1 rfl (by omega) (by omega) (by simp [lN]) (by omega) (by omega)
 have e:w8 n s=some (l,0,0):=by
  unfold w8;simp only [eO,show¬ 16384<s.length by omega,auh,auj]
  exact e1
 obtain⟨r,t1,t2,t3⟩:=amb (λt=>t.Kind=5→t.Text∈marks) (λs j' Z ab=>amc s j' Z ab) (n:=n) s (by omega) (by omega)
 rw [e]at t1;obtain rfl:=Option.some.inj t1;obtain⟨g1,g2,g3⟩:=t3 rfl;exact⟨l,e,e2,e3,g3,g1⟩
open Go Go.Ab Go.Proofs
def amQ(u:Nat):Lib.decDigits u=if u<10 then[UInt8.ofNat (48+u)]else Lib.decDigits (u / 10)++[UInt8.ofNat (48+u % 10)]:=by
 rw [Lib.decDigits];split<;>rfl
def abq{k:Nat}(h:k<10):(UInt8.ofNat (48+k)).toNat=48+k:=by
 rw [UInt8.toNat_ofNat'];omega
def amR(u:Nat)(l m:aux):val u (l++m)=val (val u l) m:=by unfold val;rw [List.foldl_append]
def abr:∀(u:Nat),(Lib.decDigits u).all ir=true∧val 0 (Lib.decDigits u)=u∧(∃c l,Lib.decDigits u=c::l∧(c=48→u=0))∧(u<10→(Lib.decDigits u).length=1):=by
 intro u;induction u using Nat.strongRecOn with
 |_ u aG=>
  rw [amQ];by_cases h:u<10
  ·rw [if_pos h];have e:=abq h;refine⟨?_,?_,⟨_,_,rfl,λh0=>?_⟩,λ_=>rfl⟩
   ·simp only [List.all_cons,List.all_nil,Bool.and_true,qx,e];omega
   ·rw [FSb,FR,e];omega
   ·rw [h0]at e;have:(48:UInt8).toNat=48:=rfl
    omega
  ·rw [if_neg h];obtain⟨Z,ab,⟨c,l,aj,aC⟩,aT⟩:=aG (u / 10) (by omega)
   have e:=abq (show u % 10<10 by omega)
   refine⟨?_,?_,⟨c,l++[UInt8.ofNat (48+u % 10)],by rw [aj];rfl,λh0=>?_⟩,λh0=>absurd h0 h⟩
   ·rw [List.all_append,Z];simp only [List.all_cons,List.all_nil,Bool.and_true,Bool.true_and,qx,e];omega
   ·rw [amR,ab,FSb,FR,e];omega
   ·have:=aC h0;omega
def amS(u:Nat)(h:u≤9223372036854775807):nR (Lib.decDigits u)=((u:Int),0):=by
 obtain⟨Z,ab,⟨c,l,aj,aC⟩,aT⟩:=abr u;unfold nR;rw [if_pos,ab,if_pos h];refine⟨Z,?_⟩
 by_cases hc:c=48
 ·exact Or.inr (aT (by have:=aC hc;omega))
 ·left;rw [aj];simpa using hc
def abs{c:UInt8}(h:ir c=true):fQ c=true:=by
 rw [qx]at h;unfold fQ;exact decide_eq_true (by omega)
def abt{c:UInt8}(h:lL c=true):fQ c=true:=by
 unfold lL at h;simp only [Bool.and_eq_true,decide_eq_true_eq]at h;unfold fQ;exact decide_eq_true (by omega)
def amT{α:Type}{p q:α→Bool}(h:∀a,p a=true→q a=true){l:List α}(aa:l.all p=true):l.all q=true:=by
 rw [List.all_eq_true]at aa ⊢;exact λa ha=>h a (aa a ha)
def nT(r:aux):Prop:=∀c,r.head? = some c→fQ c=false
def amU{w r:aux}(hw:w.all fQ=true)(ai:nT r):hH (w++r)=w.length:=by
 induction w with
 |nil=>
  cases r with
  |nil=>rfl
  |cons c r=>rw [List.nil_append,u4,ai c rfl];rfl
 |cons c w aG=>
  simp only [List.all_cons,Bool.and_eq_true]at hw;rw [List.cons_append,u4,hw.1,aG hw.2];rfl
def TN{c:UInt8}{w r:aux}(hw:(c::w).all fQ=true)(ai:nT r)(h0:(lb (c::w)).2=0):fT (c::(w++r))=((lb (c::w)).1,w.length+1,0):=by
 have hc:fQ c=true:=by simp only [List.all_cons,Bool.and_eq_true]at hw;exact hw.1
 have aa:=amU hw ai;have aF:(c::(w++r)).take (w.length+1)=c::w:=by simp
 rw [List.cons_append]at aa;unfold fT;simp only [hc,auv,aa,aum,aF,h0]
def amV{w:aux}(h:w∈pw):∃c l,w=c::l∧lL c=true∧w.all fQ=true:=by
 simp only [pw,List.mem_cons,List.not_mem_nil,or_false]at h;rcases h with rfl|rfl|rfl|rfl|rfl|rfl|rfl|rfl|rfl|rfl|rfl|rfl|rfl|rfl|rfl|rfl|rfl|rfl|rfl|rfl|rfl|rfl|rfl|rfl|rfl<;>exact⟨_,_,rfl,rfl,rfl⟩
def amW{w:aux}:hH w=w.length→w.all fQ=true:=by
 induction w with
 |nil=>intro;rfl
 |cons c w aG=>
  intro h;rw [u4]at h;cases hc:fQ c
  ·rw [hc]at h;simp at h
  ·rw [hc]at h;simp only [aui,aum]at h;rw [List.all_cons,hc,aG (by omega)];rfl
def L'{w:aux}(h:gv w=true):∃c l,w=c::l∧lL c=true∧w.all fQ=true∧tk w=false∧w.length≤16:=by
 cases w with
 |nil=>cases h
 |cons c l=>
  simp only [gv,Bool.and_eq_true,decide_eq_true_eq,Bool.not_eq_true']at h;obtain⟨⟨⟨Z,ab⟩,aj⟩,aC⟩:=h;exact⟨c,l,rfl,ab,amW (by simpa using aj),aC,by simp;omega⟩
def gC:aux→aux
 |[]=>[]
 |c::l=>if c.toNat=34∨c.toNat=92 then 92::c::gC l else c::gC l
def quo(s:aux):aux:=34::(gC s++[34])
def abu:∀(s acc r:aux),s.all okB=true→acc.length+s.length≤64→gw (gC s++34::r) acc = .inr (acc++s,(gC s).length+1)
 |[],acc,r,h,aa=>by
  simp only [gC,List.nil_append,List.append_nil,aun];rw [Bq 34 r acc (by decide),if_pos (by decide)]
 |c::s,acc,r,h,aa=>by
  simp only [List.all_cons,Bool.and_eq_true]at h;simp only [aum]at aa;have aG:=abu s (acc++[c]) r h.2 (by simp;omega)
  simp only [gC];by_cases hc:c.toNat=34∨c.toNat=92
  ·rw [if_pos hc,List.cons_append,List.cons_append];simp only [gw];rw [if_neg (by decide),if_pos (by decide),if_neg (by omega),if_neg (by omega),aG]
   simp only [up,aum,List.append_assoc,List.singleton_append]
  ·rw [if_neg hc,List.cons_append,Bq c _ acc (λe=>hc (Or.inr e)),if_neg (λe=>hc (Or.inl e)),if_neg (by rw [h.1];decide),if_neg (by omega),aG]
   simp only [up,aum,List.append_assoc,List.singleton_append]
def spell(t:Token):aux:=if t.Kind=3 then Lib.decDigits t.N.toNat else if t.Kind=4 then quo t.Text else t.Text
def mH(t:Token):Prop:=
 t.lE=0∧((t.Kind=1∧gv t.Text=true∧t.N=0)∨(t.Kind=2∧t.Text∈pw∧t.N=0)∨(t.Kind=3∧t.Text=[]∧0≤t.N∧t.N≤9223372036854775807)∨
  (t.Kind=4∧ju t.Text=true∧t.N=0)∨(t.Kind=5∧t.Text∈marks∧t.N=0))
def Bu(t:Token)(r:aux):Prop:=(t.Kind<4→nT r)∧(t.Kind=5→∀c d,t.Text=[c]→r.head? = some d→[c,d]∉two)
def amX{w:aux}(h:w∈marks):(w∈two∧∃a b,w=[a,b])∨∃c,w=[c]∧c∈pA:=by
 unfold marks at h;rcases List.mem_append.1 h with h|h
 ·left
  refine⟨h,?_⟩
  simp only [two,List.mem_cons,List.not_mem_nil,or_false]at h;rcases h with rfl|rfl|rfl|rfl|rfl<;>exact⟨_,_,rfl⟩
 ·right
  obtain⟨c,hc,rfl⟩:=List.mem_map.1 h;exact⟨c,rfl,hc⟩
def amY{c:UInt8}(h:c∈pA):fQ c=false∧c.toNat≠34∧c.toNat≠10∧c.toNat≠32∧c.toNat≠9∧c.toNat≠35:=by
 simp only [pA,List.mem_cons,List.not_mem_nil,or_false]at h;rcases h with rfl|rfl|rfl|rfl|rfl|rfl|rfl|rfl|rfl|rfl|rfl|rfl|rfl|rfl|rfl<;>exact⟨rfl,by decide,by decide,by decide,by decide,by decide⟩
def amZ{a b:UInt8}(h:[a,b]∈two):fQ a=false∧a.toNat≠34∧a.toNat≠10∧a.toNat≠32∧a.toNat≠9∧a.toNat≠35:=by
 simp only [two,List.mem_cons,List.not_mem_nil,or_false,List.cons.injEq,and_true]at h;rcases h with⟨rfl,rfl⟩|⟨rfl,rfl⟩|⟨rfl,rfl⟩|⟨rfl,rfl⟩|⟨rfl,rfl⟩<;>exact⟨rfl,by decide,by decide,by decide,by decide,by decide⟩
def TO{c:UInt8}(h:fQ c=true):c.toNat≠10∧c.toNat≠32∧c.toNat≠9∧c.toNat≠35:=by
 unfold fQ at h;have:=of_decide_eq_true h
 omega
def am0(t:Token)(r:aux)(av:mH t)(hb:Bu t r):∃c w,spell t=c::w∧fT (c::(w++r))=(t,w.length+1,0)∧c.toNat≠10∧c.toNat≠32∧c.toNat≠9∧c.toNat≠35:=by
 obtain⟨k,x,N,j'⟩:=t;obtain⟨rfl,av⟩:=av;simp only at av
 rcases av with⟨rfl,Z,rfl⟩|⟨rfl,Z,rfl⟩|⟨rfl,rfl,Z,ab⟩|⟨rfl,Z,rfl⟩|⟨rfl,Z,rfl⟩
 ·obtain⟨c,l,rfl,ab,aj,aC,aT⟩:=L' Z;have hw:lb (c::l)=(⟨1,c::l,0,0⟩,0):=by simp only [lb,ab,aC,Z,auv];rfl
  have:=TO (abt ab)
  exact⟨c,l,rfl,by rw [TN aj (hb.1 (by simp only;omega)) (by rw [hw]),hw],this.1,this.2.1,this.2.2.1,this.2.2.2⟩
 ·obtain⟨c,l,rfl,ab,aj⟩:=amV Z;have hw:lb (c::l)=(⟨2,c::l,0,0⟩,0):=by simp only [lb,ab,tk,Z,aug,auv]
  have:=TO (abt ab)
  exact⟨c,l,rfl,by rw [TN aj (hb.1 (by simp only;omega)) (by rw [hw]),hw],this.1,this.2.1,this.2.2.1,this.2.2.2⟩
 ·obtain⟨u,rfl⟩:∃u:Nat,N=u:=⟨N.toNat,by omega⟩
  obtain⟨g1,g2,⟨c,l,g3,g4⟩,g5⟩:=abr u;have O':spell ⟨3,[],(u:Int),0⟩=c::l:=by simp only [spell,auv,auo];exact g3
  have p_:(c::l).all ir=true:=by rw [←g3];exact g1
  have abv:ir c=true:=by simp only [List.all_cons,Bool.and_eq_true]at p_;exact p_.1
  have am1:lL c=false:=by
   rw [qx]at abv;unfold lL;rw [decide_eq_false (show¬ 97≤c.toNat by omega)];rfl
  have hn:nR (c::l)=((u:Int),0):=by rw [←g3];exact amS u (by omega)
  have hw:lb (c::l)=(⟨3,[],(u:Int),0⟩,0):=by simp only [lb,am1,hn,auv];rfl
  have:=TO (abs abv)
  exact⟨c,l,O',by rw [TN (amT (λ_=>abs) p_) (hb.1 (by simp only;omega)) (by rw [hw]),hw],this.1,this.2.1,this.2.2.1,this.2.2.2⟩
 ·unfold ju at Z;simp only [Bool.and_eq_true,decide_eq_true_eq]at Z;refine⟨34,gC x++[34],rfl,?_,by decide,by decide,by decide,by decide⟩
  have:=abu x [] r Z.1 (by simp;omega)
  unfold fT;rw [List.append_assoc,List.singleton_append];simp only [show fQ 34=false from rfl,Bool.false_eq_true,auw,show(34:UInt8).toNat=34 from rfl,auv,this,xK,List.nil_append,auq,aum,aun]
 ·rcases amX Z with⟨ab,a,b,rfl⟩|⟨c,rfl,ab⟩
  ·obtain⟨g0,g1,g2,g3,g4,g5⟩:=amZ ab;refine⟨a,[b],rfl,?_,g2,g3,g4,g5⟩
   have hm:lM (a::b::r)=[a,b]:=by rw [Tr,if_pos ab]
   unfold fT;simp only [List.singleton_append,g0,Bool.false_eq_true,auw,g1,hm,reduceCtorEq,aum,aun]
  ·obtain⟨g0,g1,g2,g3,g4,g5⟩:=amY ab;refine⟨c,[],rfl,?_,g2,g3,g4,g5⟩
   have hm:lM (c::r)=[c]:=by
    cases r with
    |nil=>rw [aaW,if_pos ab]
    |cons d r=>rw [Tr,if_neg (hb.2 rfl c d rfl rfl),if_pos ab]
   unfold fT;simp only [List.nil_append,g0,Bool.false_eq_true,auw,g1,hm,reduceCtorEq,aum,aun]
def lg{t:Token}{r:aux}{T:List Token}(av:mH t)(hb:Bu t r)(h:eJ r T):eJ (spell t++r) (t::T):=by
 obtain⟨c,w,e,Z,ab,aj,aC,aT⟩:=am0 t r av hb;rw [e];exact eJ.tok ab aj aC aT Z av.1 h
def mI{r:aux}{T:List Token}(h:eJ r T):eJ (32::r) T:=eJ.sp (Or.inr rfl) h
def TP{r:aux}{T:List Token}(h:eJ r T):eJ (10::r) T:=eJ.sp (Or.inl rfl) h
open Go Go.Ab Go.Proofs
abbrev lh:=List (Option Token)
def flat:lh→aux
 |[]=>[]
 |some t::l=>spell t++flat l
 |none::l=>32::flat l
def dd:lh→List Token
 |[]=>[]
 |some t::l=>t::dd l
 |none::l=>dd l
def mJ:∀l m:lh,flat (l++m)=flat l++flat m
 |[],m=>rfl
 |some t::l,m=>by simp only [List.cons_append,flat,mJ l m,List.append_assoc]
 |none::l,m=>by simp only [List.cons_append,flat,mJ l m]
def tr:∀l m:lh,dd (l++m)=dd l++dd m
 |[],m=>rfl
 |some t::l,m=>by simp only [List.cons_append,dd,tr l m]
 |none::l,m=>by simp only [List.cons_append,dd,tr l m]
def dC(w:aux):Token:=⟨2,w,0,0⟩
def bc(w:aux):Token:=⟨5,w,0,0⟩
def hU(w:aux):Token:=⟨1,w,0,0⟩
def nU(n:Int):Token:=⟨3,[],n,0⟩
def L_(w:aux):Token:=⟨4,w,0,0⟩
def ca(op:Int):Nat:=if op=17 then 1 else if op=16 then 2 else if op=18 then 3 else if 10≤op∧op≤15 then 4 else if op=19 then 5 else if op=4∨op=5 then 6 else if 6≤op∧op≤8 then 7 else if op=9 then 8 else 9
def nV(op:Int):Token:=
 if op=17 then dC [111,114]else if op=16 then dC [97,110,100]else if op=10 then bc [61,61]else if op=11 then bc [33,61]else if op=12 then bc [60]else if op=13 then bc [60,61]
 else if op=14 then bc [62]else if op=15 then bc [62,61]else if op=19 then bc [43,43]else if op=4 then bc [43]else if op=5 then bc [45]else if op=6 then bc [42]else if op=7 then bc [47]else bc [37]
def hL(op:Int):Token:=
 if op=20 then dC [116,101,120,116]else if op=21 then dC [108,101,110]else if op=22 then dC [103,101,116,105,110,116]else if op=23 then dC [103,101,116,115,116,114]else if op=24 then dC [104,97,115]
 else if op=25 then dC [110,111,119]else if op=26 then dC [114,97,110,100,111,109]else dC [110,111,100,101]
def fA(op:Int)(p:lh)(least:Nat):lh:=if ca op<least then some (bc [40])::(p++[some (bc [41])])else p
def kR(Op N:Int)(S:aux)(L:List (Int×lh)):lh:=
 if Op=1 then[some (nU N)]else if Op=2 then[some (L_ S)]else if Op=3 then[some (hU S)]
 else match L with
  |[]=>[some (hL Op),some (bc [40]),some (bc [41])]
  |[a]=>if Op=18 then some (dC [110,111,116])::none::fA a.1 a.2 3 else if Op=9 then some (bc [45])::fA a.1 a.2 8 else some (hL Op)::some (bc [40])::(a.2++[some (bc [41])])
  |a::b::_=>fA a.1 a.2 (if ca Op=4 then 5 else ca Op)++none::some (nV Op)::none::fA b.1 b.2 (ca Op+1)
mutual
def bR:Expr→lh
 |⟨Op,N,S,ar⟩=>kR Op N S (jv ar)
def jv:List Expr→List (Int×lh)
 |[]=>[]
 |x::l=>(x.Op,bR x)::jv l
end
def ri(op:Int)(n:Nat):Prop:=(1≤op∧op≤27)∧(n:Int)=jH op
mutual
def gO:Expr→Prop
 |⟨Op,N,S,ar⟩=>ri Op ar.length∧(Op=1→0≤N∧N≤9223372036854775807)∧(Op≠1→N=0)∧(Op≠2∧Op≠3→S=[])∧(Op=2→ju S=true)∧(Op=3→gv S=true)∧F1 ar
def F1:List Expr→Prop
 |[]=>True
 |x::l=>gO x∧F1 l
end
mutual
def fG:Expr→Nat
 |⟨_,_,_,ar⟩=>1+qD ar
def qD:List Expr→Nat
 |[]=>0
 |x::l=>max (fG x) (qD l)
end
def Ma(e:Expr):gO e↔ri e.Op e.ar.length∧(e.Op=1→0≤e.N∧e.N≤9223372036854775807)∧(e.Op≠1→e.N=0)∧(e.Op≠2∧e.Op≠3→e.S=[])∧(e.Op=2→ju e.S=true)∧(e.Op=3→gv e.S=true)∧F1 e.ar:=by cases e;rfl
def tu(e:Expr):fG e=1+qD e.ar:=by cases e;rfl
def nh(p:lh):Prop:=∀r T,nT r→eJ r T→eJ (flat p++r) (dd p++T)
def jc{c:UInt8}{r:aux}(h:fQ c=false):nT (c::r):=λd hd=>by cases hd;exact h
def F2{t:Token}{r:aux}(aT:t.Kind≠5)(h:nT r):Bu t r:=⟨λ_=>h,λe=>absurd e aT⟩
def Bv{t:Token}{r:aux}:Bu t (32::r):=⟨λ_=>jc rfl,λ_ c d hc hd=>by
 cases hd;simp [two]⟩
def TQ{t:Token}{r:aux}:Bu t (10::r):=⟨λ_=>jc rfl,λ_ c d hc hd=>by
 cases hd;simp [two]⟩
def F3{c:UInt8}{r:aux}(h:c≠61∧c≠33∧c≠60∧c≠62∧c≠43):Bu (bc [c]) r:=⟨λe=>by simp [bc]at e,λ_ a d ha hd=>by
 simp only [bc,List.cons.injEq,and_true]at ha;subst ha;simp [two,h]⟩
def u'{w:aux}(h:w∈pw):mH (dC w):=⟨rfl,Or.inr (Or.inl ⟨rfl,h,rfl⟩)⟩
def pB{w:aux}(h:w∈marks):mH (bc w):=⟨rfl,Or.inr (Or.inr (Or.inr (Or.inr ⟨rfl,h,rfl⟩)))⟩
def abw{w:aux}(h:gv w=true):mH (hU w):=⟨rfl,Or.inl ⟨rfl,h,rfl⟩⟩
def abx{n:Int}(h:0≤n)(ab:n≤9223372036854775807):mH (nU n):=⟨rfl,Or.inr (Or.inr (Or.inl ⟨rfl,rfl,h,ab⟩))⟩
def am2{w:aux}(h:ju w=true):mH (L_ w):=⟨rfl,Or.inr (Or.inr (Or.inr (Or.inl ⟨rfl,h,rfl⟩)))⟩
def TR{t:Token}(h:mH t)(aT:t.Kind≠5):nh [some t]:=λr T hb aH=>by
 simp only [flat,dd,List.append_nil];exact lg h (F2 aT hb) aH
def Mb{r:aux}{T:List Token}(h:eJ r T):eJ (41::r) (bc [41]::T):=lg (t:=bc [41]) (pB (by decide)) (F3 (by decide)) h
def TS{r:aux}{T:List Token}(h:eJ r T):eJ (40::r) (bc [40]::T):=lg (t:=bc [40]) (pB (by decide)) (F3 (by decide)) h
def am3{p:lh}(h:nh p):nh (some (bc [40])::(p++[some (bc [41])])):=λr T hb aH=>by
 have e:flat (some (bc [40])::(p++[some (bc [41])]))++r=40::(flat p++41::r):=by
  simp only [flat,mJ,spell,bc];simp
 have e2:dd (some (bc [40])::(p++[some (bc [41])]))++T=bc [40]::(dd p++bc [41]::T):=by
  simp only [dd,tr];simp
 rw [e,e2];exact TS (h _ _ (jc rfl) (Mb aH))
def Mc{op:Int}{p:lh}(h:nh p)(k:Nat):nh (fA op p k):=by
 unfold fA;split
 ·exact am3 h
 ·exact h
def Md{c:Prop}[Decidable c]{a b:Token}(ha:mH a)(hb:mH b):mH (if c then a else b):=by
 by_cases h:c
 ·rw [if_pos h];exact ha
 ·rw [if_neg h];exact hb
def am4{c:Prop}[Decidable c]{a b:Token}{k:Int}(ha:a.Kind=k)(hb:b.Kind=k):(if c then a else b).Kind=k:=by
 by_cases h:c
 ·rw [if_pos h];exact ha
 ·rw [if_neg h];exact hb
def am5(op:Int):mH (nV op):=by
 unfold nV;refine Md (u' (by decide)) (Md (u' (by decide)) ?_)
 repeat refine Md (pB (by decide)) ?_
 exact pB (by decide)
def Bw(op:Int):mH (hL op)∧(hL op).Kind=2:=by
 unfold hL;constructor
 ·repeat refine Md (u' (by decide)) ?_
  exact u' (by decide)
 ·repeat refine am4 rfl ?_
  rfl
def am6{p q:lh}{t:Token}(aF:mH t)(hp:nh p)(ao:nh q):nh (p++none::some t::none::q):=λr T hb aH=>by
 have e:flat (p++none::some t::none::q)++r=flat p++32::(spell t++32::(flat q++r)):=by
  simp only [flat,mJ];simp
 have e2:dd (p++none::some t::none::q)++T=dd p++t::(dd q++T):=by
  simp only [dd,tr];simp
 rw [e,e2];exact hp _ _ (jc rfl) (mI (lg aF Bv (mI (ao r T hb aH))))
def am7{p:lh}{t:Token}(aF:mH t)(hp:nh p):nh (some t::none::p):=λr T hb aH=>by
 have e:flat (some t::none::p)++r=spell t++32::(flat p++r):=by simp only [flat];simp
 have e2:dd (some t::none::p)++T=t::(dd p++T):=by simp only [dd];simp
 rw [e,e2];exact lg aF Bv (mI (hp r T hb aH))
def am8{p:lh}(hp:nh p):nh (some (bc [45])::p):=λr T hb aH=>by
 have e:flat (some (bc [45])::p)++r=spell (bc [45])++(flat p++r):=by simp only [flat];simp
 have e2:dd (some (bc [45])::p)++T=bc [45]::(dd p++T):=by simp only [dd];simp
 rw [e,e2];exact lg (pB (by decide)) (F3 (by decide)) (hp r T hb aH)
def aby{p:lh}{t:Token}(aF:mH t)(aT:t.Kind=2)(hp:∀r T,eJ r T→eJ (flat p++41::r) (dd p++bc [41]::T)):nh (some t::some (bc [40])::(p++[some (bc [41])])):=λr T hb aH=>by
 have e:flat (some t::some (bc [40])::(p++[some (bc [41])]))++r=spell t++40::(flat p++41::r):=by simp only [flat,mJ,spell,bc];simp
 have e2:dd (some t::some (bc [40])::(p++[some (bc [41])]))++T=t::bc [40]::(dd p++bc [41]::T):=by simp only [dd,tr];simp
 rw [e,e2];exact lg aF (F2 (by omega) (jc rfl)) (TS (hp r T aH))
def am9{op:Int}(h:1≤op∧op≤27):jH op=0∧(op≤3∨25≤op)∨jH op=1∧(op=9∨op=18∨20≤op∧op≤24)∨jH op=2∧(4≤op∧op≤8∨10≤op∧op≤17∨op=19):=by
 obtain rfl|rfl|rfl|rfl|rfl|rfl|rfl|rfl|rfl|rfl|rfl|rfl|rfl|rfl|rfl|rfl|rfl|rfl|rfl|rfl|rfl|rfl|rfl|rfl|rfl|rfl|rfl:op=1∨op=2∨op=3∨op=4∨op=5∨op=6∨op=7∨op=8∨op=9∨op=10∨op=11∨op=12∨op=13∨op=14∨op=15∨op=16∨op=17∨op=18∨op=19∨op=20∨op=21∨op=22∨op=23∨op=24∨op=25∨op=26∨op=27:=by omega
 all_goals first|exact Or.inl ⟨rfl,by omega⟩|exact Or.inr (Or.inl ⟨rfl,by omega⟩)|exact Or.inr (Or.inr ⟨rfl,by omega⟩)
mutual
def abz:∀e:Expr,gO e→nh (bR e)
 |⟨Op,N,S,ar⟩,h=>by
  obtain⟨⟨Z,ab⟩,aj,aC,aT,bP,cM,dj⟩:=h;have aG:=abA ar dj;unfold bR;unfold kR;by_cases e1:Op=1
  ·rw [if_pos e1];exact TR (abx (aj e1).1 (aj e1).2) (by simp [nU])
  by_cases e2:Op=2
  ·rw [if_neg e1,if_pos e2];exact TR (am2 (bP e2)) (by simp [L_])
  by_cases e3:Op=3
  ·rw [if_neg e1,if_neg e2,if_pos e3];exact TR (abw (cM e3)) (by simp [hU])
  rw [if_neg e1,if_neg e2,if_neg e3]
  match ar,aG with
  |[],_=>exact aby (p:=[]) (Bw Op).1 (Bw Op).2 (λr T aH=>Mb aH)
  |[a],aG=>
   have ha:=aG (a.Op,bR a) (by simp [jv])
   simp only [jv];by_cases abB:Op=18
   ·rw [if_pos abB];exact am7 (u' (by decide)) (Mc ha 3)
   ·rw [if_neg abB];by_cases Me:Op=9
    ·rw [if_pos Me];exact am8 (Mc ha 8)
    ·rw [if_neg Me];exact aby (Bw Op).1 (Bw Op).2 (λr T aH=>ha _ _ (jc rfl) (Mb aH))
  |a::b::_,aG=>
   have ha:=aG (a.Op,bR a) (by simp [jv])
   have hb:=aG (b.Op,bR b) (by simp [jv])
   simp only [jv];exact am6 (am5 Op) (Mc ha _) (Mc hb _)
def abA:∀l:List Expr,F1 l→∀x,x∈jv l→nh x.2
 |[],h,x,hx=>by simp [jv]at hx
 |e::l,h,x,hx=>by
  rcases List.mem_cons.1 hx with rfl|hx
  ·exact abz e h.1
  ·exact abA l h.2 x hx
end
end Go.Ab.Y

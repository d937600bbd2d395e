/- The abstract machine: a step of code over plain data, proved against the model. -/
import Derived.Laws.Build
import Derived.Laws.IdiomStrings
import Derived.Test.YtbncfepdlmnmiaaGreatDoorMachA
set_option linter.all false
namespace Go.Ab
section
variable {P:Program} {K:Ctx} {N:Nat} {M:Mem} {β:Nat→Option Nat} {g:di} {tmps:Array Value} {w:World} {o:Oper} {f:kN} {p:Path} {tt:dx} {cn:gg} {ops:List Oper}
structure kU(M:Mem)(k m:Nat)(get:Nat→V)(news:List Value):Prop where
 len:news.length=m*k
 hk:∀i,i<m→(get i).cells.length=k
 one:∀u,u∈news→u.oneCell'=true
 rep:∀(i j:Nat) c u,i<m→(get i).cells[j]? = some c→news[i*k+j]? = some u→dl M u c
def flat(k m:Nat)(val:Nat→Nat→Value):List Value:=(List.range (m*k)).map λq=>val (q / k) (q % k)
def pN(k m:Nat)(val:Nat→Nat→Value):(flat k m val).length=m*k:=by simp [flat]
def acY{k m:Nat}{val:Nat→Nat→Value}{i j:Nat}(hi:i<m)(hj:j<k):(flat k m val)[i*k+j]? = some (val i j):=by
 have c':i*k+j<m*k:=by
  have Z:(i+1)*k≤m*k:=Nat.mul_le_mul_right k hi;rw [Nat.add_mul]at Z;omega
 have Z:(i*k+j) / k=i:=by rw [Nat.mul_comm,Nat.mul_add_div (by omega),Nat.div_eq_of_lt hj];omega
 have af:(i*k+j) % k=j:=by rw [Nat.mul_comm,Nat.mul_add_mod,Nat.mod_eq_of_lt hj]
 simp [flat,c',Z,af]
def SE{k m:Nat}{val:Nat→Nat→Value}{q:Nat}{u:Value}(h:(flat k m val)[q]? = some u):q / k<m∧q % k<k∧q=q / k*k+q % k∧u=val (q / k) (q % k):=by
 have aE:q<m*k:=by have:=(List.getElem?_eq_some_iff.1 h).1;rwa [pN]at this
 have hk:0<k:=by
  rcases Nat.eq_zero_or_pos k with rfl|h;· simp at aE
  ·exact h
 refine⟨(Nat.div_lt_iff_lt_mul hk).2 aE,Nat.mod_lt _ hk,(Nat.div_add_mod' q k).symm,?_⟩
 simp [flat,aE]at h;exact h.symm
def Ji{v:Value}{k n:Nat}{get:Nat→V}(h:cz M β v (.v (.bL k n get))):((v = .slice none 0 0∨∃a,v = .slice (some a) 0 0)∧n=0)∨
 ∃(b off cap:Nat) (eN:List Value),v = .slice (some ⟨b,off,none⟩) n cap∧n≤cap∧kU M k n get eN∧∀(q:Nat) u,eN[q]? = some u→M b (off+q)=some u:=by
 rcases rN h with h|⟨b,off,cap,val,rfl,hc,hk,c7,Z,ak⟩
 ·exact .inl h
 ·refine .inr ⟨b,off,cap,flat k n val,rfl,hc,⟨pN k n val,hk,?_,?_⟩,?_⟩
  ·refine Sl λq u hu=>?_
   obtain⟨af,au,_,rfl⟩:=SE hu;exact Z _ _ af au
  ·intro i j c u hi hc hu;have hj:j<k:=by rw [←hk i hi];exact(List.getElem?_eq_some_iff.1 hc).1
   rw [acY hi hj]at hu;cases hu;exact ak i j c hi hc
  ·intro q u hu;obtain⟨af,au,aQ,rfl⟩:=SE hu;have:=c7 _ _ af au
   rwa [Nat.add_assoc,←aQ]at this
def vV(k:Nat)(get:Nat→V):kU M k 0 get []:=⟨by simp,by simp,by simp,by simp⟩
def kU.app{k n m:Nat}{get lx:Nat→V}{eN news:List Value}(h:kU M k n get eN)(af:kU M k m lx news):kU M k (n+m) (λi=>bif Nat.blt i n then get i else lx (i-n)) (eN++news):=by
 have hb:∀i,(bif Nat.blt i n then get i else lx (i-n))=if i<n then get i else lx (i-n):=by
  intro i;by_cases hi:i<n
  ·have:Nat.blt i n=true:=by simpa using hi
   simp [this,hi]
  ·have:Nat.blt i n=false:=by rw [Bool.eq_false_iff];simpa using hi
   simp [this,hi]
 refine⟨by simp [h.len,af.len,Nat.add_mul],λi hi=>?_,λu hu=>?_,λi j c u hi hc hu=>?_⟩
 ·rw [hb];split
  ·exact h.hk i (by assumption)
  ·exact af.hk _ (by omega)
 ·rcases List.mem_append.1 hu with hu|hu
  ·exact h.one u hu
  ·exact af.one u hu
 ·rw [hb]at hc;by_cases hin:i<n
  ·rw [if_pos hin]at hc;have hj:j<k:=by rw [←h.hk i hin];exact(List.getElem?_eq_some_iff.1 hc).1
   have c':i*k+j<eN.length:=by
    rw [h.len];have Z:(i+1)*k≤n*k:=Nat.mul_le_mul_right k hin;rw [Nat.add_mul]at Z;omega
   rw [List.getElem?_append_left c']at hu;exact h.rep i j c u hin hc hu
  ·rw [if_neg hin]at hc;have aoq:n*k≤i*k:=Nat.mul_le_mul_right k (by omega)
   rw [List.getElem?_append_right (by rw [h.len];omega),h.len]at hu
   have:i*k+j-n*k=(i-n)*k+j:=by rw [Nat.sub_mul];omega
   rw [this]at hu;exact af.rep (i-n) j c u (by omega) hc hu
def kU.mono{M':Mem}(c7:M.le M'){k n:Nat}{get:Nat→V}{eN:List Value}(h:kU M k n get eN):kU M' k n get eN:=
 ⟨h.len,h.hk,h.one,λi j c u hi hc hu=>(h.rep i j c u hi hc hu).mono c7⟩
def kU.bL{k n cap b off:Nat}{get:Nat→V}{eN:List Value}(h:kU M k n get eN)(hc:n≤cap)(c7:∀(q:Nat) u,eN[q]? = some u→M b (off+q)=some u):
 dl M (.slice (some ⟨b,off,none⟩) n cap) (.bL k n get):=by
 have hin:∀i j,i<n→j<k→eN[i*k+j]? = some (eN.getD (i*k+j) undef):=λi j hi hj=>acI h.len hi hj
 refine .bL b off k n cap get (λi j=>eN.getD (i*k+j) undef) hc h.hk (λi j hi hj=>?_) (λi j hi hj=>CZ h.one (hin i j hi hj)) (λi j c hi lB=>?_)
 ·rw [Nat.add_assoc];exact c7 _ _ (hin i j hi hj)
 ·have hj:j<k:=by rw [←h.hk i hi];exact(List.getElem?_eq_some_iff.1 lB).1
  exact h.rep i j c _ hi lB (hin i j hi hj)
def acZ(t gV ty e:TypeId)(i:TypeInfo)(bU:P.underlying t=some (.slice e))(hi:P.info? e=some i)(b tj lh:Nat)(x:Value)(n:Nat)(news:List Value)(hs:Src P i.size gV x n news w)
 (tk:tj+n≤lh) {vs:List Value} {T:TypeId} (bz:w.heap[b]? = some (.cells ⟨vs⟩ T (0,0))) (hle:tj*i.size+news.length≤vs.length):
 (Builtin.append_ #[t,gV] ty #[.slice (some ⟨b,0,none⟩) tj lh,x]).run P w = .ok (.slice (some ⟨b,0,none⟩) (tj+n) lh) (w.setRow b (vs.take (tj*i.size)++news++vs.drop (tj*i.size+news.length)).toArray):=by
 have dS:=run_storeCells_at P b (tj*i.size) T news 0 ⟨vs⟩ w bz (by simpa using hle) hs.one
 simp only [Nat.add_zero]at dS;rcases hs.kind with⟨a_,hk⟩|hk<;>simp [Builtin.append_,run_underlying bU,run_underlying hk,sizeOf,typeInfo,hi,hs.len,tk,hs.cells,addr_add,dS]
def ac0(t gV ty e:TypeId)(i:TypeInfo)(bU:P.underlying t=some (.slice e))(hi:P.info? e=some i)(x:Value)(news:List Value)(hs:Src P i.size gV x 0 news w):
 (Builtin.append_ #[t,gV] ty #[.slice none 0 0,x]).run P w = .ok (.slice none 0 0) w:=by
 rcases hs.kind with⟨a_,hk⟩|hk<;>simp [Builtin.append_,run_underlying bU,run_underlying hk,sizeOf,typeInfo,hi,hs.len,hs.cells]
def C6{t gV:TypeId}{a x:Operand}{c:Call}(aA:o.op = .call c)(hc:c.callee = .builtin .append)(eZ:c.args.toList=[a,x])(gC:c.argTypes.toList[0]? = some t)(nT:c.argTypes.toList[1]? = some gV)
 {hy Jj:Value} (ha:(⟨tmps,[]⟩:Act).eval a=hy) (hx:(⟨tmps,[]⟩:Act).eval x=Jj) {v:Value} {w':World}
 (h:∀ty,(Builtin.append_ #[t,gV] ty #[hy,Jj]).run P w = .ok v w'):
 (execOp (Act.eval ⟨tmps,[]⟩) o).run P w = .ok (.value v) w':=by
 have tl:c.args = #[a,x]:=by apply Array.ext';simpa using eZ
 have Jk:∀ty,(Builtin.append_ c.argTypes ty #[hy,Jj]).run P w = .ok v w':=by
  intro ty;have h0:c.argTypes[0]? = some t:=by simpa using gC
  have Z:c.argTypes[1]? = some gV:=by simpa using nT
  have:=h ty
  simp only [Builtin.append_,h0,Z]at this ⊢;exact this
 simp only [execOp,aA,resolve,hc,tl,Sem.run_bind,Sem.run_pure,Result.andThen_ok,invoke,builtin,List.map_toArray,List.map_cons,List.map_nil,ha,hx];simp [Jk]
def ac1(h:fx P K N M β g tmps w)(hp:fG tmps p)(cj:e7 P tt=true){t gV e:TypeId}{aI ct:eE}(ag:look tt t=some aI)(hk:aI.k = .bL e)(eG:look tt e=some ct){s:Nat}{x:Operand}{c:Call}
 (aA:o.op = .call c) (hc:c.callee = .builtin .append) (eZ:c.args.toList=[.tmp s,x]) (gC:c.argTypes.toList[0]? = some t) (nT:c.argTypes.toList[1]? = some gV)
 {n m:Nat} {get lx:Nat→V} (hs:rd g.env g.b0 p tt o.type (.tmp s)=some (.full ct.size n get)) (yV:1≤ct.bytes) (hm:1≤m)
 {news:List Value} (kV:Src P ct.size gV ((⟨tmps,[]⟩:Act).eval x) m news w) (kW:kU M ct.size m lx news) (tk:(n+m)*ct.bytes≤140737488355328)
 {y:V} (cc:gH (.bL ct.size (n+m) λi=>bif Nat.blt i n then get i else lx (i-n)) y) {rs:List fo} {bb:List Prop}:
 Yields P K M β g {e:=some {d:=.v y,own:=some e},gI:=[s],rs,bb} o tmps w:=by
 obtain⟨r⟩:=et cj ag;obtain⟨dT⟩:=et cj eG;have nR:=h.bu.gI [s];have eH:=d_ (ds:=[]) h hp hs;have yW:P.underlying t=some (.slice e):=by rw [r.hd,oH r hk]
 have tm:(⟨tmps,[]⟩:Act).eval (.tmp s)=tmps.getD s undef:=rfl;rw [tm]at eH
 have qQ:∃base,tmps.getD s undef = .slice base n n∧dl M (.slice base n n) (.bL ct.size n get):=by
  generalize tmps.getD s undef=hy at eH
  cases eH with
  |full base k n get h=>exact⟨base,rfl,h⟩
 obtain⟨base,ay,fM⟩:=qQ;have c':n<n+m:=by omega
 have tn:∃eN:List Value,kU M ct.size n get eN∧∀w':World,w'.heap=w.heap→(Builtin.firstCells ct.size n (.slice base n n)).run P w' = .ok eN.toArray w':=by
  rcases Ji (cz.v _ _ fM:cz M β _ _) with⟨rQ|⟨a,rQ⟩,nd⟩|⟨b,off,cap,eN,rQ,hcap,holds,hold⟩
  ·simp only [Value.slice.injEq]at rQ;obtain⟨rfl,rfl,_⟩:=rQ;exact⟨[],vV _ _,λw' _=>run_firstCells_none w' ct.size 0 0 0⟩
  ·simp only [Value.slice.injEq]at rQ;obtain⟨rfl,rfl,_⟩:=rQ;refine⟨[],vV _ _,λw' m'=>?_⟩
   exact run_firstCells_some (P:=P) w' ct.size 0 a 0 0 [] (by simp) (λj u hj=>by simp at hj)
  ·simp only [Value.slice.injEq]at rQ;obtain⟨rfl,_,rfl⟩:=rQ;refine⟨eN,holds,λw' m'=>?_⟩
   refine run_firstCells_some (P:=P) w' ct.size n ⟨b,off,none⟩ n n eN (by rw [holds.len]) (λj u hj=>?_)
   rw [addr_add,qK (w:=w) (by rw [m'])]
   exact h.bu.mem _ _ _ (hold j u hj)
 obtain⟨eN,holds,tn⟩:=tn
 have Jl:((n+m:Nat):Int)≤9223372036854775807:=by
  have:n+m≤(n+m)*ct.bytes:=Nat.le_mul_of_pos_right _ yV
  omega
 have Jm:=growslice_fits (need:=n+m) (old:=n) (bytes:=ct.bytes) c' tk;have hcap:=grownCap_ge w (n+m) n e;have qR:=holds.app kW
 have tp:dT.z.cells.size=ct.size:=by
  obtain⟨mv,_⟩:=vM (M:=M) dT.yO;have:=dT.IR
  simp at mv;omega
 generalize tf:(Builtin.zeroCells dT.z.cells (grownCap w (n+m) n e-(n+m))).toList=zs
 have Jn:Builtin.zeroCells dT.z.cells (grownCap w (n+m) n e-(n+m))=zs.toArray:=by rw [←tf]
 have Jo:zs.length=(grownCap w (n+m) n e-(n+m))*ct.size:=by
  rw [←tf];simp [Builtin.zeroCells,tp]
 have eM:∀ty,(Builtin.append_ #[t,gV] ty #[tmps.getD s undef,(⟨tmps,[]⟩:Act).eval x]).run P w =
  .ok (.slice (some ⟨w.heap.size,0,none⟩) (n+m) (grownCap w (n+m) n e)) (w.drew.alloc (.cells ⟨eN++news++zs⟩ e (0,0))):=by
  intro ty;have:=run_append_grow_src (P:=P) w t gV ty e dT.info dT.z yW dT.hi dT.dQ base n n eN (by rw [dT.size];exact tn w.drew rfl) _ m news (by rw [dT.size];exact kV) c' Jl (by rw [dT.bytes];exact Jm)
  rw [ay,this,Jn];simp
 have m':(w.drew.alloc (.cells ⟨eN++news++zs⟩ e (0,0))).heap=w.heap.push (.cells ⟨eN++news++zs⟩ e (0,0)):=rfl
 have Jp:(eN++news++zs).length=grownCap w (n+m) n e*ct.size:=by
  rw [List.length_append,qR.len,Jo,←Nat.add_mul];congr 1;omega
 obtain⟨cW,hle⟩:=nR.newRow (vs:=eN++news++zs) (T:=e) (n:=(n+m)*ct.size) m'
 have yR:(eN++news++zs).take ((n+m)*ct.size)=eN++news:=by
  rw [List.take_append_of_le_length (by rw [qR.len];exact Nat.le_refl _),List.take_of_length_le (by rw [qR.len];exact Nat.le_refl _)]
 refine .inl ⟨_,_,C6 aA hc eZ gC nT tm rfl eM,_,β,hle,λ_ _ h=>h,λ_ _ h=>.inl h,cW,λe1 he=>?_⟩
 cases he;refine⟨.v _ _ (cc _ _ ((qR.mono hle).bL hcap λq u hu=>?_)),λT l0 aS=>?_⟩
 ·rw [yR];exact C1 hu
 ·cases aS;have:=I6 (l0:=l0) (T:=e) nR (vs:=eN++news++zs) (T':=e) (n:=n+m) (cap:=grownCap w (n+m) n e) rfl m' hcap (by rw [dT.cellsOf,Jp];exact Nat.le_refl _)
  rw [dT.cellsOf]at this;exact this
def SF(h:fx P K N M β g tmps w)(hp:fG tmps p)(cj:e7 P tt=true){t gV e:TypeId}{aI ct:eE}(ag:look tt t=some aI)(hk:aI.k = .bL e)(eG:look tt e=some ct){s:Nat}{x:Operand}{c:Call}
 (aA:o.op = .call c) (hc:c.callee = .builtin .append) (eZ:c.args.toList=[.tmp s,x]) (gC:c.argTypes.toList[0]? = some t) (nT:c.argTypes.toList[1]? = some gV)
 {n m:Nat} {get lx:Nat→V} (hs:rd g.env g.b0 p tt o.type (.tmp s)=some (.v (.bL ct.size n get))) {vU:aZ} (ti:look g.env s=some vU) (fL:vU.own=some e) (yV:1≤ct.bytes)
 {news:List Value} (kV:Src P ct.size gV ((⟨tmps,[]⟩:Act).eval x) m news w) (kW:kU M ct.size m lx news) (tk:(n+m)*ct.bytes≤140737488355328)
 {y:V} (cc:gH (.bL ct.size (n+m) λi=>bif Nat.blt i n then get i else lx (i-n)) y) {rs:List fo} {bb:List Prop}:
 Yields P K M β g {e:=some {d:=.v y,own:=some e},gI:=[s],rs,bb} o tmps w:=by
 obtain⟨r⟩:=et cj ag;obtain⟨dT⟩:=et cj eG;have nR:=h.bu.gI [s];have eH:=d_ (ds:=[]) h hp hs;have yW:P.underlying t=some (.slice e):=by rw [r.hd,oH r hk]
 have tm:(⟨tmps,[]⟩:Act).eval (.tmp s)=tmps.getD s undef:=rfl;rw [tm]at eH;have yX:=h.bu.own (.slot s) vU e ti fL;simp only [ci]at yX;have yY:=h.bu.hand ti fL
 -- lg row ac2 is grown
 have SG:∀(base:Option Addr) (lh:Nat) (eN:List Value),tmps.getD s undef = .slice base n lh→kU M ct.size n get eN→
  (∀w':World,w'.heap=w.heap→(Builtin.firstCells ct.size n (.slice base n lh)).run P w' = .ok eN.toArray w')→lh<n+m→
  Yields P K M β g {e:=some {d:=.v y,own:=some e},gI:=[s],rs,bb} o tmps w:=by
  intro base lh eN ay holds tn c'
  have Jl:((n+m:Nat):Int)≤9223372036854775807:=by
   have:n+m≤(n+m)*ct.bytes:=Nat.le_mul_of_pos_right _ yV
   omega
  have Jm:=growslice_fits (need:=n+m) (old:=lh) (bytes:=ct.bytes) c' tk;have hcap:=grownCap_ge w (n+m) lh e;have qR:=holds.app kW
  have tp:dT.z.cells.size=ct.size:=by
   obtain⟨mv,_⟩:=vM (M:=M) dT.yO;have:=dT.IR
   simp at mv;omega
  generalize tf:(Builtin.zeroCells dT.z.cells (grownCap w (n+m) lh e-(n+m))).toList=zs
  have Jn:Builtin.zeroCells dT.z.cells (grownCap w (n+m) lh e-(n+m))=zs.toArray:=by rw [←tf]
  have Jo:zs.length=(grownCap w (n+m) lh e-(n+m))*ct.size:=by
   rw [←tf];simp [Builtin.zeroCells,tp]
  have eM:∀ty,(Builtin.append_ #[t,gV] ty #[tmps.getD s undef,(⟨tmps,[]⟩:Act).eval x]).run P w =
   .ok (.slice (some ⟨w.heap.size,0,none⟩) (n+m) (grownCap w (n+m) lh e)) (w.drew.alloc (.cells ⟨eN++news++zs⟩ e (0,0))):=by
   intro ty;have:=run_append_grow_src (P:=P) w t gV ty e dT.info dT.z yW dT.hi dT.dQ base n lh eN (by rw [dT.size];exact tn w.drew rfl) _ m news (by rw [dT.size];exact kV) c' Jl (by rw [dT.bytes];exact Jm)
   rw [ay,this,Jn];simp
  have m':(w.drew.alloc (.cells ⟨eN++news++zs⟩ e (0,0))).heap=w.heap.push (.cells ⟨eN++news++zs⟩ e (0,0)):=rfl
  have Jp:(eN++news++zs).length=grownCap w (n+m) lh e*ct.size:=by
   rw [List.length_append,qR.len,Jo,←Nat.add_mul];congr 1;omega
  obtain⟨cW,hle⟩:=nR.newRow (vs:=eN++news++zs) (T:=e) (n:=(n+m)*ct.size) m'
  have yR:(eN++news++zs).take ((n+m)*ct.size)=eN++news:=by
   rw [List.take_append_of_le_length (by rw [qR.len];exact Nat.le_refl _),List.take_of_length_le (by rw [qR.len];exact Nat.le_refl _)]
  refine .inl ⟨_,_,C6 aA hc eZ gC nT tm rfl eM,_,β,hle,λ_ _ h=>h,λ_ _ h=>.inl h,cW,λe1 he=>?_⟩
  cases he;refine⟨.v _ _ (cc _ _ ((qR.mono hle).bL hcap λq u hu=>?_)),λT l0 aS=>?_⟩
  ·rw [yR];exact C1 hu
  ·cases aS;have:=I6 (l0:=l0) (T:=e) nR (vs:=eN++news++zs) (T':=e) (n:=n+m) (cap:=grownCap w (n+m) lh e) rfl m' hcap (by rw [dT.cellsOf,Jp];exact Nat.le_refl _)
   rw [dT.cellsOf]at this;exact this
 replace yX:=jz.bL yX eH
 have cI:(tmps.getD s undef = .slice none 0 0∧n=0)∨∃(b off cap:Nat) (eN:List Value),tmps.getD s undef = .slice (some ⟨b,off,none⟩) n cap∧n≤cap∧kU M ct.size n get eN∧∀(q:Nat) u,eN[q]? = some u→M b (off+q)=some u:=by
  rcases Ji eH with⟨ay|⟨a,ay⟩,nd⟩|hx
  ·exact .inl ⟨ay,nd⟩
  ·subst nd;rcases yX with h0|⟨bK,n',SH,vs,T',Z,_⟩
   ·exact .inl ⟨h0,rfl⟩
   ·rw [ay]at Z;simp only [Value.slice.injEq,Option.some.injEq]at Z;obtain⟨rfl,rfl,rfl⟩:=Z;exact .inr ⟨bK,0,0,[],ay,Nat.le_refl _,vV _ _,λq u hu=>by simp at hu⟩
  ·exact .inr hx
 rcases cI with⟨ay,nd⟩|⟨b,off,cap,eN,ay,hcap,holds,hold⟩
 ·subst nd;by_cases hm:m=0
  ·subst hm;refine .inl ⟨_,_,C6 aA hc eZ gC nT (tm.trans ay) rfl (λty=>ac0 (w:=w) t gV ty e dT.info yW dT.hi _ news (by rw [dT.size];exact kV)),M,β,Mem.le_refl _,λ_ _ h=>h,λ_ _ h=>.inl h,nR,λe1 he=>?_⟩
   cases he;exact⟨.v _ _ (cc _ _ (.lb _ _)),λT l0 _=>IL l0 T⟩
  ·refine SG none 0 [] ay (vV _ _) (λw' _=>run_firstCells_none w' ct.size 0 0 0) (by omega)
 ·by_cases c':cap<n+m
  ·refine SG (some ⟨b,off,none⟩) cap eN ay holds (λw' m'=>?_) c'
   refine run_firstCells_some (P:=P) w' ct.size n ⟨b,off,none⟩ n cap eN (by rw [holds.len]) (λj u hj=>?_)
   rw [addr_add,qK (w:=w) (by rw [m'])]
   exact h.bu.mem _ _ _ (hold j u hj)
  · -- there is room
   rcases yX with h0|⟨bK,n',SH,vs,T',Z,aor,bz,my,jT,dC,I7⟩
   ·rw [ay]at h0;simp at h0
   ·rw [ay]at Z;simp only [Value.slice.injEq,Option.some.injEq,Addr.mk.injEq,and_true]at Z;obtain⟨⟨rfl,rfl⟩,rfl,rfl⟩:=Z;rw [dT.cellsOf]at my jT
    have hlen:n*ct.size+news.length≤vs.length:=by
     rw [kW.len,←Nat.add_mul];exact Nat.le_trans (Nat.mul_le_mul_right _ (by omega)) my
    have eM:∀ty,(Builtin.append_ #[t,gV] ty #[tmps.getD s undef,(⟨tmps,[]⟩:Act).eval x]).run P w =
     .ok (.slice (some ⟨b,0,none⟩) (n+m) cap) (w.setRow b (vs.take (n*ct.size)++news++vs.drop (n*ct.size+news.length)).toArray):=by
     intro ty;have:=acZ (P:=P) (w:=w) t gV ty e dT.info yW dT.hi b n cap _ m news (by rw [dT.size];exact kV) (by omega) bz (by rw [dT.size];exact hlen)
     rw [dT.size]at this;rw [ay,this]
    generalize SI:vs.take (n*ct.size)++news++vs.drop (n*ct.size+news.length)=vs' at eM
    have ac3:vs'.length=vs.length:=by rw [←SI,tg hlen]
    have pJ:(w.setRow b vs'.toArray).heap[b]? = some (.cells ⟨vs'⟩ T' (0,0)):=setRow_heap w b _ _ T' (0,0) bz;have hle:M.le (iG M b (n*ct.size) news):=I5 jT;have jP:∀T,iC T (tmps.getD s undef) b:=λT=>by rw [ay];rfl
    have cW:bN P K (iG M b (n*ct.size) news) β {env:=gu [s] g.env,H:=g.H,a8:=g.a8} tmps (w.setRow b vs'.toArray):=by
     refine nR.free b dC (λr cs ak hb=>(yY (.slot s)).unbox b r cs (jP _) ak hb) (λl e1 gB fr rR=>?_) (λbK ef _=>setRow_other w b bK _ ef) hle (λbK o' ef=>?_) (λo' jk nU=>?_)
     ·by_cases C7:l = .slot s
      ·subst C7;simp only [aJ.at,mw,List.mem_singleton,if_true,Option.map_eq_some_iff]at fr;obtain⟨_,_,rfl⟩:=fr;simp at rR
      ·exact(yY (.slot s)).apart l e1 gB b fr rR C7 (jP _)
     ·simp [iG,ef]
     ·rw [cell_of_heap pJ,←SI,yS hlen];unfold iG at nU;split at nU
      ·rename_i jA;rw [if_pos ⟨jA.2.1,jA.2.2⟩];exact nU
      ·rename_i jA;rw [if_neg (λyZ=>jA ⟨rfl,yZ.1,yZ.2⟩)]
       have:=h.bu.mem _ _ _ nU
       rwa [cell_of_heap bz]at this
    refine .inl ⟨_,_,C6 aA hc eZ gC nT tm rfl eM,_,β,hle,λ_ _ h=>h,λ_ _ h=>.inl h,cW,λe1 he=>?_⟩
    cases he;refine⟨.v _ _ (cc _ _ (((holds.app kW).mono hle).bL (by omega) λq u hu=>?_)),λT l0 aS=>?_⟩
    ·by_cases aE:q<eN.length
     ·rw [List.getElem?_append_left aE]at hu;exact hle _ _ _ (hold q u hu)
     ·rw [List.getElem?_append_right (by omega)]at hu
      have:=C1 (M:=M) (b:=b) (lo:=n*ct.size) hu
      rw [holds.len]at this;rw [Nat.zero_add];have oK:n*ct.size+(q-n*ct.size)=q:=by rw [holds.len]at aE;omega
      rwa [oK]at this
    ·cases aS;refine⟨.inr ⟨b,n+m,cap,vs',T',rfl,by omega,pJ,by rw [dT.cellsOf,ac3];exact my,λo' kt=>?_,dC,I7⟩,λl e1 gB b4 fr rR _ cN=>?_,λb4 r cs cN ak=>?_⟩
     ·rw [dT.cellsOf,Nat.add_mul]at kt;unfold iG;rw [if_neg (λyZ=>by rw [kW.len]at yZ;omega)]
      exact jT o' (by omega)
     ·simp [iC,jy]at cN;subst cN
      have C7:l ≠ .slot s:=by
       rintro rfl
       simp only [after,aJ.at,mw,List.mem_singleton,if_true,Option.map_eq_some_iff]at fr;obtain⟨_,_,rfl⟩:=fr;simp at rR
      have ac4:ci tmps (w.setRow b vs'.toArray) β l=ci tmps w β l:=by
       cases l with
       |slot qL=>rfl
       |cell r i=>
        have eG:=fr;simp only [after,aJ.at]at eG;cases ak:look g.H r with
        |none=>simp [ak]at eG
        |some cs=>
         obtain⟨hR,ac5,oG,fp,SJ,_⟩:=h.bu.box r cs ak;have ef:hR≠b:=by rintro rfl;exact(yY (.slot s)).unbox hR r cs (jP _) ak fp
         simp only [ci,fp];rw [qK (w:=w) (setRow_other w b hR _ ef)]
      rw [ac4];exact(yY (.slot s)).apart l e1 gB b fr rR C7 (jP _)
     ·simp [iC,jy]at cN;subst cN;exact(yY (.slot s)).unbox b r cs (jP _) ak
def SK(h:bN P K M β {env:=g.env,H:=g.H,a8:=g.a8} tmps w)(cj:e7 P tt=true){gV e2:TypeId}{aI:eE}(ag:look tt gV=some aI)(hk:aI.k = .bL e2){v:Value}{k m:Nat}{get:Nat→V}
 (ay:cz M β v (.v (.bL k m get))):∃news,Src P k gV v m news w∧kU M k m get news:=by
 obtain⟨r⟩:=et cj ag;have hu:P.underlying gV=some (.slice e2):=by rw [r.hd,oH r hk]
 rcases Ji ay with⟨rfl|⟨a,rfl⟩,rfl⟩|⟨b,off,cap,eN,rfl,_,kW,hold⟩
 ·exact⟨[],Src.ofNil w hu 0,vV _ _⟩
 ·exact⟨[],Src.ofSlice w hu a 0 0 [] (by simp) (λj u hj=>by simp at hj) (by simp),vV _ _⟩
 ·have hc:∀(j:Nat) u,eN[j]? = some u→w.cell? ((⟨b,off,none⟩:Addr).add j)=some u:=λj u hj=>by rw [addr_add];exact h.mem _ _ _ (hold j u hj)
  exact⟨eN,Src.ofSlice w hu _ m cap eN kW.len hc kW.one,kW⟩
def ac6(cj:e7 P tt=true){gV:TypeId}{aI:eE}(ag:look tt gV=some aI)(hk:aI.k = .str)(l:ap0)(M:Mem):
 ∃news,Src P 1 gV (.string ⟨⟨l⟩⟩) l.length news w∧kU M 1 l.length (λi=>.int .u8 (l.getD i 0).toNat) news:=by
 obtain⟨r⟩:=et cj ag;have hu:P.underlying gV=some .string:=by rw [r.hd,pH r hk]
 refine⟨byteCells ⟨⟨l⟩⟩,Src.ofString w hu ⟨⟨l⟩⟩,⟨by simp [byteCells],λi _=>rfl,λu hu=>?_,λi j c u hi hc hu=>?_⟩⟩
 ·obtain⟨_,_,rfl⟩:=List.mem_map.1 hu;rfl
 ·cases j with
  |succ j=>simp [V.cells]at hc
  |zero=>
   simp [V.cells]at hc;subst hc;simp only [byteCells,Nat.mul_one,Nat.add_zero,List.getElem?_map,Option.map_eq_some_iff]at hu;obtain⟨a,ha,rfl⟩:=hu;have:l[i]? = some a:=ha
   simp [this];exact .int _ _
end
def qS:Nat→List D→List (Nat×TypeId)→List aZ
 |_,[],_=>[]
 |i,d::l,en=>{d,own:=look en i}::qS (i+1) l en
def hA(args:List D)(en:List (Nat×TypeId)):List (Nat×aZ):=c8 0 (qS 0 args en)
def y0:∀(l:List D) (k i:Nat) (en:List (Nat×TypeId)),(qS k l en)[i]? = (l[i]?).map λd=>({d,own:=look en (k+i)}:aZ)
 |[],k,i,en=>by simp [qS]
 |d::l,k,i,en=>by
  cases i with
  |zero=>simp [qS]
  |succ i=>
   simp only [qS,List.getElem?_cons_succ,y0 l (k+1) i en];rw [show k+1+i=k+(i+1)by omega]
def hF:Out→List (Nat×aZ)
 |.ret d own=>[(0,{d,own})]
 |.bl x=>[(0,{d:=.v x})]
def pO:Out→Value→Ending
 |.ret _ _,v=>.returned v
 |.bl _,v=>.panicked [{v,recovered:=false}]
def pP(P:Program)(f:FuncId)(args:List D)(en:List (Nat×TypeId))(H:List (List aZ))(R:Out→List (List aZ)→Prop):Prop:=
 (∃ fd, P.funcs[f]? = some fd ∧ fd.body.isSome = true ∧ fd.name ≠ "runtime.NumGoroutine") ∧
 ∀(K:Ctx) (w:World) (vs:List Value) (M:Mem) (β:Nat→Option Nat),vs.length=args.length→
  bN P K M β {env:=hA args en,H:=c8 0 H,a8:=H.length} ⟨vs⟩ w→(∀r b,β r=some b→K.jg r=some b)→
  Calls P f ⟨vs⟩ w λe w'=>∃o H' v M' β',R o H'∧e=pO o v∧bN P K M' β' {env:=hF o,H:=c8 0 H',a8:=H.length} #[v] w'
def pP.mono{P:Program}{f:FuncId}{args:List D}{en:List (Nat×TypeId)}{H:List (List aZ)}{R SL:Out→List (List aZ)→Prop}(h:pP P f args en H R)(ak:∀o H',R o H'→SL o H'):pP P f args en H SL:=
 ⟨h.1,λK w vs M β ag hs hb=>(h.2 K w vs M β ag hs hb).mono λ_ _ ⟨o,H',v,M',β',Z,af,au⟩=>⟨o,H',v,M',β',ak _ _ Z,af,au⟩⟩
def gl(P:Program)(f:FuncId)(args:List D)(en:List (Nat×TypeId))(H:List (List aZ))(o:Out)(cH:List (List aZ)):Prop:=pP P f args en H λo' H'=>o'=o∧H'=cH
def gW(P:Program):gg:={call:=gl P,eq:=IP P}
def SM{α:Type}:∀(l:List α) (n i:Nat),look (c8 n l) i=if n≤i then l[i-n]? else none
 |[],n,i=>by simp [c8,look]
 |x::l,n,i=>by
  simp only [c8,dv,SM l (n+1) i];by_cases Z:n=i
  ·subst Z;simp
  ·rw [if_neg Z];by_cases af:n≤i
   ·rw [if_pos (by omega),if_pos af]
    obtain⟨j,rfl⟩:∃j,i=n+1+j:=⟨i-(n+1),by omega⟩
    rw [show n+1+j-(n+1)=j by omega,show n+1+j-n=j+1 by omega]
    simp
   ·rw [if_neg (by omega),if_neg af]
def mz{α:Type}(l:List α)(i:Nat):look (c8 0 l) i=l[i]? := by simp [SM]
def C8:∀{ρ:List Nat} {r j:Nat},idx ρ r=some j→ρ[j]? = some r
 |[],_,_,h=>by simp [idx]at h
 |x::l,r,j,h=>by
  simp only [idx]at h;rw [Bool.cond_eq_ite]at h;split at h
  ·rename_i hb;cases h;simp at hb;simp [hb]
  ·simp only [Option.map_eq_some_iff]at h;obtain⟨k,hk,rfl⟩:=h;simpa using C8 hk
def C9:∀{l:List Nat},mu l=true→∀(i j:Nat) r,l[i]? = some r→l[j]? = some r→i=j
 |[],_,i,_,_,h,_=>by simp at h
 |x::l,h,i,j,r,hi,hj=>by
  simp only [mu,Bool.and_eq_true,Bool.not_eq_true',List.any_eq_false]at h;have hx:∀k,l[k]? = some x→False:=λk hk=>by have:=h.1 x (List.mem_of_getElem? hk);simp at this
  cases i<;>cases j
  ·rfl
  ·simp at hi hj;subst hi;exact(hx _ hj).elim
  ·simp at hi hj;subst hj;exact(hx _ hi).elim
  ·simp at hi hj;rw [C9 h.2 _ _ r hi hj]
def tq{H:List (Nat×List aZ)}:∀{ρ:List Nat} {bs:List (List aZ)},boxes H ρ=some bs→bs.length=ρ.length∧∀(j r:Nat),ρ[j]? = some r→look H r=bs[j]? ∧ (bs[j]?).isSome=true
 |[],bs,h=>by simp [boxes]at h;subst h;simp
 |x::ρ,bs,h=>by
  simp only [boxes]at h;split at h
  case h_2=>cases h
  rename_i b oL hb kv;cases h;obtain⟨Z,af⟩:=tq kv;refine⟨by simp [Z],λj r hj=>?_⟩
  cases j with
  |zero=>simp at hj;subst hj;simp [hb]
  |succ j=>simp at hj;simpa using af j r hj
def vW{f:Nat→Option Nat}:∀{b bK:List aZ},mt f b=some bK→bK.length=b.length∧∀(i:Nat) a_,bK[i]? = some a_→∃e,b[i]? = some e∧ey f e.d=some a_.d∧a_.own=e.own
 |[],bK,h=>by simp [mt]at h;subst h;simp
 |e::l,bK,h=>by
  simp only [mt]at h;split at h
  case h_2=>cases h
  rename_i e1 gv he ag;cases h;obtain⟨Z,af⟩:=vW ag;refine⟨by simp [Z],λi a_ hi=>?_⟩
  cases i with
  |zero=>
   simp at hi;subst hi
   simp only [CJ,Option.map_eq_some_iff]at he;obtain⟨d,hd,rfl⟩:=he;exact⟨e,by simp,hd,rfl⟩
  |succ i=>simp at hi;simpa using af i a_ hi
def ac7{f:Nat→Option Nat}{d:D}{r off:Nat}{u:TypeId}(h:ey f d=some (.cx r off u)):∃dy,d = .cx dy off u:=by
 cases d with
 |cx dy aos SN=>
  simp only [ey,Option.map_eq_some_iff]at h;obtain⟨s,_,af⟩:=h;cases af;exact⟨dy,rfl⟩
 |v x=>simp [ey]at h
 |eY x=>simp [ey]at h
 |full k n get=>simp [ey]at h
 |ptr dy o=>simp [ey]at h
 |fn g c=>simp [ey]at h
 |agg c=>simp [ey]at h
 |cp c=>simp [ey]at h
def kQ.ey{P:Program}{T:TypeId}{n:Nat}{f:Nat→Option Nat}{b bK:List aZ}(h:kQ P T n b)(ak:mt f b=some bK):kQ P T n bK:=λe he r off u hd=>by
 obtain⟨i,hi,rfl⟩:=List.getElem_of_mem he;obtain⟨bR,Z,af,_⟩:=(vW ak).2 i _ (List.getElem?_eq_getElem hi);rw [hd]at af;obtain⟨dy,au⟩:=ac7 af;exact h bR (List.mem_of_getElem? Z) dy off u au
def vX{f:Nat→Option Nat}:∀{bs oL:List (List aZ)},jv f bs=some oL→oL.length=bs.length∧∀(j:Nat) bK,oL[j]? = some bK→∃b,bs[j]? = some b∧mt f b=some bK
 |[],oL,h=>by simp [jv]at h;subst h;simp
 |b::l,oL,h=>by
  simp only [jv]at h;split at h
  case h_2=>cases h
  rename_i b4 gv hb ag;cases h;obtain⟨Z,af⟩:=vX ag;refine⟨by simp [Z],λj bK hj=>?_⟩
  cases j with
  |zero=>simp at hj;subst hj;exact⟨b,by simp,hb⟩
  |succ j=>simp at hj;simpa using af j bK hj
def Jq{H:List (Nat×List aZ)}:∀{ρ:List Nat} {bs:List (List aZ)},bs.length=ρ.length→mu ρ=true→∀r,
 (∀(j:Nat),ρ[j]? = some r→look (kP ρ bs++H) r=bs[j]?)∧((∀(j:Nat),ρ[j]? ≠ some r)→look (kP ρ bs++H) r=look H r)
 |[],bs,_,_,r=>by simp [kP]
 |x::ρ,[],h,_,_=>by simp at h
 |x::ρ,b::bs,h,hn,r=>by
  have CS:mu ρ=true:=by simp [mu]at hn;exact hn.2
  obtain⟨Z,af⟩:=Jq (H:=H) (ρ:=ρ) (bs:=bs) (by simpa using h) CS r
  simp only [kP,List.cons_append,dv];refine⟨λj hj=>?_,λhj=>?_⟩
  ·by_cases hx:x=r
   ·have:j=0:=C9 hn j 0 r hj (by simp [hx])
    subst this;simp [hx]
   ·cases j with
    |zero=>simp at hj;exact(hx hj).elim
    |succ j=>simp at hj;rw [if_neg hx];simpa using Z j hj
  ·have hx:x≠r:=λe=>hj 0 (by simp [e])
   rw [if_neg hx];exact af λj=>by simpa using hj (j+1)
section
variable {P:Program} {K:Ctx} {N:Nat} {M:Mem} {β:Nat→Option Nat} {st:aJ} {g:di} {tmps:Array Value} {w:World} {o:Oper} {f:kN} {p:Path} {tt:dx} {cn:gg} {ops:List Oper}
def y1(ρ os:List Nat):Loc→Prop
 |.cell r _=>r∈ρ
 |.slot t=>t∈os
def pQ(st:aJ)(tmps:Array Value)(w:World)(β:Nat→Option Nat)(ρ os:List Nat)(b:Nat):Prop:=
 (∃r,r∈ρ∧β r=some b)∨∃l e T,y1 ρ os l∧st.at l=some e∧e.own=some T∧iC T (ci tmps w β l) b
open Classical in
noncomputable def jU(M:Mem)(β:Nat→Option Nat)(st:aJ)(tmps:Array Value)(w:World)(ρ os:List Nat):Ctx:=
 {s7:=M,F:=λb=>if pQ st tmps w β ρ os b then none else w.heap[b]?,jg:=λj=>(ρ[j]?).bind β,hq:=(w.os,w.output)}
structure Handed(st:aJ)(tmps:Array Value)(vs:List Value)(hd:List (Nat×Option Nat×TypeId)):Prop where
 some:∀i t T,(i,Option.some t,T)∈hd→∃e,st.at (.slot t)=Option.some e∧e.own=Option.some T∧vs[i]? = Option.some (tmps.getD t undef)
 none:∀i T,(i,Option.none,T)∈hd→vs[i]? = Option.some (.slice Option.none 0 0)
 inj:∀i j t T T',(i,Option.some t,T)∈hd→(j,Option.some t,T')∈hd→i=j
def rS(hd:List (Nat×Option Nat×TypeId)):List (Nat×TypeId):=hd.map λx=>(x.1,x.2.2)
def pR(hd:List (Nat×Option Nat×TypeId)):List Nat:=hd.filterMap λx=>x.2.1
def ac8{hd:List (Nat×Option Nat×TypeId)}{i:Nat}{T:TypeId}(h:look (rS hd) i=some T):∃o,(i,o,T)∈hd:=by
 have:=qM h
 simp only [rS,List.mem_map]at this;obtain⟨⟨a,o,T'⟩,Z,af⟩:=this;cases af;exact⟨o,Z⟩
def ac9{hd:List (Nat×Option Nat×TypeId)}{i t:Nat}{T:TypeId}(h:(i,some t,T)∈hd):t∈pR hd:=by
 simp only [pR,List.mem_filterMap];exact⟨_,h,rfl⟩
def C'(ρ:List Nat)(hd:List (Nat×Option Nat×TypeId))(T:TypeId):Loc→Loc→Prop
 |.cell j i,.cell r l1=>i=l1∧ρ[j]? = some r
 |.slot s,.slot t=>(s,some t,T)∈hd
 |_,_=>False
def SO(h:bN P K M β st tmps w){ρ:List Nat}{bs H1:List (List aZ)}(hn:mu ρ=true)(kv:boxes st.H ρ=some bs)(lC:jv (idx ρ) bs=some H1){ds je:List D}{vs:List Value}
 (hlen:vs.length=ds.length) (ay:∀(i:Nat) v d,vs[i]? = some v→ds[i]? = some d→cz M β v d) (eZ:kO (idx ρ) ds=some je) {hd:List (Nat×Option Nat×TypeId)} (tr:Handed st tmps vs hd):
 bN P (jU M β st tmps w ρ (pR hd)) M (λj=>(ρ[j]?).bind β) {env:=hA je (rS hd),H:=c8 0 H1,a8:=H1.length} ⟨vs⟩ w:=by
 obtain⟨cN,fp⟩:=tq kv;obtain⟨hr,im⟩:=vX lC;obtain⟨aot,ac'⟩:=vF eZ
 have SP:∀{v d ei},cz M β v d→ey (idx ρ) d=some ei→cz M (λj=>(ρ[j]?).bind β) v ei:=by
  intro v d ei hd jO;exact hd.ey (λr s b hs hb=>by rw [C8 hs];simpa using hb) jO
 -- a cell of lg Jr is a cell of ours
 have hQ:∀j i a_,({env:=hA je (rS hd),H:=c8 0 H1,a8:=H1.length}:aJ).at (.cell j i)=some a_→∃(r:Nat) (e:aZ),ρ[j]? = some r∧st.at (.cell r i)=some e∧ey (idx ρ) e.d=some a_.d∧a_.own=e.own∧
  ci ⟨vs⟩ w (λj=>(ρ[j]?).bind β) (.cell j i)=ci tmps w β (.cell r i):=by
  intro j i a_ he;simp only [aJ.at,mz]at he;cases hj:H1[j]? with
  |none=>simp [hj]at he
  |some bK=>
   simp only [hj,Option.bind_some]at he;obtain⟨b,hb,ne⟩:=im j bK hj;have tu:j<ρ.length:=by have:=(List.getElem?_eq_some_iff.1 hb).1;omega
   have li:ρ[j]? = some ρ[j]:=List.getElem?_eq_getElem tu;obtain⟨ag,_⟩:=fp j _ li;obtain⟨_,Js⟩:=vW ne;obtain⟨e,oJ,Jt,Ju⟩:=Js i a_ he;exact⟨_,e,li,by simp [aJ.at,ag,hb,oJ],Jt,Ju,by simp [ci,li]⟩
 have SQ:∀s a_,({env:=hA je (rS hd),H:=c8 0 H1,a8:=H1.length}:aJ).at (.slot s)=some a_→a_.own=look (rS hd) s∧∃v d,vs[s]? = some v∧ds[s]? = some d∧ey (idx ρ) d=some a_.d:=by
  intro s a_ he;simp only [aJ.at,hA,mz,y0,Option.map_eq_some_iff]at he;obtain⟨ei,jO,rfl⟩:=he;have hs:s<je.length:=(List.getElem?_eq_some_iff.1 jO).1;have hG:ds[s]? = some ds[s]:=List.getElem?_eq_getElem (by omega)
  obtain⟨d1,gh,ac_⟩:=ac' s _ hG;rw [jO]at gh;cases gh;exact⟨by simp,_,_,List.getElem?_eq_getElem (by omega),hG,ac_⟩
 -- aou 'own' place of lg Jr is one of ours
 have C_:∀cL a_ T,({env:=hA je (rS hd),H:=c8 0 H1,a8:=H1.length}:aJ).at cL=some a_→a_.own=some T→
  ci ⟨vs⟩ w (λj=>(ρ[j]?).bind β) cL = .slice none 0 0∨∃l e,C' ρ hd T cL l∧y1 ρ (pR hd) l∧st.at l=some e∧e.own=some T∧ci ⟨vs⟩ w (λj=>(ρ[j]?).bind β) cL=ci tmps w β l:=by
  intro cL a_ T ag aS;cases cL with
  |slot s=>
   obtain⟨aA,v,d,Z,af,au⟩:=SQ s a_ ag;rw [aA]at aS;obtain⟨o,hm⟩:=ac8 aS;have ck:ci (⟨vs⟩:Array Value) w (λj=>(ρ[j]?).bind β) (.slot s)=v:=by simp [ci,Z]
   cases o with
   |none=>
    have:=tr.none s T hm
    rw [Z]at this;cases this;exact .inl ck
   |some t=>
    obtain⟨e,aQ,bj,cb⟩:=tr.some s t T hm;rw [Z]at cb;cases cb;exact .inr ⟨.slot t,e,hm,ac9 hm,aQ,bj,ck⟩
  |cell j i=>
   obtain⟨r,e,li,he,_,fL,ck⟩:=hQ j i a_ ag;exact .inr ⟨.cell r i,e,⟨rfl,li⟩,List.mem_of_getElem? li,he,by rw [←fL,aS],ck⟩
 have ada:∀T T' gv ir l,C' ρ hd T gv l→C' ρ hd T' ir l→gv=ir:=by
  intro T T' gv ir l Z af;cases gv<;>cases ir<;>cases l<;>simp only [C']at Z af
  ·rw [tr.inj _ _ _ _ _ Z af]
  ·obtain⟨rfl,au⟩:=Z;obtain⟨rfl,aQ⟩:=af;rw [C9 hn _ _ _ au aQ]
 have jV:∀j cs',look (c8 0 H1) j=some cs'→∃(r:Nat) (cs:List aZ),ρ[j]? = some r∧look st.H r=some cs∧cs.length=cs'.length∧∃f,mt f cs=some cs':=by
  intro j cs' hj;rw [mz]at hj;obtain⟨b,hb,ne⟩:=im j cs' hj;have tu:j<ρ.length:=by have:=(List.getElem?_eq_some_iff.1 hb).1;omega
  have li:ρ[j]? = some ρ[j]:=List.getElem?_eq_getElem tu;obtain⟨ag,_⟩:=fp j _ li;exact⟨_,b,li,by rw [ag,hb],(vW ne).1.symm,_,ne⟩
 constructor
 ·intro l a_ ag;cases l with
  |slot s=>
   obtain⟨_,v,d,Z,af,au⟩:=SQ s a_ ag;have:=SP (ay s v d Z af) au
   simpa [ci,Z]using this
  |cell j i=>
   obtain⟨r,e,li,he,ne,_,ck⟩:=hQ j i a_ ag;rw [ck];exact SP (h.eW _ e he) ne
 ·intro cL a_ T ag aS;rcases C_ cL a_ T ag aS with h0|⟨l,e,_,bz,he,d',ck⟩
  ·rw [h0];exact .inl rfl
  ·rw [ck];refine(h.own _ e T he d').vG λb hb _=>?_
   simp only [jU];rw [if_pos];exact .inr ⟨l,e,T,bz,he,d',hb⟩
 ·intro gv ir e1 e2 T T' b ag aS cR d' hb bT;rcases C_ gv e1 T ag aS with h0|⟨l,e,bU,bz,he,Jv,ck⟩
  ·rw [h0]at hb;cases hb
  rcases C_ ir e2 T' cR d' with h0|⟨cL,a_,nV,yZ,y2,adb,pF⟩
  ·rw [h0]at bT;cases bT
  rw [ck]at hb;rw [pF]at bT;have:=h.uniq _ _ e a_ T T' b he Jv y2 adb hb bT
  subst this;exact ada _ _ _ _ _ bU nV
 ·intro cL a_ T b j cs' ag aS hb hj;rcases C_ cL a_ T ag aS with h0|⟨l,e,bU,bz,he,Jv,ck⟩
  ·rw [h0]at hb;cases hb
  rw [ck]at hb;obtain⟨ao,cs,adc,ee,_⟩:=jV j cs' hj;have:=h.unbox _ e T b ao cs he Jv hb ee
  simpa [adc]using this
 ·intro j cs' hj;obtain⟨r,cs,li,ee,ag,f,ade⟩:=jV j cs' hj;obtain⟨b,m9,T,Z,af,au,aQ,bj,cb⟩:=h.box r cs ee;refine⟨b,m9,T,by simp [li,Z],af,by omega,aQ,?_,cb.1,cb.2.ey ade⟩
  simp only [jU];rw [if_pos];exact .inl ⟨r,List.mem_of_getElem? li,Z⟩
 ·intro j tv b c ht hj Da hb bT;obtain⟨r,cs,li,ee,_⟩:=jV j c hj;obtain⟨cM,cs',SR,tw,_⟩:=jV tv ht Da;have:r=cM:=h.inj r cM b cs cs' ee tw (by simpa [li]using hb) (by simpa [SR]using bT)
  subst this;exact C9 hn j tv r li SR
 ·intro j b hb;simp only [Option.bind_eq_some_iff]at hb;obtain⟨r,ak,_⟩:=hb;have:=(List.getElem?_eq_some_iff.1 ak).1
  show j<H1.length
  omega
 ·exact h.mem
 ·exact Mem.le_refl _
 ·intro b bb hb;simp only [jU]at hb;split at hb
  ·cases hb
  ·exact⟨hb,λ_=>rfl⟩
 ·intro j b hb;exact hb
 ·refine h.iD.mono λb bb dC=>?_
  have Jw:¬ pQ st tmps w β ρ (pR hd) b:=by
   rintro (⟨r,ak,lD⟩|⟨l,e,T,ak,he,aS,jP⟩)
   ·obtain⟨j,hj⟩:=List.getElem?_of_mem ak;obtain⟨ag,tx⟩:=fp j r hj;obtain⟨cs,ee⟩:=Option.isSome_iff_exists.1 tx;obtain⟨hR,_,_,au,_,_,_,aQ,_⟩:=h.box r cs (by rw [ag,ee])
    rw [lD]at au;cases au;rw [aQ]at dC;cases dC
   ·rw [(h.own _ e T he aS).free jP]at dC;cases dC
  simp only [jU];rw [if_neg Jw];exact(h.frame b bb dC).1
 ·rfl
def adf{ρ os:List Nat}{st:aJ}{H:List (Nat×List aZ)}{n s:Nat}{e:aZ}(ag:({env:=gu os st.env,H:=H,a8:=n}:aJ).at (.slot s)=some e):
 ∃bR,st.at (.slot s)=some bR∧bR.d=e.d∧(∀T,e.own=some T→bR.own=some T)∧∀T,e.own=some T→¬ y1 ρ os (.slot s):=by
 simp only [aJ.at,mw]at ag;by_cases hs:s∈os
 ·rw [if_pos hs,Option.map_eq_some_iff]at ag;obtain⟨bR,Z,af⟩:=ag;subst af;exact⟨bR,Z,rfl,(λT aS=>by cases aS),(λT aS=>by cases aS)⟩
 ·rw [if_neg hs]at ag;exact⟨e,ag,rfl,(λT aS=>aS),(λT _=>hs)⟩
def Jx(h:bN P K M β st tmps w){ρ:List Nat}{bs cH ik:List (List aZ)}(hn:mu ρ=true)(kv:boxes st.H ρ=some bs)(tz:jv (λj=>ρ[j]?) cH=some ik)(eG:cH.length=ρ.length)
 {os:List Nat} {out:Out} {v:Value} {w':World} {M':Mem} {β':Nat→Option Nat} (iI:bN P (jU M β st tmps w ρ os) M' β' {env:=hF out,H:=c8 0 cH,a8:=ρ.length} #[v] w'):
 M.le M'∧bN P K M' β {env:=gu os st.env,H:=kP ρ ik++st.H,a8:=st.a8} tmps w'∧
 (∀d own,out = .ret d own→∀ei,ey (λj=>ρ[j]?) d=some ei→cz M' β v ei∧∀T l0,own=some T→lZ P K M' β {env:=gu os st.env,H:=kP ρ ik++st.H,a8:=st.a8} tmps w' l0 v T)∧
 (∀x,out = .bl x→dl M' v x):=by
 obtain⟨cN,fp⟩:=tq kv;obtain⟨hr,im⟩:=vX tz;have c7:M.le M':=iI.m0;have gQ:∀(j r b:Nat),ρ[j]? = some r→β r=some b→β' j=some b:=λj r b hj hb=>iI.h2 j b (by simp [jU,hj,hb])
 have rT:∀(j r:Nat),ρ[j]? = some r→∃cs b,look st.H r=some cs∧β r=some b∧β' j=some b:=by
  intro j r hj;obtain⟨Z,af⟩:=fp j r hj;obtain⟨cs,ee⟩:=Option.isSome_iff_exists.1 af;rw [ee]at Z;obtain⟨b,_,_,hb,_⟩:=h.box r cs Z;exact⟨cs,b,Z,hb,gQ j r b hj hb⟩
 have SS:∀{v d ei},cz M' β' v d→ey (λj=>ρ[j]?) d=some ei→cz M' β v ei:=by
  intro v d ei hd jO;refine hd.ey (λj r b hj hb=>?_) jO
  obtain⟨_,b4,_,Z,af⟩:=rT j r hj;rw [hb]at af;cases af;exact Z
 -- C2 is not pQ is kept
 have y3:∀b,¬ pQ st tmps w β ρ os b→b<w.heap.size→w'.heap[b]? = w.heap[b]? ∧ ∀o,M' b o=M b o:=by
  intro b hb c'
  have dC:(jU M β st tmps w ρ os).F b=some w.heap[b]:=by
   simp only [jU];rw [if_neg hb];exact Array.getElem?_eq_getElem c'
  obtain⟨Z,af⟩:=iI.frame b _ dC;exact⟨by rw [Z,Array.getElem?_eq_getElem c'],af⟩
 have ST:∀b,(jU M β st tmps w ρ os).F b=none→K.F b=none:=by
  intro b hb;simp only [jU]at hb;split at hb
  ·rename_i hp;rcases hp with⟨r,ak,lD⟩|⟨l,e,T,ak,he,aS,jP⟩
   ·obtain⟨j,hj⟩:=List.getElem?_of_mem ak;obtain⟨cs,b4,ee,cN,_⟩:=rT j r hj;obtain⟨hR,_,_,Z,_,_,_,af,_⟩:=h.box r cs ee;rw [lD]at Z;cases Z;exact af
   ·exact(h.own _ e T he aS).free jP
  ·cases dC:K.F b with
   |none=>rfl
   |some bb=>have:=(h.frame b bb dC).1;rw [hb]at this;cases this
 have hold:∀b,(jU M β st tmps w ρ os).F b=none→b<w.heap.size→pQ st tmps w β ρ os b:=by
  intro b hb c';simp only [jU]at hb;split at hb
  ·assumption
  ·rw [Array.getElem?_eq_getElem c']at hb;cases hb
 -- aov own boxes ac2 aow not handed on
 have Db:∀r cs b,look st.H r=some cs→(∀(j:Nat),ρ[j]? ≠ some r)→β r=some b→¬ pQ st tmps w β ρ os b:=by
  intro r cs b ak il hb hp;rcases hp with⟨cM,e6,bT⟩|⟨l,e,T,e6,he,aS,jP⟩
  ·obtain⟨j,hj⟩:=List.getElem?_of_mem e6;obtain⟨cs',_,tw,_⟩:=rT j cM hj;have:=h.inj r cM b cs cs' ak tw hb bT
   subst this;exact il j hj
  ·exact h.unbox _ e T b r cs he aS jP ak hb
 have y4:∀r,(∃(j:Nat),ρ[j]? = some r∧look (kP ρ ik++st.H) r=ik[j]?)∨((∀(j:Nat),ρ[j]? ≠ some r)∧look (kP ρ ik++st.H) r=look st.H r):=by
  intro r;obtain⟨Z,af⟩:=Jq (H:=st.H) (ρ:=ρ) (bs:=ik) (by omega) hn r
  by_cases hj:∃(j:Nat),ρ[j]? = some r
  ·obtain⟨j,hj⟩:=hj;exact .inl ⟨j,hj,Z j hj⟩
  ·have:∀(j:Nat),ρ[j]? ≠ some r:=λj bz=>hj ⟨j,bz⟩
   exact .inr ⟨this,af this⟩
 -- a place of lg new state: lg Jr, or kept
 have ff:∀l e,({env:=gu os st.env,H:=kP ρ ik++st.H,a8:=st.a8}:aJ).at l=some e→
  (∃(j r i:Nat) (a_:aZ),l = .cell r i∧ρ[j]? = some r∧({env:=hF out,H:=c8 0 cH,a8:=ρ.length}:aJ).at (.cell j i)=some a_∧ey (λj=>ρ[j]?) a_.d=some e.d∧e.own=a_.own∧ci tmps w' β l=ci #[v] w' β' (.cell j i))∨
  (∃bR,st.at l=some bR∧bR.d=e.d∧(∀T,e.own=some T→bR.own=some T)∧ci tmps w' β l=ci tmps w β l∧(∀T,e.own=some T→¬ y1 ρ os l)):=by
  intro l e ag;cases l with
  |slot s=>
   obtain⟨bR,Z,af,au,aQ⟩:=adf ag;exact .inr ⟨bR,Z,af,au,rfl,aQ⟩
  |cell r i=>
   rcases y4 r with⟨j,hj,lj⟩|⟨il,lj⟩
   ·simp only [aJ.at,lj]at ag;cases bz:ik[j]? with
    |none=>simp [bz]at ag
    |some bK=>
     simp only [bz,Option.bind_some]at ag;obtain⟨b,hb,ne⟩:=im j bK bz;obtain⟨_,Js⟩:=vW ne;obtain⟨a_,oJ,Jt,Ju⟩:=Js i e ag;obtain⟨_,b4,_,cN,s'⟩:=rT j r hj;exact .inl ⟨j,r,i,a_,rfl,hj,by simp [aJ.at,mz,hb,oJ],Jt,Ju,by simp [ci,cN,s']⟩
   ·simp only [aJ.at,lj]at ag;refine .inr ⟨e,ag,rfl,λ_ h=>h,?_,λT _ bz=>by obtain⟨j,hj⟩:=List.getElem?_of_mem bz;exact il j hj⟩
    cases ak:look st.H r with
    |none=>simp [ak]at ag
    |some cs=>
     obtain⟨b,_,_,hb,bz,_⟩:=h.box r cs ak;simp only [ci,hb];rw [qK (w:=w) (y3 b (Db r cs b ak il hb) (lt_of_heap bz)).1]
 -- a kept 'own' aox block is not pQ
 have y5:∀l e T b,st.at l=some e→e.own=some T→¬ y1 ρ os l→iC T (ci tmps w β l) b→¬ pQ st tmps w β ρ os b:=by
  intro l e T b ag aS il hb hp;rcases hp with⟨cM,e6,bT⟩|⟨cL,a_,T',e6,he,d',jP⟩
  ·obtain⟨j,hj⟩:=List.getElem?_of_mem e6;obtain⟨cs',_,tw,_⟩:=rT j cM hj;exact h.unbox l e T b cM cs' ag aS hb tw bT
  ·have:=h.uniq l _ e a_ T T' b ag aS he d' hb jP
   subst this;exact il e6
 -- lg Jr 'own' blocks aoy ours
 have y6:∀T u b,jz P (jU M β st tmps w ρ os).F M' w' T u→iC T u b→∀bK,bK=b→bK<w.heap.size→pQ st tmps w β ρ os bK:=by
  intro T u b aA hb bK pG c';subst pG;exact hold bK (aA.free hb) c'
 have Dc:∀r cs,look (kP ρ ik++st.H) r=some cs→∃kX,look st.H r=some kX:=by
  intro r cs ak;rcases y4 r with⟨j,hj,_⟩|⟨_,lj⟩
  ·obtain⟨kX,_,Z,_⟩:=rT j r hj;exact⟨kX,Z⟩
  ·exact⟨cs,by rw [←lj];exact ak⟩
 have cW:bN P K M' β {env:=gu os st.env,H:=kP ρ ik++st.H,a8:=st.a8} tmps w':=by
  constructor
  ·intro l e ag;rcases ff l e ag with⟨j,r,i,a_,rfl,hj,y2,ne,_,ck⟩|⟨bR,aA,y7,ku,ck,_⟩
   ·rw [ck];exact SS (iI.eW _ a_ y2) ne
   ·rw [ck,←y7];exact(h.eW l bR aA).mono c7
  ·intro l e T ag aS;rcases ff l e ag with⟨j,r,i,a_,rfl,hj,y2,_,fL,ck⟩|⟨bR,aA,y7,ku,ck,il⟩
   ·rw [ck];rw [fL]at aS;exact(iI.own _ a_ T y2 aS).vG λb _ cb=>ST b cb
   ·rw [ck];have il:=il T aS;have aS:=ku T aS;refine(h.own l bR T aA aS).congr (λb hb=>?_) (λb o' hb=>?_)
    ·exact(y3 b (y5 l bR T b aA aS il hb) ((h.own l bR T aA aS).lt hb)).1
    ·exact(y3 b (y5 l bR T b aA aS il hb) ((h.own l bR T aA aS).lt hb)).2 o'
  ·intro l cL e1 e2 T T' b ag aS cR d' hb bT
   rcases ff l e1 ag with⟨j,r,i,x,rfl,hj,hx,_,fL,ck⟩|⟨bR,aA,y7,ku,ck,il⟩ <;>
    rcases ff cL e2 cR with⟨tv,cM,l1,fH,rfl,Da,vY,_,SU,pF⟩|⟨vJ,kt,aoz,yN,pF,Jy⟩
   ·rw [ck]at hb;rw [pF]at bT;rw [fL]at aS;rw [SU]at d';have:=iI.uniq _ _ x fH T T' b hx aS vY d' hb bT
    cases this;rw [hj]at Da;cases Da;rfl
   ·rw [ck]at hb;rw [pF]at bT;rw [fL]at aS;have Jy:=Jy T' d';have d':=yN T' d';exact(y5 cL vJ T' b kt d' Jy bT (y6 T _ b (iI.own _ x T hx aS) hb b rfl ((h.own cL vJ T' kt d').lt bT))).elim
   ·rw [ck]at hb;rw [pF]at bT;rw [SU]at d';have il:=il T aS;have aS:=ku T aS;exact(y5 l bR T b aA aS il hb (y6 T' _ b (iI.own _ fH T' vY d') bT b rfl ((h.own l bR T aA aS).lt hb))).elim
   ·rw [ck]at hb;rw [pF]at bT;exact h.uniq l cL bR vJ T T' b aA (ku T aS) kt (yN T' d') hb bT
  ·intro l e T b r cs ag aS hb ak lD;obtain⟨kX,ly⟩:=Dc r cs ak;rcases ff l e ag with⟨j,ah,i,x,rfl,hj,hx,_,fL,ck⟩|⟨bR,aA,y7,ku,ck,il⟩
   ·rw [ck]at hb;rw [fL]at aS;rcases y4 r with⟨j2,y8,lj⟩|⟨Jz,_⟩
    ·have af:∃c2,look (c8 0 cH) j2=some c2:=by
      rw [mz];exact⟨_,List.getElem?_eq_getElem (by have:=(List.getElem?_eq_some_iff.1 y8).1;omega)⟩
     obtain⟨c2,kY⟩:=af;exact iI.unbox _ x T b j2 c2 hx aS hb kY (gQ j2 r b y8 lD)
    ·obtain⟨b4,_,_,cN,bz,_⟩:=h.box r kX ly;rw [lD]at cN;cases cN;exact Db r kX b ly Jz lD (y6 T _ b (iI.own _ x T hx aS) hb b rfl (lt_of_heap bz))
   ·rw [ck]at hb;exact h.unbox l bR T b r kX aA (ku T aS) hb ly lD
  ·intro r cs ak;rcases y4 r with⟨j,hj,lj⟩|⟨il,lj⟩
   ·rw [lj]at ak;obtain⟨c2,kY,ne⟩:=im j cs ak;obtain⟨kX,nW,adg,SV,adh⟩:=rT j r hj;obtain⟨b,m9,T,Z,af,au,aQ,bj,cb⟩:=iI.box j c2 (by rw [mz];exact kY)
    rw [adh]at Z;cases Z;obtain⟨hR,_,_,de,_,_,_,dR,_⟩:=h.box r kX adg;rw [SV]at de;cases de;exact⟨nW,m9,T,SV,af,by rw [au,(vW ne).1],aQ,dR,cb.1,cb.2.ey ne⟩
   ·rw [lj]at ak;obtain⟨b,m9,T,Z,af,au,aQ,bj,cb⟩:=h.box r cs ak;have hk:=y3 b (Db r cs b ak il Z) (lt_of_heap af);exact⟨b,m9,T,Z,hk.1.trans af,au,λo'=>(hk.2 o').trans (aQ o'),bj,cb⟩
  ·intro r cM b c ht ak e6 hb bT;obtain⟨c0,ly⟩:=Dc r c ak;obtain⟨adi,adj⟩:=Dc cM ht e6;exact h.inj r cM b c0 adi ly adj hb bT
  ·exact h.lt
  ·exact iI.mem
  ·exact Mem.le_trans h.m0 c7
  ·intro b bb dC;obtain⟨Z,af⟩:=h.frame b bb dC
   have Jw:¬ pQ st tmps w β ρ os b:=by
    rintro (⟨r,ak,lD⟩|⟨l,e,T,ak,he,aS,jP⟩)
    ·obtain⟨j,hj⟩:=List.getElem?_of_mem ak;obtain⟨cs,_,ee,_⟩:=rT j r hj;obtain⟨hR,_,_,au,_,_,_,aQ,_⟩:=h.box r cs ee;rw [lD]at au;cases au;rw [aQ]at dC;cases dC
    ·rw [(h.own _ e T he aS).free jP]at dC;cases dC
   have hk:=y3 b Jw (lt_of_heap Z);exact⟨hk.1.trans Z,λo'=>(hk.2 o').trans (af o')⟩
  ·exact h.h2
  ·exact h.iD
  ·exact Eq.trans (show(w'.os,w'.output)=(w.os,w.output)from iI.hq) h.hq
 refine⟨c7,cW,λd own JA ei jO=>?_,λx JA=>?_⟩
 ·subst JA;have hH:=iI.eW (.slot 0) {d,own} (by simp [aJ.at,hF,look])
  refine⟨SS (by simpa [ci]using hH) jO,λT l0 aS=>?_⟩
  have aA:=iI.own (.slot 0) {d,own} T (by simp [aJ.at,hF,look]) aS
  simp only [ci]at aA;have kt:jz P (jU M β st tmps w ρ os).F M' w' T v:=by simpa using aA
  refine⟨?_,λl e T' b ag d' _ hb bT=>?_,λb r cs hb ak lD=>?_⟩
  ·exact kt.vG λb _ cb=>ST b cb
  ·rcases ff l e ag with⟨j,r,i,x,rfl,hj,hx,_,fL,ck⟩|⟨bR,SW,y7,ku,ck,il⟩
   ·rw [ck]at bT;rw [fL]at d';have:=iI.uniq (.slot 0) (.cell j i) {d,own} x T T' b (by simp [aJ.at,hF,look]) aS hx d' (by simpa [ci]using hb) bT
    cases this
   ·rw [ck]at bT;have il:=il T' d';have d':=ku T' d';exact y5 l bR T' b SW d' il bT (y6 T v b kt hb b rfl ((h.own l bR T' SW d').lt bT))
  ·obtain⟨kX,ly⟩:=Dc r cs ak;rcases y4 r with⟨j2,y8,lj⟩|⟨Jz,_⟩
   ·have af:∃c2,look (c8 0 cH) j2=some c2:=by
     rw [mz];exact⟨_,List.getElem?_eq_getElem (by have:=(List.getElem?_eq_some_iff.1 y8).1;omega)⟩
    obtain⟨c2,kY⟩:=af;exact iI.unbox (.slot 0) {d,own} T b j2 c2 (by simp [aJ.at,hF,look]) aS (by simpa [ci]using hb) kY (gQ j2 r b y8 lD)
   ·obtain⟨b4,_,_,cN,bz,_⟩:=h.box r kX ly;rw [lD]at cN;cases cN;exact Db r kX b ly Jz lD (y6 T v b kt hb b rfl (lt_of_heap bz))
 ·subst JA;have hH:=iI.eW (.slot 0) {d:=.v x} (by simp [aJ.at,hF,look])
  have:=m_ hH
  simpa [ci]using this
end
def SX{i:Int}{n:Nat}(h:aP i n=true):0≤i∧i<n:=by simpa [aP]using h
def rU{i:Int}{n:Nat}(h:gP i n=true):0≤i∧i≤n:=by simpa [gP]using h
def adk{i:Int}{n:Nat}(h:0≤i∧i≤n):gP i n=true:=by simpa [gP]using h
def SY{a b:Int}{n:Nat}(h:nK a b n=true):0≤a∧a≤b∧b≤n:=by simpa [nK]using h
def SZ{a:Int}(h:pA a=true):a≠0:=by simpa [pA]using h
def JB{n b:Nat}(h:room n b=true):n*b≤140737488355328:=by simpa [room]using h
def adl{n:Nat}(h:bE n=true):n≤9223372036854775807:=by simpa [bE]using h
section
variable {P:Program} {K:Ctx} {N:Nat} {M:Mem} {β:Nat→Option Nat} {st:aJ} {g:di} {tmps:Array Value} {w:World} {o:Oper} {f:kN} {p:Path} {tt:dx} {cn:gg} {ops:List Oper}
def S0:∀(l:List (Nat×aZ)) (s:Nat),look (oD l) s=(look l s).map λe=>({d:=e.d}:aZ)
 |[],s=>rfl
 |(t,e)::l,s=>by
  simp only [oD,dv];by_cases h:t=s
  ·simp [h]
  ·simp only [h,if_false];exact S0 l s
def bN.oD{st:aJ}(h:bN P K M β st tmps w){env:List (Nat×aZ)}(he:∀s e,look env s=some e→∃bR,look st.env s=some bR∧bR.d=e.d):bN P K M β {env:=Ab.oD env,H:=st.H,a8:=st.a8} tmps w:=
 h.sub rfl (λl e ag=>by
  cases l with
  |slot s=>
   simp only [aJ.at,S0,Option.map_eq_some_iff]at ag;obtain⟨e1,Z,rfl⟩:=ag;obtain⟨bR,af,au⟩:=he s e1 Z;exact⟨bR,af,au,λ_ h=>by cases h⟩
  |cell r i=>exact⟨e,ag,rfl,λ_ h=>h⟩) (λr cs ak=>⟨cs,ak,rfl⟩)
def adm(P:Program)(K:Ctx)(M:Mem)(β:Nat→Option Nat)(g:di)(x:V)(hs:List (Nat×List aZ))(o:Oper)(tmps:Array Value)(w:World):Prop:=
 (∃v,(execOp (Act.eval ⟨tmps,[]⟩) o).run P w = .halt (.panic v) w∧dl M v x∧hs=[])∨
 (∃fn vs,(execOp (Act.eval ⟨tmps,[]⟩) o).run P w = .ok (.enter fn vs) w∧Calls P fn vs w λe w'=>∃v M' ,e = .panicked [{v,recovered:=false}]∧dl M' v x∧
  bN P K M' β {env:=oD g.env,H:=hs++g.H,a8:=g.a8} tmps w')
def adn{op:BinOp}{k:IntKind}{a b:Int}{x:V}{bb:List Prop}(h:Iz op k a b=some (x,bb))(cC:∀q,q∈bb→q)(t:TypeId):
 ∃v,(binOp op t (.int k a) (.int k b)).run P w = .ok v w∧dl M v x:=by
 have fin:∀{s:Sem Value} {v:Value},s.run P w = .ok v w→dl M v x→∃v,s.run P w = .ok v w∧dl M v x:=λZ af=>⟨_,Z,af⟩
 cases op<;>simp only [Iz,Option.some.injEq,Prod.mk.injEq,reduceCtorEq]at h<;>obtain⟨rfl,rfl⟩:=h
 case quo=>
  have hb:=SZ (cC _ (List.mem_singleton.2 rfl));refine fin (v:=.int k (k.wrap (a.tdiv b))) ?_ (.int _ _);simp [binOp,Op.intDiv,hb]
 case rem=>
  have hb:=SZ (cC _ (List.mem_singleton.2 rfl));refine fin (v:=.int k (a.tmod b)) ?_ (.int _ _);simp [binOp,Op.intDiv,hb]
 case add=>exact fin (v:=.int k (k.wrap (a+b))) (by simp [binOp,Op.intArith]) (.int _ _)
 case sub=>exact fin (v:=.int k (k.wrap (a-b))) (by simp [binOp,Op.intArith]) (.int _ _)
 case mul=>exact fin (v:=.int k (k.wrap (a*b))) (by simp [binOp,Op.intArith]) (.int _ _)
 case eql=>exact fin (v:=.bool (decide (a=b))) (by simp [binOp,Op.intCmp];rfl) (.bool _)
 case neq=>exact fin (v:=.bool (!decide (a=b))) (by simp [binOp,Op.intCmp];rfl) (.bool _)
 case lss=>exact fin (v:=.bool (decide (a<b))) (by simp [binOp,Op.intCmp]) (.bool _)
 case leq=>exact fin (v:=.bool (decide (a≤b))) (by simp [binOp,Op.intCmp]) (.bool _)
 case gtr=>exact fin (v:=.bool (decide (b<a))) (by simp [binOp,Op.intCmp]) (.bool _)
 case geq=>exact fin (v:=.bool (decide (b≤a))) (by simp [binOp,Op.intCmp]) (.bool _)
 case and=>exact fin (v:=.int k (vA k a b)) (by simp [binOp,Op.intBits,vA]) (.int _ _)
 case or=>exact fin (v:=.int k (s3 k a b)) (by simp [binOp,Op.intBits,s3]) (.int _ _)
 case xor=>exact fin (v:=.int k (pC k a b)) (by simp [binOp,Op.intBits,pC]) (.int _ _)
 case andNot=>exact fin (v:=.int k (Ix k a b)) (by simp [binOp,Op.intBits,Ix]) (.int _ _)
def ado{op:BinOp}{k k':IntKind}{a b:Int}{x:V}{bb:List Prop}(h:Iy op k a b=some (x,bb))(cC:∀q,q∈bb→q)(t:TypeId):
 ∃v,(binOp op t (.int k a) (.int k' b)).run P w = .ok v w∧dl M v x:=by
 unfold Iy at h;split at h
 ·simp only [Option.some.injEq,Prod.mk.injEq]at h;obtain⟨rfl,rfl⟩:=h;have hb:0≤b:=by simpa [oA]using cC (oA b=true) (by simp)
  exact⟨.int k (qF k a b),by simp [binOp,Op.shift,show¬ b<0 by omega,qF],.int _ _⟩
 ·simp only [Option.some.injEq,Prod.mk.injEq]at h;obtain⟨rfl,rfl⟩:=h;have hb:0≤b:=by simpa [oA]using cC (oA b=true) (by simp)
  exact⟨.int k (oz k a b),by simp [binOp,Op.shift,show¬ b<0 by omega,oz],.int _ _⟩
 ·cases h
def adp{op:BinOp}{a b:ap0}{x:V}{bb:List Prop}(h:IA op a b=some (x,bb))(cC:∀q,q∈bb→q)(t:TypeId):
 ∃v,(binOp op t (.string ⟨⟨a⟩⟩) (.string ⟨⟨b⟩⟩)).run P w = .ok v w∧dl M v x:=by
 have fin:∀{s:Sem Value} {v:Value},s.run P w = .ok v w→dl M v x→∃v,s.run P w = .ok v w∧dl M v x:=λZ af=>⟨_,Z,af⟩
 have pS:=CX a;have vZ:=CX b;have he:(a == b)=decide (a=b):=by by_cases l7:a=b<;>simp [l7]
 cases op<;>simp only [IA,Option.some.injEq,Prod.mk.injEq,reduceCtorEq]at h<;>obtain⟨rfl,rfl⟩:=h
 case add=>
  have hb:=adl (cC _ (List.mem_singleton.2 rfl));refine fin (v:=.string ⟨⟨a++b⟩⟩) ?_ (.str _)
  have el:¬ ((((⟨⟨a⟩⟩:ByteArray).size+(⟨⟨b⟩⟩:ByteArray).size:Nat):Int) > IntKind.i64.max):=by
   have Z:(⟨⟨a⟩⟩:ByteArray).size=a.length:=rfl;have af:(⟨⟨b⟩⟩:ByteArray).size=b.length:=rfl;have au:IntKind.i64.max=9223372036854775807:=by decide
   rw [Z,af,au];omega
  simp only [binOp,Op.stringOp];rw [if_neg el];simp;apply ByteArray.ext;simp
 case eql=>exact fin (v:=.bool (decide (a=b))) (by simp [binOp,Op.stringOp,pS,vZ,he]) (.bool _)
 case neq=>exact fin (v:=.bool (!decide (a=b))) (by simp [binOp,Op.stringOp,pS,vZ,he]) (.bool _)
 case lss=>exact fin (v:=.bool (Op.bytesLess a b)) (by simp [binOp,Op.stringOp,pS,vZ]) (.bool _)
 case leq=>exact fin (v:=.bool (Op.bytesLess a b||decide (a=b))) (by simp [binOp,Op.stringOp,pS,vZ,he]) (.bool _)
 case gtr=>exact fin (v:=.bool (!(Op.bytesLess a b||decide (a=b)))) (by simp [binOp,Op.stringOp,pS,vZ,he]) (.bool _)
 case geq=>exact fin (v:=.bool (!Op.bytesLess a b)) (by simp [binOp,Op.stringOp,pS,vZ]) (.bool _)
def adq{t:TypeId}{aI:eE}(r:Row P t aI)(hk:aI.k = .ptr):∃e,r.desc = .pointer e:=by
 have:=r.hk
 rw [hk]at this;cases hd:r.desc<;>simp [hd,kR]at this;exact⟨_,rfl⟩
def adr{t:TypeId}{aI:eE}(r:Row P t aI)(hk:aI.k = .nJ):∃e,r.desc = .interface e:=by
 have:=r.hk
 rw [hk]at this;cases hd:r.desc<;>simp [hd,kR]at this;exact⟨_,rfl⟩
def ads{t:TypeId}{aI:eE}(r:Row P t aI)(hk:aI.k = .a1):∃a b c,r.desc = .func a b c:=by
 have:=r.hk
 rw [hk]at this;cases hd:r.desc<;>simp [hd,kR]at this;exact⟨_,_,_,rfl⟩
def JC{t:TypeId}{aI:eE}(r:Row P t aI)(hk:aI.k = .bool):r.desc = .bool:=by
 have:=r.hk
 rw [hk]at this;cases hd:r.desc<;>simp [hd,kR]at this;rfl
def S1{t:TypeId}{aI:eE}(r:Row P t aI){hy v7:Value}{a b:D}{res:Bool}(ha:cz M β hy a)(hb:cz M β v7 b)(ag:CI aI.k b=true)(hn:isNil aI.k a=some res):
 (Op.equal t hy v7).run P w = .ok res w∧(∀op,(binOp op t hy v7)=match op with|.eql=>(do pure (.bool (←Op.equal t hy v7)))|.neq=>(do pure (.bool (!(←Op.equal t hy v7))))|_=>binOp op t hy v7):=by
 obtain⟨dep,hm⟩:∃d,Op.maxDepth=d+1:=⟨9999,rfl⟩;unfold CI at ag;split at ag<;>try cases ag
 ·rename_i hk;cases m_ hb
  obtain⟨e,hd⟩:=adq r hk;rw [hk]at hn;unfold isNil at hn;split at hn<;>simp_all
  ·cases m_ ha
   refine⟨?_,λop=>by cases op<;>rfl⟩
   rw [Op.equal,hm,Op.equalIn];simp [r.run_underlying,hd]
  ·obtain⟨bK,_,rfl⟩:=nQ ha;subst hn;refine⟨?_,λop=>by cases op<;>rfl⟩
   rw [Op.equal,hm,Op.equalIn];simp [r.run_underlying,hd]
  ·obtain⟨bK,off,val,rfl,_⟩:=CU ha;subst hn;refine⟨?_,λop=>by cases op<;>rfl⟩
   rw [Op.equal,hm,Op.equalIn];simp [r.run_underlying,hd]
 ·rename_i hk;cases m_ hb
  obtain⟨e,hd⟩:=adr r hk;rw [hk]at hn;unfold isNil at hn;split at hn<;>simp_all
  ·cases m_ ha
   refine⟨?_,λop=>by cases op<;>rfl⟩
   rw [Op.equal,hm,Op.equalIn];simp [r.run_underlying,hd]
  ·obtain⟨u,rfl,_⟩:=IS ha;subst hn;refine⟨?_,λop=>by cases op<;>rfl⟩
   rw [Op.equal,hm,Op.equalIn];simp [r.run_underlying,hd]
 ·rename_i hk;cases m_ hb
  obtain⟨e1,e2,e3,hd⟩:=ads r hk;rw [hk]at hn;unfold isNil at hn;split at hn<;>simp_all
  ·cases m_ ha
   refine⟨?_,λop=>by cases op<;>rfl⟩
   rw [Op.equal,hm,Op.equalIn];simp [r.run_underlying,hd]
  ·obtain⟨u,rfl,_⟩:=R' ha;subst hn;refine⟨?_,λop=>by cases op<;>rfl⟩
   rw [Op.equal,hm,Op.equalIn];simp [r.run_underlying,hd]
end
section
variable {P:Program} {K:Ctx} {N:Nat} {M:Mem} {β:Nat→Option Nat} {st:aJ} {g:di} {tmps:Array Value} {w:World} {o:Oper} {f:kN} {p:Path} {tt:dx} {cn:gg} {ops:List Oper}
structure Hyp(P:Program)(K:Ctx)(N:Nat)(M:Mem)(β:Nat→Option Nat)(g:di)(tmps:Array Value)(w:World)(p:Path)(tt:dx):Prop where
 bu:fx P K N M β g tmps w
 dM:fG tmps p
 tt:e7 P tt=true
def adt(h:Hyp P K N M β g tmps w p tt){x:Operand}(aA:o.op = .move x)(hs:step1 cn tt ops g p o=some (.go f)):Yields P K M β g f o tmps w:=by
 simp only [step1,aA]at hs;split at hs
 case h_2=>cases hs
 rename_i d hd
 repeat' (first|(split at hs)|(rw [Bool.cond_eq_ite]at hs))
 all_goals first
  |(cases hs;done)
  |(cases hs;exact Sc h.bu h.dM (.inl aA) hd (by assumption))
  |(cases hs;exact CY h.bu h.dM (.inl aA) hd)
def adu(h:Hyp P K N M β g tmps w p tt){x:Operand}(aA:o.op = .assign x)(hs:step1 cn tt ops g p o=some (.go f)):Yields P K M β g f o tmps w:=by
 simp only [step1,aA]at hs;split at hs
 case h_2=>cases hs
 rename_i d hd;split at hs
 ·rename_i e t fL;rw [Bool.cond_eq_ite]at hs;split at hs<;>cases hs
  ·exact Sc h.bu h.dM (.inr aA) hd fL
  ·exact CY h.bu h.dM (.inr aA) hd
 ·split at hs
  ·rw [Bool.cond_eq_ite]at hs;split at hs<;>cases hs
   ·exact acy h.bu h.dM aA hd _
   ·exact CY h.bu h.dM (.inr aA) hd
  ·cases hs
 ·cases hs;exact CY h.bu h.dM (.inr aA) hd
def adv(h:Hyp P K N M β g tmps w p tt){c:Nat}{a b:Operand}(aA:o.op = .pick (.tmp c) a b)(hs:step1 cn tt ops g p o=some (.go f)):Yields P K M β g f o tmps w:=by
 simp only [step1,aA]at hs;split at hs
 case h_2=>cases hs
 rename_i rH yH s4 Z af au;cases hs;exact acz h.bu h.dM aA Z af au
def adw(h:Hyp P K N M β g tmps w p tt){t:TypeId}(aA:o.op = .alloc t)(hs:step1 cn tt ops g p o=some (.go f)):Yields P K M β g f o tmps w:=by
 simp only [step1,aA]at hs;split at hs
 case h_2=>cases hs
 rename_i id fc hid;split at hs
 case h_2=>cases hs
 rename_i z dQ;cases hs;exact acB h.bu h.tt aA dQ hid
def adx(h:Hyp P K N M β g tmps w p tt){t:TypeId}{x:Operand}(aA:o.op = .box t x)(hs:step1 cn tt ops g p o=some (.go f)):Yields P K M β g f o tmps w:=by
 simp only [step1,aA]at hs;split at hs
 case h_2=>cases hs
 rename_i d id fc aI hd hid ag;rw [Bool.cond_eq_ite]at hs;split at hs<;>cases hs
 rename_i Dd;simp only [Bool.or_eq_true,Bool.not_eq_true',not_or,Bool.not_eq_true,Bool.not_eq_false,Nat.beq_eq]at Dd;exact acC h.bu h.dM aA hd Dd.1.1 Dd.1.2 h.tt ag Dd.2 hid
def ady(h:Hyp P K N M β g tmps w p tt){t:TypeId}{parts:Array (Nat×Operand)}(aA:o.op = .build t parts)(hs:step1 cn tt ops g p o=some (.go f)):Yields P K M β g f o tmps w:=by
 simp only [step1,aA]at hs;split at hs
 ·rename_i cG fK jR zero _ cJ ag lA;rw [Bool.cond_eq_ite]at hs;split at hs
  case isFalse=>cases hs
  rename_i nb;split at hs
  ·simp only [Option.map_eq_some_iff]at hs;obtain⟨d,⟨cs,ee,rfl⟩,hs⟩:=hs;cases hs;exact So h.bu h.dM h.tt ag rfl nb aA lA (λr=>r.acF) ee
  ·simp only [Option.map_eq_some_iff]at hs;obtain⟨d,⟨cs,ee,rfl⟩,hs⟩:=hs;cases hs;exact So h.bu h.dM h.tt ag rfl nb aA lA (λr=>r.Sn) ee
 ·rename_i n e fK jR zero _ cJ ag lA;split at hs
  case h_2=>cases hs
  rename_i al adz S2 z2 eG;simp only [Option.map_eq_some_iff]at hs;obtain⟨d,⟨cs,ee,rfl⟩,hs⟩:=hs;cases hs;exact acH h.bu h.dM h.tt ag rfl eG aA lA ee
 ·cases hs
def adA(h:Hyp P K N M β g tmps w p tt){t:TypeId}{len:Nat}{parts:Array (Nat×Operand)}(aA:o.op = .buildSlice t len parts)(hs:step1 cn tt ops g p o=some (.go f))(cC:∀q,q∈f.bb→q):Yields P K M β g f o tmps w:=by
 simp only [step1,aA]at hs;split at hs
 case h_2=>cases hs
 rename_i e fK jR zero _ cJ ag lA;split at hs
 case h_2=>cases hs
 rename_i al adz S2 z2 eG;split at hs
 case h_2=>cases hs
 rename_i xs x rs hx eH;rw [Bool.cond_eq_ite]at hs;split at hs
 case isFalse=>cases hs
 rename_i hc;simp only [Bool.and_eq_true,Nat.ble_eq,Nat.beq_eq]at hc;cases hs;exact acJ h.bu h.dM h.tt ag rfl eG aA lA hx hc.2 hc.1.2 hc.1.1 (cC _ (List.mem_singleton.2 rfl))
def adB(h:Hyp P K N M β g tmps w p tt){t:TypeId}{a:Operand}(aA:o.op = .load t a)(hs:step1 cn tt ops g p o=some (.go f)):Yields P K M β g f o tmps w:=by
 simp only [step1,aA]at hs;split at hs
 ·rename_i q off aI ha ag;split at hs
  case h_2=>cases hs
  rename_i cs aE;rw [Bool.cond_eq_ite]at hs;split at hs
  ·rename_i hv;rw [Bool.cond_eq_ite]at hs;split at hs
   case isFalse=>cases hs
   rename_i hle;split at hs
   ·rename_i rs eH;rw [Bool.cond_eq_ite]at hs;split at hs
    case isFalse=>cases hs
    rename_i hm;cases hs;simp only [Bool.and_eq_true]at hm;exact acT h.bu h.dM h.tt ag aA ha aE hv (by simpa using hle) hm.2
   ·cases hs;exact acM h.bu h.dM h.tt ag aA ha aE hv (by simpa using hle)
  ·rename_i hv;split at hs
   case h_2=>cases hs
   rename_i e he;split at hs
   ·rename_i s rs fY eH;rw [Bool.cond_eq_ite]at hs;split at hs<;>cases hs
    exact acO h.bu h.dM h.tt ag aA ha aE (by simpa using hv) he fY
   ·cases hs;exact acN h.bu h.dM h.tt ag aA ha aE (by simpa using hv) he
 ·rename_i x aI ha ag;rw [Bool.cond_eq_ite]at hs;split at hs
  case isFalse=>cases hs
  rename_i hc;simp only [Bool.and_eq_true,beq_iff_eq,Nat.beq_eq]at hc;cases hs;exact acP h.bu h.dM h.tt ag aA ha hc.1 hc.2
 ·cases hs
def adC(h:Hyp P K N M β g tmps w p tt){t:TypeId}{a x:Operand}(aA:o.op = .store t a x)(hs:step1 cn tt ops g p o=some (.go f)):Yields P K M β g f o tmps w:=by
 simp only [step1,aA]at hs;split at hs
 case h_2=>cases hs
 rename_i q off d aI ha hx ag;split at hs
 case h_2=>cases hs
 rename_i cs aE;rw [Bool.cond_eq_ite]at hs;split at hs
 case isFalse=>cases hs
 rename_i hc;simp only [Bool.and_eq_true,Nat.beq_eq,Nat.ble_eq,Bool.not_eq_true']at hc;obtain⟨⟨⟨⟨jB,kY⟩,_⟩,JD⟩,JE⟩:=hc;split at hs
 ·rename_i u s k n get fL;cases hs;simp only [nM,Option.bind_eq_some_iff]at fL;obtain⟨e,he,aS⟩:=fL;have el:aI.size=1:=by rw [←jB];rfl
  exact Sw h.bu h.dM h.tt ag aA ha aE hx el kY (l:=[u]) (h.bu.bu.hand he aS (.cell q off))
 ·split at hs
  ·cases hs;have l6:=hx;simp only [rd]at l6;split at l6
   ·cases l6;have el:aI.size=1:=by rw [←jB];rfl
    exact Sw h.bu h.dM h.tt ag aA ha aE hx el kY (l:=[]) (IL _ _)
   ·cases l6
  ·cases hs
 ·rename_i u s fL;split at hs
  ·rw [Bool.cond_eq_ite]at hs;split at hs
   case isFalse=>cases hs
   rename_i hm;cases hs;simp only [Bool.and_eq_true,List.all_eq_true,Nat.blt_eq]at hm;simp only [nM,Option.bind_eq_some_iff]at fL;obtain⟨e,he,aS⟩:=fL;exact acV h.bu h.dM h.tt ag aA ha aE hx JD JE jB kY hm.1 he aS hm.2
  ·cases hs;exact Sv h.bu h.dM h.tt ag aA ha aE hx JD JE jB kY _
 ·cases hs;exact Sv h.bu h.dM h.tt ag aA ha aE hx JD JE jB kY _
def adD(h:Hyp P K N M β g tmps w p tt){x:Operand}(aA:o.op = .nilCheck x)(hs:step1 cn tt ops g p o=some (.go f)):Yields P K M β g f o tmps w:=by
 simp only [step1,aA]at hs;split at hs
 ·rename_i q off hd;cases hs;have ak:=d_ (ds:=[]) h.bu h.dM hd;obtain⟨b,_,ay⟩:=nQ ak;refine e8 h.bu (v:=(⟨tmps,[]⟩:Act).eval x) ?_ ak;simp [execOp,aA,ay]
 ·rename_i y hd;cases hs;have ak:=d_ (ds:=[]) h.bu h.dM hd;obtain⟨b,off,val,ay,_⟩:=CU ak;refine e8 h.bu (v:=(⟨tmps,[]⟩:Act).eval x) ?_ ak;simp [execOp,aA,ay]
 ·cases hs
def adE(h:Hyp P K N M β g tmps w p tt){op:UnOp}{t:TypeId}{x:Operand}(aA:o.op = .unOp op t x)(hs:step1 cn tt ops g p o=some (.go f)):Yields P K M β g f o tmps w:=by
 simp only [step1,aA]at hs;split at hs
 case h_2=>cases hs
 rename_i a ha;simp only [Option.map_eq_some_iff]at hs;obtain⟨d,⟨fH,vY,rfl⟩,hs⟩:=hs;cases hs;have ak:=d_ (ds:=[]) h.bu h.dM ha;unfold RX at vY;split at vY<;>cases vY
 ·have:=td ak
  refine e8 h.bu (v:=.bool _) ?_ (.v _ _ (.bool _));simp [execOp,aA,this,Op.unary]
 ·have:=lz ak
  refine e8 h.bu (v:=.int _ _) ?_ (.v _ _ (.int _ _));simp [execOp,aA,this,Op.unary,Op.intArith]
def adF(h:Hyp P K N M β g tmps w p tt){s t:TypeId}{x:Operand}(aA:o.op = .convert s t x)(hs:step1 cn tt ops g p o=some (.go f))(cC:∀q,q∈f.bb→q):Yields P K M β g f o tmps w:=by
 simp only [step1,aA]at hs;split at hs
 ·rename_i cS _ _ _ _ k _ _ _ _ eP n fr eG hd;cases hs;obtain⟨ah⟩:=et h.tt fr;obtain⟨ao⟩:=et h.tt eG;have ak:=lz (d_ (ds:=[]) h.bu h.dM hd);refine e8 h.bu (v:=.int k (k.wrap n)) ?_ (.v _ _ (.int _ _));simp only [execOp,aA,ak];refine iF _ ?_;simp [convert,ah.run_underlying,ao.run_underlying,yP ah rfl,yP ao rfl,Conv.intToInt]
 ·rename_i _ _ _ _ _ _ _ _ l fr eG hd;cases hs;obtain⟨ah⟩:=et h.tt fr;obtain⟨ao⟩:=et h.tt eG;have ak:=l3 (d_ (ds:=[]) h.bu h.dM hd);refine e8 h.bu (v:=.string ⟨⟨l⟩⟩) ?_ (.v _ _ (.str _));simp only [execOp,aA,ak];refine iF _ ?_;simp [convert,ah.run_underlying,ao.run_underlying,pH ah rfl,pH ao rfl]
 ·rename_i e _ _ _ _ _ _ _ _ n get fr eG hd;split at hs
  case h_2=>cases hs
  rename_i l rs JF eH;cases hs;obtain⟨ah⟩:=et h.tt fr;obtain⟨ao⟩:=et h.tt eG;obtain⟨aB⟩:=et h.tt JF;obtain⟨hlen,iq⟩:=cC _ (List.mem_singleton.2 rfl);have ak:=d_ (ds:=[]) h.bu h.dM hd;refine e8 h.bu (v:=.string ⟨⟨l⟩⟩) ?_ (.v _ _ (.str _));simp only [execOp,aA];refine iF _ ?_;rcases rN ak with⟨hn|⟨a,hn⟩,ay⟩|⟨b,off,cap,val,ay,hc,hk,c7,Z,fM⟩
  ·have hl0:l=[]:=List.eq_nil_of_length_eq_zero (hlen.trans ay);rw [hn,hl0];simp [convert,ah.run_underlying,ao.run_underlying,aB.run_underlying,oH ah rfl,pH ao rfl,yP aB rfl,Conv.bytesToString];rfl
  ·have hl0:l=[]:=List.eq_nil_of_length_eq_zero (hlen.trans ay);rw [hn,hl0];exact run_convert_bytes_back w s t e a 0 [] (by rw [ah.hd,oH ah rfl]) (by rw [aB.hd,yP aB rfl]) (by rw [ao.hd,pH ao rfl]) (λj hj=>by simp at hj)
  ·rw [ay,←hlen]
   have hQ:∀j (hj:j<l.length),w.cell? ((⟨b,off,none⟩:Addr).add j)=some (.int .u8 (l[j].toNat:Int)):=by
    intro j hj;have JG:j<n:=by omega
    have e1:=iq j JG;have e2:=fM j 0 (.int .u8 ((l.getD j 0).toNat:Int)) JG (by rw [e1];rfl)
    have e3:val j 0 = .int .u8 ((l.getD j 0).toNat:Int):=by generalize val j 0=u at e2 ⊢;cases e2;rfl
    have h3:=h.bu.bu.mem _ _ _ (c7 j 0 JG (by omega))
    rw [addr_add];have tA:off+j*1+0=off+j:=by omega
    rw [tA,e3]at h3;rw [h3];simp [List.getD,List.getElem?_eq_getElem hj]
   exact run_convert_bytes_back w s t e ⟨b,off,none⟩ cap l (by rw [ah.hd,oH ah rfl]) (by rw [aB.hd,yP aB rfl]) (by rw [ao.hd,pH ao rfl]) hQ
 ·cases hs
def adG(h:Hyp P K N M β g tmps w p tt){t:TypeId}{x:Operand}(aA:o.op = .makeInterface t x)(hs:step1 cn tt ops g p o=some (.go f)):Yields P K M β g f o tmps w:=by
 simp only [step1,aA]at hs;split at hs
 case h_2=>cases hs
 rename_i y k fK jR z _ hd ag;obtain⟨r⟩:=et h.tt ag;have ak:=d_ (ds:=[]) h.bu h.dM hd
 have hc:P.concrete t=true∨k = .nJ:=by
  have hk:=r.hk;cases S3:r.desc<;>simp [S3,kR]at hk
  all_goals first
   |exact .inr hk.symm
   |(left;simp [Program.concrete,r.hd,S3])
 split at hs
 ·cases hs
 ·rename_i hk;cases hs;rcases hc with hc|hc
  ·refine e8 h.bu (v:=.iface t ((⟨tmps,[]⟩:Act).eval x)) ?_ (.v _ _ (.iface t _ _ (m_ ak)));simp only [execOp,aA];exact iF _ (run_makeInterface w t _ hc)
  ·exact absurd hc hk
def adH(h:Hyp P K N M β g tmps w p tt){fn:FuncId}{first fb:Array Operand}(aA:o.op = .makeFunc (.func fn) first fb)(hs:step1 cn tt ops g p o=some (.go f)):Yields P K M β g f o tmps w:=by
 simp only [step1,aA]at hs;rw [Bool.cond_eq_ite]at hs;split at hs
 case isFalse=>cases hs
 rename_i he;simp only [Option.map_eq_some_iff]at hs;obtain⟨ds,hG,hs⟩:=hs;cases hs;obtain⟨Z,af⟩:=rO hG;have tn:first = #[]:=by simpa using he
 subst tn;refine e8 h.bu (v:=.func (.func fn) #[] (fb.map (⟨tmps,[]⟩:Act).eval)) ?_ ?_
 ·simp [execOp,aA,Instr.makeFunc]
 ·have:fb.map (⟨tmps,[]⟩:Act).eval=⟨fb.toList.map (⟨tmps,[]⟩:Act).eval⟩:=by apply Array.ext';simp
  rw [this];refine .fn fn _ ds (by simp [Z]) λi v c ay hc=>?_
  simp only [List.getElem?_map,Option.map_eq_some_iff]at ay;obtain⟨y,cc,rfl⟩:=ay;exact d_ h.bu h.dM (af i y c cc hc)
def adI(h:Hyp P K N M β g tmps w p tt){x:Operand}{i:Nat}(aA:o.op = .extract x i)(hs:step1 cn tt ops g p o=some (.go f)):Yields P K M β g f o tmps w:=by
 simp only [step1,aA]at hs;split at hs
 case h_2=>cases hs
 rename_i ds hd;simp only [Option.map_eq_some_iff]at hs;obtain⟨d,rV,hs⟩:=hs;cases hs;obtain⟨vs,ay,hlen,ak⟩:=acs (d_ (ds:=[]) h.bu h.dM hd);have hi:i<ds.length:=(List.getElem?_eq_some_iff.1 rV).1;have eF:vs[i]? = some vs[i]:=List.getElem?_eq_getElem (by omega)
 refine e8 h.bu (v:=vs[i]) ?_ (ak i _ d eF rV);simp only [execOp,aA,ay];refine iF _ ?_;simp [Instr.extract,eF]
end
section
variable {P:Program} {K:Ctx} {N:Nat} {M:Mem} {β:Nat→Option Nat} {st:aJ} {g:di} {tmps:Array Value} {w:World} {o:Oper} {f:kN} {p:Path} {tt:dx} {cn:gg} {ops:List Oper}
def pT{op:BinOp}{t t2:TypeId}{x y:Operand}(aA:o.op = .binOp op t x y t2){a b v:Value}(hx:(⟨tmps,[]⟩:Act).eval x=a)(cc:(⟨tmps,[]⟩:Act).eval y=b)
 (hg:(eqGuard op t x y a b).run P w = .ok () w) (h:(binOp op t a b).run P w = .ok v w):(execOp (Act.eval ⟨tmps,[]⟩) o).run P w = .ok (.value v) w:=by
 simp only [execOp,aA,hx,cc];refine iF _ ?_;simp only [Sem.run_bind,hg,Result.andThen_ok,h]
def tB{op:BinOp}{t:TypeId}{x y:Operand}{a b:Value}(h:∀cs ds,¬ (a = .agg cs∧b = .agg ds))(af:a = .nilIface→b = .nilIface→isConst y=true):(eqGuard op t x y a b).run P w = .ok () w:=by
 unfold eqGuard;cases op<;>try rfl
 all_goals
  simp only
  cases a<;>cases b<;>first
   |rfl
   |(exact absurd ⟨rfl,rfl⟩ (h _ _))
   |(have:=af rfl rfl;cases y<;>simp [isConst]at this;simp)
def adJ(cj:e7 P tt=true){d:Nat}{hE:TypeId}{y9:List (Option lw)}{x y:V}{xs ys:List V}{hy qT:Value}{r:Bool}
 (he:iB ((look tt hE).map (·.k)::y9) (x::xs) (y::ys)=some r) (y':dl M hy x) (y_:dl M qT y):∃c q,(Op.equalIn (d+1) hE hy qT).run P w = .ok c w∧iB y9 xs ys=some q∧(c&&q)=r:=by
 cases ag:look tt hE with
 |none=>simp [ag,iB]at he
 |some aI=>
  obtain⟨row⟩:=et cj ag;have nX:=row.hd;simp only [ag,Option.map_some]at he;unfold iB at he;split at he<;>simp only [List.cons.injEq,reduceCtorEq]at *
  case h_2 ks kk k a l k' b m e1 e2 e3=>
   obtain⟨e1,rfl⟩:=e1;obtain⟨rfl,rfl⟩:=e2;obtain⟨rfl,rfl⟩:=e3;cases y';cases y_
   rw [Bool.cond_eq_ite]at he;split at he
   case isFalse=>cases he
   rename_i hk;simp only [decide_eq_true_eq]at hk;subst hk;simp only [Option.map_eq_some_iff]at he;obtain⟨q,aE,ak⟩:=he;refine⟨decide (a=b),q,?_,aE,ak⟩
   have:∃eT,row.desc = .int eT:=by
    have:=row.hk
    rw [Option.some.inj e1]at this;cases hd:row.desc<;>simp [hd,kR]at this;exact⟨_,rfl⟩
   obtain⟨eT,iJ⟩:=this;rw [iJ]at nX;rw [run_equalIn_int w d hE k eT a b nX];rfl
  case h_3 ks a l b m e1 e2 e3=>
   obtain⟨e1,rfl⟩:=e1;obtain⟨rfl,rfl⟩:=e2;obtain⟨rfl,rfl⟩:=e3;cases y';cases y_
   simp only [Option.map_eq_some_iff]at he;obtain⟨q,aE,ak⟩:=he;refine⟨decide (a=b),q,?_,aE,ak⟩
   have:row.desc = .string:=pH row (Option.some.inj e1)
   rw [this]at nX;rw [run_equalIn_string w d hE _ _ nX,CX,CX];by_cases l7:a=b<;>simp [l7]
  case h_4 ks a l b m e1 e2 e3=>
   obtain⟨e1,rfl⟩:=e1;obtain⟨rfl,rfl⟩:=e2;obtain⟨rfl,rfl⟩:=e3;cases y';cases y_
   simp only [Option.map_eq_some_iff]at he;obtain⟨q,aE,ak⟩:=he;refine⟨(a == b),q,?_,aE,ak⟩
   have:row.desc = .bool:=JC row (Option.some.inj e1)
   rw [this]at nX;rw [run_equalIn_bool' w d hE _ _ nX]
def nf(P:Program)(cG:List Field):List (Nat×TypeId×Nat):=cG.map λf=>(f.offset,f.type,P.cellsOf f.type)
def De:∀{cS al:List (Option lw)} {xs ys:List V} {r:Bool},iB (cS++al) xs ys=some r→
 ∃ah ao,iB cS (xs.take cS.length) (ys.take cS.length)=some ah∧iB al (xs.drop cS.length) (ys.drop cS.length)=some ao∧(ah&&ao)=r∧cS.length≤xs.length∧cS.length≤ys.length∧∀k,k∈cS→k.isSome=true
 |[],al,xs,ys,r,h=>⟨true,r,by simp [iB],by simpa using h,rfl,Nat.zero_le _,Nat.zero_le _,λk hk=>by cases hk⟩
 |k::cS,al,xs,ys,r,h=>by
  simp only [List.cons_append]at h;unfold iB at h;split at h<;>simp only [List.cons.injEq,reduceCtorEq]at *
  ·rename_i ks kk k' a l aoA b m e1;obtain⟨rfl,rfl⟩:=e1;rw [Bool.cond_eq_ite]at h;split at h
   case isFalse=>cases h
   rename_i hk;simp only [Option.map_eq_some_iff]at h;obtain⟨q,aE,rfl⟩:=h;obtain⟨ah,ao,Z,af,au,aQ,bj,cb⟩:=De aE;refine⟨decide (a=b)&&ah,ao,?_,af,by rw [Bool.and_assoc,au],by simpa using aQ,by simpa using bj,λeT iJ=>?_⟩
   ·simp only [List.length_cons,List.take_succ_cons,iB,hk,cond_true,Z,Option.map_some]
   ·rcases List.mem_cons.1 iJ with rfl|iJ
    ·rfl
    ·exact cb eT iJ
  ·rename_i ks a l b m e1;obtain⟨rfl,rfl⟩:=e1;simp only [Option.map_eq_some_iff]at h;obtain⟨q,aE,rfl⟩:=h;obtain⟨ah,ao,Z,af,au,aQ,bj,cb⟩:=De aE;refine⟨decide (a=b)&&ah,ao,?_,af,by rw [Bool.and_assoc,au],by simpa using aQ,by simpa using bj,λeT iJ=>?_⟩
   ·simp only [List.length_cons,List.take_succ_cons,iB,Z,Option.map_some]
   ·rcases List.mem_cons.1 iJ with rfl|iJ
    ·rfl
    ·exact cb eT iJ
  ·rename_i ks a l b m e1;obtain⟨rfl,rfl⟩:=e1;simp only [Option.map_eq_some_iff]at h;obtain⟨q,aE,rfl⟩:=h;obtain⟨ah,ao,Z,af,au,aQ,bj,cb⟩:=De aE;refine⟨(a == b)&&ah,ao,?_,af,by rw [Bool.and_assoc,au],by simpa using aQ,by simpa using bj,λeT iJ=>?_⟩
   ·simp only [List.length_cons,List.take_succ_cons,iB,Z,Option.map_some]
   ·rcases List.mem_cons.1 iJ with rfl|iJ
    ·rfl
    ·exact cb eT iJ
def rW(tt:dx)(hE:TypeId):Nat→List (Option lw)
 | 0=>[(look tt hE).map (·.k)]
 |q+1=>match look tt hE with
  |some {k:=.b9 gs,..}=>lY tt q gs
  |o=>[o.map (·.k)]
def Df(q:Nat)(f:Field)(cG:List Field):lY tt q (nf P (f::cG))=rW tt f.type q++lY tt q (nf P cG):=by
 cases q with
 |zero=>rfl
 |succ q=>
  simp only [lY,nf,List.map_cons,List.flatMap_cons,rW];rfl
def S4{t:TypeId}{aI:eE}(r:Row P t aI){gs:Array Field}(h:P.underlying t=some (.struct gs)):aI.k = .b9 (nf P gs.toList):=by
 have hd:r.desc = .struct gs:=Option.some.inj (r.hd.symm.trans h);have:=r.hk
 rw [hd]at this;simp [kR]at this;exact this.symm
def S5{t:TypeId}{aI:eE}(r:Row P t aI){gs:List (Nat×TypeId×Nat)}(h:aI.k = .b9 gs):∃cG:Array Field,P.underlying t=some (.struct cG)∧gs=nf P cG.toList:=by
 have Z:=r.hk;rw [h]at Z;cases hd:r.desc<;>simp [hd,kR]at Z
 rename_i cG;refine⟨cG,?_,Z.symm⟩
 rw [r.hd,hd]
def S6(cj:e7 P tt=true){hE:TypeId}(h:∀gs,P.underlying hE≠some (.struct gs))(q:Nat):rW tt hE q=[(look tt hE).map (·.k)]:=by
 cases q with
 |zero=>rfl
 |succ q=>
  simp only [rW];split
  ·rename_i gs _ _ _ _ ag;obtain⟨row⟩:=et cj ag;obtain⟨cG,Z,_⟩:=S5 row rfl;exact absurd Z (h cG)
  ·rfl
def JH(cj:e7 P tt=true):∀(q:Nat) (cG:List Field),(∀k,k∈lY tt q (nf P cG)→k.isSome=true)→(lY tt q (nf P cG)).length=qN P q cG
 | 0,cG,_=>by simp [lY,nf,qN]
 |q+1,[],_=>by simp [lY,nf,qN]
 |q+1,f::cG,h=>by
  rw [Df]at h ⊢;have bc:=JH cj (q+1) cG λk hk=>h k (List.mem_append_right _ hk)
  have hc:qN P (q+1) (f::cG)=(match P.underlying f.type with|some (.struct gs)=>qN P q gs.toList|_=>1)+qN P (q+1) cG:=by
   simp only [qN,List.map_cons,List.sum_cons];rfl
  rw [List.length_append,bc,hc]
  congr 1
  simp only [rW]at h ⊢;split
  ·rename_i gs _ _ _ _ ag;obtain⟨row⟩:=et cj ag;obtain⟨za,Z,rfl⟩:=S5 row rfl;rw [Z];refine JH cj q za.toList λk hk=>h k (List.mem_append_left _ ?_)
   rw [ag];exact hk
  ·rename_i o nY;cases aA:look tt f.type with
   |none=>
    have:=h none (List.mem_append_left _ (by rw [aA];simp))
    cases this
   |some aI=>
    obtain⟨row⟩:=et cj aA;split
    ·rename_i gs hu;have:=S4 row hu
     obtain⟨k,s,b,z,l5⟩:=aI;simp only at this
     subst this;exact absurd aA (nY _ _ _ _ _)
    ·rfl
def S7 (cj : e7 P tt = true) {d : Nat} {f : Field} {cG : List Field} {i : Nat} {y9 : List (Option lw)} {xs ys : List V} {vs us : List Value} {r : Bool} (rX : f.offset = i) (jl : ¬ f.name = "_") (hv : (isAgg f.type).run P w = .ok false w)
 (he:iB ((look tt f.type).map (·.k)::y9) xs ys=some r)
 (ay:∀(j:Nat) v x,vs[i+j]? = some v→xs[j]? = some x→dl M v x) (hu:∀(j:Nat) v x,us[i+j]? = some v→ys[j]? = some x→dl M v x) (jW:i+xs.length≤vs.length) (pK:i+ys.length≤us.length)
 (bc:∀(q:Bool),∀{zb zc:List V},iB y9 zb zc=some q→(∀(j:Nat) v x,vs[i+1+j]? = some v→zb[j]? = some x→dl M v x)→(∀(j:Nat) v x,us[i+1+j]? = some v→zc[j]? = some x→dl M v x)→i+1+zb.length≤vs.length→i+1+zc.length≤us.length→(Op.eqFields (d+1) ⟨vs⟩ ⟨us⟩ cG).run P w = .ok q w):
 (Op.eqFields (d+1) ⟨vs⟩ ⟨us⟩ (f::cG)).run P w = .ok r w:=by
 cases xs with
 |nil=>simp [iB]at he
 |cons x xs=>
  cases ys with
  |nil=>simp [iB]at he
  |cons y ys=>
   simp only [List.length_cons]at jW pK;obtain⟨hy,eF⟩:∃hy,vs[i]? = some hy:=⟨_,List.getElem?_eq_getElem (by omega)⟩
   obtain⟨qT,S8⟩:∃qT,us[i]? = some qT:=⟨_,List.getElem?_eq_getElem (by omega)⟩
   have y':=ay 0 hy x eF rfl;have y_:=hu 0 qT y S8 rfl
   have pM:∀{zs:List Value} {z:Value},zs[i]? = some z→(part f.type ⟨zs⟩ f.offset).run P w = .ok z w:=by
    intro zs z dQ;have:(⟨zs⟩:Array Value)[f.offset]? = some z:=by rw [rX];simpa using dQ
    simp only [part,Sem.run_bind,hv,Result.andThen_ok,this];rfl
   obtain⟨c,q,Z,af,au⟩:=adJ (P:=P) (w:=w) (M:=M) cj (d:=d) he y' y_;have aQ:=bc q af (λj v z Z af=>ay (j+1) v z (by rw [←Z];congr 1;omega) (by simpa using af)) (λj v z Z af=>hu (j+1) v z (by rw [←Z];congr 1;omega) (by simpa using af)) (by omega) (by omega)
   simp only [Op.eqFields];rw [if_pos jl];simp only [Sem.run_bind,pM eF,pM S8,Result.andThen_ok,Z];cases c
   ·simp [←au]
   ·simp [←au,aQ]
def adK(cj:e7 P tt=true):∀(q:Nat) {d:Nat} {cG:List Field} {i:Nat} {xs ys:List V} {vs us:List Value} {r:Bool},tc P q i cG=true→iB (lY tt q (nf P cG)) xs ys=some r→
 (∀(j:Nat) v x,vs[i+j]? = some v→xs[j]? = some x→dl M v x)→(∀(j:Nat) v x,us[i+j]? = some v→ys[j]? = some x→dl M v x)→i+xs.length≤vs.length→i+ys.length≤us.length→
 (Op.eqFields (d+q+1) ⟨vs⟩ ⟨us⟩ cG).run P w = .ok r w:=by
 intro q;induction q with
 |zero=>
  intro d cG;induction cG with
  |nil=>intro i xs ys vs us r _ he _ _ _ _;cases xs<;>cases ys<;>simp [lY,nf,iB]at he;subst he;simp [Op.eqFields]
  |cons f cG bc=>
   intro i xs ys vs us r a' he ay hu jW pK;simp only [tc,vL,Bool.and_eq_true,Nat.beq_eq,Bool.not_eq_true',decide_eq_false_iff_not]at a';obtain⟨⟨rX,jl⟩,gC⟩:=a'
   have v8:(∀gs,P.underlying f.type≠some (.struct gs))∧tc P 0 (i+1) cG=true∧(isAgg f.type).run P w = .ok false w:=by
    simp only [isAgg,Sem.run_bind];split at gC
    ·rename_i k hk;refine⟨λgs h=>(by rw [hk]at h;cases h),gC,?_⟩;rw [Go.run_underlying hk];rfl
    ·rename_i hk;refine⟨λgs h=>(by rw [hk]at h;cases h),gC,?_⟩;rw [Go.run_underlying hk];rfl
    ·rename_i hk;refine⟨λgs h=>(by rw [hk]at h;cases h),gC,?_⟩;rw [Go.run_underlying hk];rfl
    ·simp at gC
    ·cases gC
   exact S7 cj rX jl v8.2.2 (by rw [Df,S6 cj v8.1]at he;exact he) ay hu jW pK λq' zb zc oK nU JI Z af=>bc v8.2.1 oK nU JI Z af
 |succ q adL=>
  intro d cG;induction cG with
  |nil=>intro i xs ys vs us r _ he _ _ _ _;cases xs<;>cases ys<;>simp [lY,nf,iB]at he;subst he;simp [Op.eqFields]
  |cons f cG bc=>
   intro i xs ys vs us r a' he ay hu jW pK;have zd:=a';simp only [tc,vL,Bool.and_eq_true,Nat.beq_eq,Bool.not_eq_true',decide_eq_false_iff_not]at a';obtain⟨⟨rX,jl⟩,gC⟩:=a';by_cases dS:∃gs,P.underlying f.type=some (.struct gs)
   ·obtain⟨gs,v'⟩:=dS;rw [v']at gC;simp only [Bool.and_eq_true,Bool.not_eq_true',Nat.beq_eq]at gC;obtain⟨⟨⟨adM,adN⟩,adO⟩,S9⟩:=gC;rw [Df]at he;obtain⟨ah,ao,e1,e2,e3,gv,ir,tx⟩:=De he
    have jV:∃aI,look tt f.type=some aI:=by
     cases ag:look tt f.type with
     |none=>have:=tx none (by simp [rW,ag]);cases this
     |some aI=>exact⟨aI,rfl⟩
    obtain⟨aI,Dg⟩:=jV;obtain⟨row⟩:=et cj Dg;have hk:=S4 row v'
    have tr:rW tt f.type (q+1)=lY tt q (nf P gs.toList):=by
     obtain⟨k,s,b,z,l5⟩:=aI;simp only at hk
     subst hk;simp only [rW,Dg]
    rw [tr]at e1 e2 gv ir tx;have hn:=JH cj q gs.toList tx;rw [hn,←adN]at e1 e2 gv ir;generalize bB:P.cellsOf f.type=n at e1 e2 gv ir
    obtain⟨info,C0⟩:=info_of_underlying v'
    have pM:∀zs:List Value,(part f.type ⟨zs⟩ f.offset).run P w = .ok (.agg ⟨(zs.drop i).take n⟩) w:=by
     intro zs
     have:(⟨zs⟩:Array Value).extract i (i+n)=⟨(zs.drop i).take n⟩:=by
      apply Array.ext';rw [Array.toList_extract];simp [List.extract]
     simp only [part,isAgg,Sem.run_bind,run_underlying v',run_sizeOf w C0,Result.andThen_ok,Sem.run_pure,rX,bB];simp [this,run_sizeOf w C0,bB]
    have iE:∀{zs:List Value} {cs:List V},(∀(j:Nat) v x,zs[i+j]? = some v→cs[j]? = some x→dl M v x)→∀(j:Nat) v x,((zs.drop i).take n)[0+j]? = some v→(cs.take n)[j]? = some x→dl M v x:=by
     intro zs cs h j v x Z af;rw [Nat.zero_add,List.getElem?_take]at Z;rw [List.getElem?_take]at af;split at Z
     ·rename_i hj;rw [if_pos hj]at af;rw [List.getElem?_drop]at Z;exact h j v x Z af
     ·cases Z
    have vT:P.fieldsOf f.type=gs:=by simp [Program.fieldsOf,v']
    have hin:(Op.equalIn (d+(q+1)+1) f.type (.agg ⟨(vs.drop i).take n⟩) (.agg ⟨(us.drop i).take n⟩)).run P w = .ok ah w:=by
     rw [run_equalIn_agg w (d+(q+1)) f.type _ _ (by rw [vT];exact v') adM,vT]
     exact adL (d:=d) (i:=0) adO e1 (iE ay) (iE hu) (by simp;omega) (by simp;omega)
    have S':∀{zs:List Value} {cs:List V},(∀(j:Nat) v x,zs[i+j]? = some v→cs[j]? = some x→dl M v x)→∀(j:Nat) v x,zs[i+n+j]? = some v→(cs.drop n)[j]? = some x→dl M v x:=by
     intro zs cs h j v x Z af;rw [List.getElem?_drop]at af;exact h (n+j) v x (by rw [←Nat.add_assoc];exact Z) af
    rw [bB]at S9;have im:=bc (i:=i+n) S9 e2 (S' ay) (S' hu) (by simp;omega) (by simp;omega)
    simp only [Op.eqFields];rw [if_pos jl];simp only [Sem.run_bind,pM,Result.andThen_ok,hin];cases ah
    ·simp [←e3]
    ·simp [←e3,im]
   ·have v8:tc P (q+1) (i+1) cG=true∧(isAgg f.type).run P w = .ok false w:=by
     simp only [isAgg,Sem.run_bind];split at gC
     ·rename_i k hk;refine⟨gC,?_⟩;rw [Go.run_underlying hk];rfl
     ·rename_i hk;refine⟨gC,?_⟩;rw [Go.run_underlying hk];rfl
     ·rename_i hk;refine⟨gC,?_⟩;rw [Go.run_underlying hk];rfl
     ·rename_i gs hk;exact absurd ⟨gs,hk⟩ dS
     ·cases gC
    exact S7 cj rX jl v8.2 (by rw [Df,S6 cj (λgs h=>dS ⟨gs,h⟩)]at he;exact he) ay hu jW pK λq' zb zc oK nU JI Z af=>bc v8.1 oK nU JI Z af
def S_(cj:e7 P tt=true){t:TypeId}{cG:List (Nat×TypeId×Nat)}{fK jR:Nat}{z:List V}{l5:List (Nat×TypeId)}(ag:look tt t=some {k:=.b9 cG,size:=fK,bytes:=jR,zero:=z,jd:=l5})(he:IP P t=true){xs ys:List V}{r:Bool}(ak:iB (lY tt 4 cG) xs ys=some r)
 {hy qT:Value} (ay:dl M hy (.agg xs)) (hu:dl M qT (.agg ys)):∃vs us,hy = .agg ⟨vs⟩∧qT = .agg ⟨us⟩∧(Op.equalIn 10000 t (.agg ⟨vs⟩) (.agg ⟨us⟩)).run P w = .ok r w∧∀op a b,(eqGuard op t a b (.agg ⟨vs⟩) (.agg ⟨us⟩)).run P w = .ok () w:=by
 obtain⟨row⟩:=et cj ag;cases ay with
 |agg vs _ hn Z fM=>
  cases hu with
  |agg us _ CS mv adP=>
   refine⟨vs,us,rfl,rfl,?_⟩
   unfold IP at he;split at he
   case h_2=>cases he
   rename_i za nX;simp only [Bool.and_eq_true,Bool.not_eq_true']at he;obtain⟨⟨af,au⟩,aQ⟩:=he;have zd:P.fieldsOf t=za:=by simp [Program.fieldsOf,nX]
   have JJ:row.desc = .struct za:=Option.some.inj (row.hd.symm.trans nX)
   have nb:cG=za.toList.map λf=>(f.offset,f.type,P.cellsOf f.type):=by
    have:=row.hk
    rw [JJ]at this;simp [kR]at this;exact this.symm
   refine⟨?_,λop a b=>run_eqGuard_agg w op t a b _ _ au⟩
   rw [run_equalIn_agg w 9999 t _ _ (by rw [zd];exact nX) af,zd]
   refine adK cj 4 (d:=9994) (i:=0) (xs:=xs) (ys:=ys) aQ (by rw [nb]at ak;exact ak) (λj v x bj cb=>fM j v x (by simpa using bj) cb) (λj v x bj cb=>adP j v x (by simpa using bj) cb) (by omega) (by omega)
def adQ(h:Hyp P K N M β g tmps w p tt){op:BinOp}{t t2:TypeId}{x y:Operand}(aA:o.op = .binOp op t x y t2)(hs:step1 (gW P) tt ops g p o=some (.go f))(cC:∀q,q∈f.bb→q):Yields P K M β g f o tmps w:=by
 simp only [step1,aA]at hs;split at hs
 case h_3=>cases hs
 case h_1=>
  rename_i xs ys ha hb;have oM:=m_ (d_ (ds:=[]) h.bu h.dM ha);have nZ:=m_ (d_ (ds:=[]) h.bu h.dM hb);split at hs
  case h_2=>cases hs
  rename_i cG fK jR z _ ag;rw [Bool.cond_eq_ite]at hs;split at hs
  case isFalse=>cases hs
  rename_i he;split at hs
  ·rename_i r ak;cases hs;obtain⟨vs,us,e1,e2,Z,af⟩:=S_ (w:=w) (M:=M) h.tt ag he ak oM nZ;exact e8 h.bu (pT aA e1 e2 (af _ _ _) (by rw [run_eql_struct,Z];rfl)) (.v _ _ (.bool _))
  ·rename_i r ak;cases hs;obtain⟨vs,us,e1,e2,Z,af⟩:=S_ (w:=w) (M:=M) h.tt ag he ak oM nZ;exact e8 h.bu (pT aA e1 e2 (af _ _ _) (by rw [run_neq_struct,Z];rfl)) (.v _ _ (.bool _))
  ·cases hs
 rename_i a b ha hb;simp only [Option.map_eq_some_iff]at hs;obtain⟨⟨z,bb⟩,dQ,hs⟩:=hs;cases hs;have oM:=d_ (ds:=[]) h.bu h.dM ha;have nZ:=d_ (ds:=[]) h.bu h.dM hb;unfold RW at dQ;split at dQ
 ·rename_i cS m al n;have e1:=lz oM;have e2:=lz nZ;split at dQ
  ·rename_i z0 hsh;cases dQ;obtain⟨v,ay,ak⟩:=ado (P:=P) (w:=w) (M:=M) (k':=al) hsh cC t;exact e8 h.bu (pT aA e1 e2 (tB (by simp) (by simp)) ay) (.v _ _ ak)
  rw [Bool.cond_eq_ite]at dQ;split at dQ
  case isFalse=>cases dQ
  rename_i hk;simp only [decide_eq_true_eq]at hk;subst hk;obtain⟨v,ay,ak⟩:=adn (P:=P) (w:=w) (M:=M) dQ cC t;exact e8 h.bu (pT aA e1 e2 (tB (by simp) (by simp)) ay) (.v _ _ ak)
 ·have e1:=l3 oM;have e2:=l3 nZ;obtain⟨v,ay,ak⟩:=adp (P:=P) (w:=w) (M:=M) dQ cC t;exact e8 h.bu (pT aA e1 e2 (tB (by simp) (by simp)) ay) (.v _ _ ak)
 ·rename_i b4 hR;have e1:=td oM;have e2:=td nZ;obtain⟨dep,hm⟩:∃d,Op.maxDepth=d+1:=⟨9999,rfl⟩;cases ag:look tt t with
  |none=>rw [ag]at dQ;simp at dQ
  |some aI=>
   rw [ag]at dQ;obtain⟨r⟩:=et h.tt ag;split at dQ<;>cases dQ
   ·rename_i hk;simp at hk
    refine e8 h.bu (v:=.bool (b4 == hR)) (pT aA e1 e2 (tB (by simp) (by simp)) ?_) (.v _ _ (.bool _))
    simp only [binOp,Sem.run_bind];rw [Op.equal,hm,Op.equalIn];simp [r.run_underlying,JC r hk]
   ·rename_i hk;simp at hk
    refine e8 h.bu (v:=.bool (!(b4 == hR))) (pT aA e1 e2 (tB (by simp) (by simp)) ?_) (.v _ _ (.bool _))
    simp only [binOp,Sem.run_bind];rw [Op.equal,hm,Op.equalIn];simp [r.run_underlying,JC r hk]
 ·cases ag:look tt t with
  |none=>rw [ag]at dQ;simp at dQ
  |some aI=>
   rw [ag]at dQ;simp only [Option.map_some]at dQ;obtain⟨r⟩:=et h.tt ag;rw [Bool.cond_eq_ite]at dQ;split at dQ
   case isFalse=>cases dQ
   rename_i hc;simp only [Bool.and_eq_true]at hc
   have Ta:(eqGuard op t x y ((⟨tmps,[]⟩:Act).eval x) ((⟨tmps,[]⟩:Act).eval y)).run P w = .ok () w:=by
    refine tB ?_ (λ_ _=>hc.2)
    rintro cs ds ⟨_,bT⟩
    rw [bT]at nZ;have JK:=hc.1;unfold CI at JK;split at JK<;>first|(cases m_ nZ;done)|(cases JK;done)
   split at dQ<;>cases dQ
   ·rename_i res hn;obtain⟨Z,af⟩:=S1 (w:=w) r oM nZ hc.1 hn;refine e8 h.bu (v:=.bool res) (pT aA rfl rfl Ta ?_) (.v _ _ (.bool _));rw [af .eql];simp [Z]
   ·rename_i res hn;obtain⟨Z,af⟩:=S1 (w:=w) r oM nZ hc.1 hn;refine e8 h.bu (v:=.bool (!res)) (pT aA rfl rfl Ta ?_) (.v _ _ (.bool _));rw [af .neq];simp [Z]
def adR(h:Hyp P K N M β g tmps w p tt){s:TypeId}{x:Operand}{i:Nat}(aA:o.op = .fieldAddr s x i)(hs:step1 cn tt ops g p o=some (.go f)):Yields P K M β g f o tmps w:=by
 simp only [step1,aA]at hs;split at hs
 ·rename_i q off cG fK jR z _ hd ag;obtain⟨r⟩:=et h.tt ag;split at hs
  case h_2=>cases hs
  rename_i c6 hE v_ a';rw [Bool.cond_eq_ite]at hs;split at hs
  case isFalse=>cases hs
  rename_i hc;cases hs;obtain⟨b,hb,ay⟩:=nQ (d_ (ds:=[]) h.bu h.dM hd);refine e8 h.bu (v:=.pointer (some ⟨b,off+c6,none⟩)) ?_ (.ptr _ _ _ hb);simp only [execOp,aA,ay];exact iF _ (Sa r rfl a' (by simpa using hc) b off)
 ·rename_i cs cG fK jR z _ hd ag;obtain⟨r⟩:=et h.tt ag;split at hs
  case h_2=>cases hs
  rename_i c6 hE v_ a';split at hs
  case h_2=>cases hs
  rename_i vQ Dh;rw [Bool.cond_eq_ite]at hs;split at hs
  case isFalse=>cases hs
  rename_i hc;simp only [Bool.and_eq_true,Nat.ble_eq]at hc;obtain⟨b,off,val,ay,c7,Z,ak⟩:=CU (d_ (ds:=[]) h.bu h.dM hd)
  have eM:(execOp (Act.eval ⟨tmps,[]⟩) o).run P w = .ok (.value (.pointer (some ⟨b,off+c6,none⟩))) w:=by
   simp only [execOp,aA,ay];exact iF _ (Sa r rfl a' hc.1 b off)
  simp only [V.cells]at c7 Z ak;rw [Bool.cond_eq_ite]at hs;split at hs
  ·cases hs;have hlen:((cs.drop c6).take v_).length=v_:=by simp;omega
   refine e8 h.bu eM (.eY b (off+c6) _ (λj=>val (c6+j)) (λj hj=>?_) (λj hj=>?_) (λj c hj=>?_))
   ·simp only [V.cells,hlen]at hj;rw [Nat.add_assoc];exact c7 _ (by omega)
   ·simp only [V.cells,hlen]at hj;exact Z _ (by omega)
   ·simp only [V.cells]at hj;rw [List.getElem?_take]at hj;split at hj
    ·rw [List.getElem?_drop]at hj;exact ak _ c hj
    ·cases hj
  ·rw [Bool.cond_eq_ite]at hs;split at hs
   case isFalse=>cases hs
   rename_i el;split at hs
   case h_2=>cases hs
   rename_i c jB;rw [Bool.cond_eq_ite]at hs;split at hs
   ·cases hs
   ·rename_i adS;cases hs;have lB:=vP (x:=c) (by simpa using adS)
    refine e8 h.bu eM (.eY b (off+c6) c (λj=>val (c6+j)) (λj hj=>?_) (λj hj=>?_) (λj ht hj=>?_))
    ·rw [lB]at hj;rw [Nat.add_assoc];exact c7 _ (by have:=(List.getElem?_eq_some_iff.1 jB).1;simp at hj;omega)
    ·rw [lB]at hj;exact Z _ (by have:=(List.getElem?_eq_some_iff.1 jB).1;simp at hj;omega)
    ·rw [lB]at hj;cases j with
     |zero=>simp at hj;subst hj;exact ak _ _ jB
     |succ j=>simp at hj
 ·cases hs
def adT(h:Hyp P K N M β g tmps w p tt){s:TypeId}{x:Operand}{i:Nat}(aA:o.op = .field s x i)(hs:step1 cn tt ops g p o=some (.go f)):Yields P K M β g f o tmps w:=by
 simp only [step1,aA]at hs;split at hs
 case h_3=>cases hs
 case h_2=>
  rename_i cs cG fK jR z _ hd ag;obtain⟨r⟩:=et h.tt ag;split at hs
  case h_2=>cases hs
  rename_i c6 hE v_ a';split at hs
  case h_2=>cases hs
  rename_i vQ c Dh jB;obtain⟨JL⟩:=et h.tt Dh;rw [Bool.cond_eq_ite]at hs;split at hs
  ·cases hs
  rename_i hc;simp only [Bool.or_eq_true,not_or,Bool.not_eq_true,Bool.not_eq_true',Bool.not_eq_false,Nat.beq_eq]at hc;cases hs;have lk:=d_ (ds:=[]) h.bu h.dM hd;generalize tC:(⟨tmps,[]⟩:Act).eval x=hy at lk
  cases lk with
  |agg vs _ hn Z ak=>
   have c':c6<cs.length:=(List.getElem?_eq_some_iff.1 jB).1;have eF:vs[c6]? = some vs[c6]:=List.getElem?_eq_getElem (by omega)
   obtain⟨ha,hb⟩:=Sb (w:=w) r rfl a' JL vs (by omega)
   refine e8 h.bu (v:=vs[c6]) ?_ (ak _ _ c eF jB);simp only [execOp,aA,tC];exact iF _ (hb hc.1.1 _ eF)
 rename_i cs cG fK jR z _ hd ag;obtain⟨r⟩:=et h.tt ag;split at hs
 case h_2=>cases hs
 rename_i c6 hE v_ a';split at hs
 case h_2=>cases hs
 rename_i vQ Dh;obtain⟨JL⟩:=et h.tt Dh;rw [Bool.cond_eq_ite]at hs;split at hs
 case isFalse=>cases hs
 rename_i hc;simp only [Nat.ble_eq]at hc;obtain⟨vs,ay,hlen,Z,ak⟩:=acr (d_ (ds:=[]) h.bu h.dM hd);obtain⟨ha,hb⟩:=Sb (w:=w) r rfl a' JL vs (by omega)
 rw [Bool.cond_eq_ite]at hs;split at hs
 ·rename_i hv;cases hs;refine e8 h.bu (v:=.agg ⟨(vs.drop c6).take v_⟩) ?_ (.v _ _ (.agg _ _ (by simp;omega) (λv ay=>Z v (List.mem_of_mem_drop (List.mem_of_mem_take ay))) (λj v c ay jA=>?_)))
  ·simp only [execOp,aA,ay];exact iF _ (ha hv)
  ·rw [List.getElem?_take]at ay jA;split at ay
   ·rename_i hj;rw [if_pos hj,List.getElem?_drop]at jA;rw [List.getElem?_drop]at ay;exact ak _ v c ay jA
   ·cases ay
 ·rename_i hv;split at hs
  case h_2=>cases hs
  rename_i c jB;cases hs;have c':c6<cs.length:=(List.getElem?_eq_some_iff.1 jB).1;have eF:vs[c6]? = some vs[c6]:=List.getElem?_eq_getElem (by omega)
  refine e8 h.bu (v:=vs[c6]) ?_ (.v _ _ (ak _ _ c eF jB));simp only [execOp,aA,ay];exact iF _ (hb (by simpa using hv) _ eF)
def adU{x y:V}(ay:gH x y){k b off:Nat}{val:Nat→Value}(hk:x.cells.length=k)(c7:∀q,q<k→M b (off+q)=some (val q))(Z:∀q,q<k→(val q).oneCell'=true)
 (ak:∀(q:Nat) c,x.cells[q]? = some c→dl M (val q) c):cz M β (.pointer (some ⟨b,off,none⟩)) (.eY y):=by
 subst hk;have cc:=ay M _ (R_ Z ak);cases hx:x.isAgg with
 |true=>
  rw [hx]at cc;simp only [cond_true]at cc;cases cc with
  |agg vs cs hn mv e6=>
   have hlen:cs.length=x.cells.length:=by simpa using hn.symm
   refine .eY b off _ val (λj hj=>c7 j (by simp only [V.cells]at hj;omega)) (λj hj=>Z j (by simp only [V.cells]at hj;omega)) (λj c hj=>?_)
   simp only [V.cells]at hj;have tu:j<x.cells.length:=by have:=(List.getElem?_eq_some_iff.1 hj).1;omega
   exact e6 j (val j) c (by simp [tu]) hj
  |any _ mv=>simp [Value.oneCell']at mv
 |false=>
  rw [hx]at cc;simp only [cond_false]at cc;have wa:=vP hx;have gi:=Z 0 (by rw [wa];simp)
  have adV:y.isAgg=false:=by
   cases y<;>first|rfl|skip
   exfalso
   generalize val 0=u at cc gi
   cases cc;simp [Value.oneCell']at gi
  have JM:=vP adV;refine .eY b off y val (λj hj=>c7 j (by rw [wa];rw [JM]at hj;exact hj)) (λj hj=>Z j (by rw [wa];rw [JM]at hj;exact hj)) (λj c hj=>?_)
  rw [JM]at hj;cases j with
  |zero=>simp at hj;subst hj;exact cc
  |succ j=>simp at hj
def adW(h:Hyp P K N M β g tmps w p tt){t:TypeId}{x i:Operand}(aA:o.op = .indexAddr t x i)(hs:step1 cn tt ops g p o=some (.go f))(cC:∀q,q∈f.bb→q):Yields P K M β g f o tmps w:=by
 simp only [step1,aA]at hs;split at hs
 case h_2=>cases hs
 rename_i k n get kk j e fK jR z _ hx hi ag;obtain⟨r⟩:=et h.tt ag;split at hs
 case h_2=>cases hs
 rename_i al size S2 z2 eG;obtain⟨dT⟩:=et h.tt eG;rw [Bool.cond_eq_ite]at hs;split at hs
 case isFalse=>cases hs
 rename_i hc;simp only [Bool.and_eq_true,Nat.beq_eq,Nat.ble_eq]at hc;obtain⟨rfl,Di⟩:=hc
 have tD:∃(y:V) (rs:List fo) (bb:List Prop),f={e:=some {d:=.eY y},rs,bb}∧gH (get j.toNat) y∧aP j n=true:=by
  split at hs
  ·rename_i y rs eH;cases hs;exact⟨_,_,_,rfl,cC _ (by simp),cC (aP j n=true) (by simp)⟩
  ·cases hs;exact⟨_,_,_,rfl,λ_ _ h=>h,cC (aP j n=true) (by simp)⟩
  ·cases hs
 obtain⟨y,rs,bb,rfl,cN,fp⟩:=tD;have fp:=SX fp;have JN:=lz (d_ (ds:=[]) h.bu h.dM hi);rcases rN (d_ (ds:=[]) h.bu h.dM hx) with⟨_,nd⟩|⟨b,off,cap,val,ay,_,hk,c7,Z,ak⟩
 ·omega
 ·have c':j.toNat<n:=by omega
  have cc:cz M β (.pointer (some ⟨b,off+j.toNat*k,none⟩)) (.eY y):=
   adU cN (hk _ c') (λq aE=>c7 _ q c' aE) (λq aE=>Z _ q c' aE) (λq c aE=>ak _ q c c' aE)
  refine e8 h.bu (v:=.pointer (some ⟨b,off+j.toNat*k,none⟩)) ?_ cc;simp only [execOp,aA,ay,JN];exact iF _ (acv r rfl dT fp.1 fp.2)
def adX(h:Hyp P K N M β g tmps w p tt){t:TypeId}{x i:Operand}(aA:o.op = .index t x i)(hs:step1 cn tt ops g p o=some (.go f))(cC:∀q,q∈f.bb→q):Yields P K M β g f o tmps w:=by
 simp only [step1,aA]at hs;split at hs
 case h_2=>cases hs
 rename_i l kk j fK jR z _ hx hi ag;obtain⟨r⟩:=et h.tt ag;cases hs;have hb:=SX (cC (aP j l.length=true) (by simp))
 have ex:=l3 (d_ (ds:=[]) h.bu h.dM hx);have JN:=lz (d_ (ds:=[]) h.bu h.dM hi);refine e8 h.bu (v:=.int .u8 (l.getD j.toNat 0).toNat) ?_ (.v _ _ (.int _ _));simp only [execOp,aA,ex,JN];exact iF _ (acw r rfl hb.1 hb.2)
def adY{k n m:Nat}{get:Nat→V}{a:Nat}{b off cap:Nat}
 {val:Nat→Nat→Value} (hk:∀i,i<n→(get i).cells.length=k) (c7:∀i j,i<n→j<k→M b (off+i*k+j)=some (val i j)) (Z:∀i j,i<n→j<k→(val i j).oneCell'=true)
 (ak:∀(i j:Nat) c,i<n→(get i).cells[j]? = some c→dl M (val i j) c) (hm:a+m≤n) (hc:m≤cap):
 dl M (.slice (some ⟨b,off+a*k,none⟩) m cap) (.bL k m λi=>get (a+i)):=by
 refine .bL b (off+a*k) k m cap _ (λi j=>val (a+i) j) hc (λi hi=>hk _ (by omega)) (λi j hi hj=>?_) (λi j hi hj=>Z _ _ (by omega) hj) (λi j c hi lB=>ak _ _ _ (by omega) lB)
 have:=c7 (a+i) j (by omega) hj
 rw [Nat.add_mul]at this
 rwa [show off+a*k+i*k+j=off+(a*k+i*k)+j by omega]
def Dj{t e:TypeId}{aI ct:eE}(r:Row P t aI)(hk:aI.k = .bL e)(dT:Row P e ct){base:Option Addr}{n cap:Nat}{lo hi:Option Value}{a b:Nat}
 (jC:lo=none∧a=0∨∃k,lo=some (.int k a)) (iT:hi=none∧b=n∨∃k,hi=some (.int k b)) (l7:a≤b) (pU:b≤n) (l8:n≤cap):
 (Instr.sliceAt t (.slice base n cap) lo hi none).run P w = .ok (.slice (if cap=a then base else base.map (·.add (a*ct.size))) (b-a) (cap-a)) w:=by
 have hu:=r.run_underlying w;rw [oH r hk]at hu;have Dk:b≤cap:=by omega
 rcases jC with⟨rfl,rfl⟩|⟨cS,rfl⟩<;>rcases iT with⟨rfl,rfl⟩|⟨al,rfl⟩
 ·simp [Instr.sliceAt,hu,Instr.slice,Instr.sliceBounds,dT.run_sizeOf]
 ·simp [Instr.sliceAt,hu,Instr.slice,Instr.sliceBounds,Instr.sliceBound,asIntOf,dT.run_sizeOf,Dk]
 ·simp [Instr.sliceAt,hu,Instr.slice,Instr.sliceBounds,Instr.sliceBound,asIntOf,dT.run_sizeOf,l7]
 ·simp [Instr.sliceAt,hu,Instr.slice,Instr.sliceBounds,Instr.sliceBound,asIntOf,dT.run_sizeOf,Dk,l7]
end
section
variable {P:Program} {K:Ctx} {N:Nat} {M:Mem} {β:Nat→Option Nat} {st:aJ} {g:di} {tmps:Array Value} {w:World} {o:Oper} {f:kN} {p:Path} {tt:dx} {cn:gg} {ops:List Oper}
def qU{t:TypeId}{x:Operand}{lo hi jw:Option Operand}(aA:o.op = .slice t x lo hi jw){v u:Value}(hx:(⟨tmps,[]⟩:Act).eval x=v){a b:Option Value}(ha:lo.map (⟨tmps,[]⟩:Act).eval=a)(hb:hi.map (⟨tmps,[]⟩:Act).eval=b){c:Option Value}(hm:jw.map (⟨tmps,[]⟩:Act).eval=c)
 (h:(Instr.sliceAt t v a b c).run P w = .ok u w):(execOp (Act.eval ⟨tmps,[]⟩) o).run P w = .ok (.value u) w:=by
 simp only [execOp,aA,hx,ha,hb,hm];exact iF _ h
def Dl{t:TypeId}{aI:eE}(r:Row P t aI)(hk:aI.k = .str){l:ap0}{lo hi:Option Value}{a b:Nat}
 (jC:lo=none∧a=0∨∃k,lo=some (.int k a)) (iT:hi=none∧b=l.length∨∃k,hi=some (.int k b)) (l7:a≤b) (pU:b≤l.length):
 (Instr.sliceAt t (.string ⟨⟨l⟩⟩) lo hi none).run P w = .ok (.string ⟨⟨(l.take b).drop a⟩⟩) w:=by
 have hu:=r.run_underlying w;rw [pH r hk]at hu;have hs:(⟨⟨l⟩⟩:ByteArray).size=l.length:=rfl
 have hx:(⟨⟨l⟩⟩:ByteArray).extract a b=⟨⟨(l.take b).drop a⟩⟩:=by
  have:=ByteArray.extract_mk l a b
  rw [List.drop_take];exact this
 rcases jC with⟨rfl,rfl⟩|⟨cS,rfl⟩<;>rcases iT with⟨rfl,rfl⟩|⟨al,rfl⟩
 ·simp [Instr.sliceAt,hu,Instr.slice,Instr.sliceBounds]
 ·simp [Instr.sliceAt,hu,Instr.slice,Instr.sliceBounds,Instr.sliceBound,asIntOf,pU,hs,hx]
 ·simp [Instr.sliceAt,hu,Instr.slice,Instr.sliceBounds,Instr.sliceBound,asIntOf,l7,hs,hx]
 ·simp [Instr.sliceAt,hu,Instr.slice,Instr.sliceBounds,Instr.sliceBound,asIntOf,pU,l7,hs,hx]
def ze{v:Value}{k n:Nat}{get:Nat→V}(ay:cz M β v (.v (.bL k n get))){a b:Nat}(l7:a≤b)(pU:b≤n){base:Option Addr}{cap:Nat}(tE:v = .slice base n cap)(l8:n≤cap):
 dl M (.slice (if cap=a then base else base.map (·.add (a*k))) (b-a) (cap-a)) (.bL k (b-a) λi=>get (a+i)):=by
 rcases rN ay with⟨Z|⟨a0,Z⟩,af⟩|⟨nW,off,SH,val,Z,hc,hk,c7,mv,ak⟩
 ·rw [tE]at Z;cases Z;have:b=0:=by omega
  subst this;have:a=0:=by omega
  subst this;exact .lb _ _
 ·rw [tE]at Z;cases Z;have:b=0:=by omega
  subst this;have:a=0:=by omega
  subst this;exact .nL _ _ _
 ·rw [tE]at Z;cases Z;by_cases Tb:cap=a
  ·rw [if_pos Tb];have:b-a=0:=by omega
   rw [this];exact .bL nW off k 0 _ _ (λ_ _=>undef) (Nat.zero_le _) (by simp) (by simp) (by simp) (by simp)
  ·rw [if_neg Tb];simp only [Option.map_some,addr_add];exact adY hk c7 mv ak (by omega) (by omega)
def adZ(h:Hyp P K N M β g tmps w p tt){t:TypeId}{x:Operand}{lo hi jw:Option Operand}(aA:o.op = .slice t x lo hi jw)(hs:step1 cn tt ops g p o=some (.go f))(cC:∀q,q∈f.bb→q):Yields P K M β g f o tmps w:=by
 have fF:∀{y:Option Operand} {kk:IntKind} {n:Int},y.map (λy=>rd g.env g.b0 p tt o.type y)=some (some (.v (.int kk n)))→y.map (⟨tmps,[]⟩:Act).eval=some (.int kk n):=by
  intro y kk n cc;cases y with
  |none=>simp at cc
  |some y=>
   simp at cc
   simp [lz (d_ (ds:=[]) h.bu h.dM cc)]
 have rY:∀{y:Option Operand},y.map (λy=>rd g.env g.b0 p tt o.type y)=none→y.map (⟨tmps,[]⟩:Act).eval=none:=by
  intro y cc;simp at cc;simp [cc]
 simp only [step1,aA]at hs;split at hs
 ·rename_i fK jR z _ ag;obtain⟨r⟩:=et h.tt ag;split at hs
  ·rename_i l hx jC iT;cases hs;have ex:=l3 (d_ (ds:=[]) h.bu h.dM hx);have:=Dl (w:=w) r rfl (l:=l) (lo:=none) (hi:=none) (a:=0) (b:=l.length) (.inl ⟨rfl,rfl⟩) (.inl ⟨rfl,rfl⟩) (by omega) (by omega)
   simp at this
   exact e8 h.bu (qU aA ex (rY jC) (rY iT) rfl this) (.v _ _ (.str _))
  ·rename_i l cS a hx jC iT;cases hs;have ex:=l3 (d_ (ds:=[]) h.bu h.dM hx);have hb:=rU (cC (gP a l.length=true) (by simp))
   obtain⟨dU,rfl⟩:=Int.eq_ofNat_of_zero_le hb.1;have:=Dl (w:=w) r rfl (l:=l) (lo:=some (.int cS dU)) (hi:=none) (a:=dU) (b:=l.length) (.inr ⟨_,rfl⟩) (.inl ⟨rfl,rfl⟩) (by omega) (by omega)
   simp at this
   exact e8 h.bu (qU aA ex (fF jC) (rY iT) rfl this) (.v _ _ (.str _))
  ·rename_i l al b hx jC iT;cases hs;have ex:=l3 (d_ (ds:=[]) h.bu h.dM hx);have hb:=rU (cC (gP b l.length=true) (by simp))
   obtain⟨bK,rfl⟩:=Int.eq_ofNat_of_zero_le hb.1;have:=Dl (w:=w) r rfl (l:=l) (lo:=none) (hi:=some (.int al bK)) (a:=0) (b:=bK) (.inl ⟨rfl,rfl⟩) (.inr ⟨_,rfl⟩) (by omega) (by omega)
   simp at this
   exact e8 h.bu (qU aA ex (rY jC) (fF iT) rfl this) (.v _ _ (.str _))
  ·rename_i l cS a al b hx jC iT;cases hs;have ex:=l3 (d_ (ds:=[]) h.bu h.dM hx);have hb:=SY (cC (nK a b l.length=true) (by simp))
   obtain⟨dU,rfl⟩:=Int.eq_ofNat_of_zero_le hb.1;obtain⟨bK,rfl⟩:=Int.eq_ofNat_of_zero_le (a:=b) (by omega)
   have:=Dl (w:=w) r rfl (l:=l) (lo:=some (.int cS dU)) (hi:=some (.int al bK)) (a:=dU) (b:=bK) (.inr ⟨_,rfl⟩) (.inr ⟨_,rfl⟩) (by omega) (by omega)
   exact e8 h.bu (qU aA ex (fF jC) (fF iT) rfl this) (.v _ _ (.str _))
  ·cases hs
 ·rename_i e fK jR z _ ag;obtain⟨r⟩:=et h.tt ag;split at hs
  ·rename_i cS size zf kw k n get al a eG hx jC iT;obtain⟨dT⟩:=et h.tt eG;rw [Bool.cond_eq_ite]at hs;split at hs
   case isFalse=>cases hs
   rename_i hI;simp only [Nat.beq_eq]at hI;subst hI
   have tD:∃(y:V) (rs:List fo) (bb:List Prop),f={e:=some {d:=.v y},rs,bb}∧gH (.bL k (n-a.toNat) λi=>get (a.toNat+i)) y∧gP a n=true:=by
    split at hs
    ·rename_i y rs eH;cases hs;exact⟨_,_,_,rfl,cC _ (by simp),cC (gP a n=true) (by simp)⟩
    ·cases hs;exact⟨_,_,_,rfl,λ_ _ h=>h,cC (gP a n=true) (by simp)⟩
    ·cases hs
   obtain⟨y,rs,bb,rfl,ay,hb⟩:=tD;have hb:=rU hb;obtain⟨dU,rfl⟩:=Int.eq_ofNat_of_zero_le hb.1;have kT:=d_ (ds:=[]) h.bu h.dM hx;obtain⟨base,cap,ex,l8⟩:=te kT;have:=Dj (w:=w) r rfl dT (base:=base) (n:=n) (cap:=cap) (lo:=some (.int al dU)) (hi:=none) (a:=dU) (b:=n) (.inr ⟨_,rfl⟩) (.inl ⟨rfl,rfl⟩) (by omega) (by omega) l8
   refine e8 h.bu (qU aA ex (fF jC) (rY iT) rfl this) (.v _ _ (ay _ _ ?_));have:=ze kT (a:=dU) (b:=n) (by omega) (by omega) ex l8
   simpa using this
  ·rename_i cS size zf kw k n get al b eG hx jC iT;obtain⟨dT⟩:=et h.tt eG;rw [Bool.cond_eq_ite]at hs;split at hs
   case isFalse=>cases hs
   rename_i hI;simp only [Nat.beq_eq]at hI;subst hI
   have tD:∃(y:V) (rs:List fo) (bb:List Prop),f={e:=some {d:=.v y},rs,bb}∧gH (.bL k b.toNat get) y∧gP b n=true:=by
    split at hs
    ·rename_i y rs eH;cases hs;exact⟨_,_,_,rfl,cC _ (by simp),cC (gP b n=true) (by simp)⟩
    ·cases hs;exact⟨_,_,_,rfl,λ_ _ h=>h,cC (gP b n=true) (by simp)⟩
    ·cases hs
   obtain⟨y,rs,bb,rfl,ay,hb⟩:=tD;have hb:=rU hb;obtain⟨bK,rfl⟩:=Int.eq_ofNat_of_zero_le hb.1;have kT:=d_ (ds:=[]) h.bu h.dM hx;obtain⟨base,cap,ex,l8⟩:=te kT;have:=Dj (w:=w) r rfl dT (base:=base) (n:=n) (cap:=cap) (lo:=none) (hi:=some (.int al bK)) (a:=0) (b:=bK) (.inl ⟨rfl,rfl⟩) (.inr ⟨_,rfl⟩) (by omega) (by omega) l8
   refine e8 h.bu (qU aA ex (rY jC) (fF iT) rfl this) (.v _ _ (ay _ _ ?_));have:=ze kT (a:=0) (b:=bK) (by omega) (by omega) ex l8
   simpa using this
  ·rename_i cS size zf kw k n get al a eP b eG hx jC iT;obtain⟨dT⟩:=et h.tt eG;rw [Bool.cond_eq_ite]at hs;split at hs
   case isFalse=>cases hs
   rename_i hI;simp only [Nat.beq_eq]at hI;subst hI
   have tD:∃(y:V) (rs:List fo) (bb:List Prop),f={e:=some {d:=.v y},rs,bb}∧gH (.bL k (b.toNat-a.toNat) λi=>get (a.toNat+i)) y∧nK a b n=true:=by
    split at hs
    ·rename_i y rs eH;cases hs;exact⟨_,_,_,rfl,cC _ (by simp),cC (nK a b n=true) (by simp)⟩
    ·cases hs;exact⟨_,_,_,rfl,λ_ _ h=>h,cC (nK a b n=true) (by simp)⟩
    ·cases hs
   obtain⟨y,rs,bb,rfl,ay,hb⟩:=tD;have hb:=SY hb;obtain⟨dU,rfl⟩:=Int.eq_ofNat_of_zero_le hb.1;obtain⟨bK,rfl⟩:=Int.eq_ofNat_of_zero_le (a:=b) (by omega)
   have kT:=d_ (ds:=[]) h.bu h.dM hx;obtain⟨base,cap,ex,l8⟩:=te kT;have:=Dj (w:=w) r rfl dT (base:=base) (n:=n) (cap:=cap) (lo:=some (.int al dU)) (hi:=some (.int eP bK)) (a:=dU) (b:=bK) (.inr ⟨_,rfl⟩) (.inr ⟨_,rfl⟩) (by omega) (by omega) l8
   refine e8 h.bu (qU aA ex (fF jC) (fF iT) rfl this) (.v _ _ (ay _ _ ?_));have:=ze kT (a:=dU) (b:=bK) (by omega) (by omega) ex l8
   simpa using this
  ·rename_i cS size zf kw k n get eG hx jC iT;obtain⟨dT⟩:=et h.tt eG;rw [Bool.cond_eq_ite]at hs;split at hs
   case isFalse=>cases hs
   rename_i hI;simp only [Nat.beq_eq]at hI;subst hI;cases hs;have kT:=d_ (ds:=[]) h.bu h.dM hx;obtain⟨base,cap,ex,l8⟩:=te kT;have:=Dj (w:=w) r rfl dT (base:=base) (n:=n) (cap:=cap) (lo:=none) (hi:=none) (a:=0) (b:=n) (.inl ⟨rfl,rfl⟩) (.inl ⟨rfl,rfl⟩) (by omega) (by omega) l8
   refine e8 h.bu (qU aA ex (rY jC) (rY iT) rfl this) (.v _ _ ?_);have:=ze kT (a:=0) (b:=n) (by omega) (by omega) ex l8
   simpa using this
  ·cases hs
 ·rename_i m e fK jR z _ ag;obtain⟨r⟩:=et h.tt ag;split at hs
  case h_2=>cases hs
  rename_i size zf kw k n get al b eP c eG hx iT hm;obtain⟨dT⟩:=et h.tt eG;rw [Bool.cond_eq_ite]at hs;split at hs
  case isFalse=>cases hs
  rename_i hI;simp only [Nat.beq_eq]at hI;subst hI;cases hs;have Dk:=cC (b=c) (by simp)
  subst Dk;have hb:=rU (cC (gP b n=true) (by simp))
  obtain⟨bK,rfl⟩:=Int.eq_ofNat_of_zero_le hb.1;have kT:=d_ (ds:=[]) h.bu h.dM hx;obtain⟨base,cap,ex,l8⟩:=te kT;have pU:bK≤n:=by omega
  have hu:=r.run_underlying w;rw [oH r rfl]at hu
  have eM:(Instr.sliceAt t (.slice base n cap) none (some (.int al bK)) (some (.int eP bK))).run P w = .ok (.slice (if bK=0 then base else base.map (·.add (0*k))) bK bK) w:=by
   have Z:bK≤cap:=by omega
   simp [Instr.sliceAt,hu,Instr.slice,Instr.sliceBounds,Instr.sliceBound,asIntOf,dT.run_sizeOf,Z]
  have ad0:(if bK=0 then base else base.map (·.add (0*k)))=base:=by
   split
   ·rfl
   ·cases base with
    |none=>rfl
    |some a=>simp [Addr.add]
  rw [ad0]at eM;have em:(some m).map (⟨tmps,[]⟩:Act).eval=some (.int eP bK):=fF (y:=some m) hm;refine e8 h.bu (qU aA ex rfl (fF iT) em eM) (.full base k _ get ?_);have Tc:=ze kT (a:=0) (b:=bK) (by omega) pU ex l8
  simp only [Nat.sub_zero]at Tc ⊢;have Td:dl M (.slice (if cap=0 then base else base.map (·.add (0*k))) bK cap) (.bL k bK get):=by simpa using Tc
  have fp:(if cap=0 then base else base.map (·.add (0*k)))=base:=by
   split
   ·rfl
   ·cases base with
    |none=>rfl
    |some a=>simp [Addr.add]
  rw [fp]at Td;cases Td with
  |lb=>exact .lb _ _
  |nL a=>exact .nL _ _ _
  |bL s4 off k n cap get val hc hk c7 Z h=>exact .bL s4 off k _ _ get val (Nat.le_refl _) hk c7 Z h
 ·cases hs
def Te{c:Call}(aA:o.op = .call c)(hc:c.callee = .builtin .len){a:Operand}(eZ:c.args.toList=[a]){t:TypeId}(gC:c.argTypes.toList[0]? = some t){hy v:Value}(ha:(⟨tmps,[]⟩:Act).eval a=hy)
 (h:∀ty,(Builtin.len_ #[t] ty #[hy]).run P w = .ok v w):(execOp (Act.eval ⟨tmps,[]⟩) o).run P w = .ok (.value v) w:=by
 have tl:c.args = #[a]:=by apply Array.ext';simpa using eZ
 have Jk:∀ty,(Builtin.len_ c.argTypes ty #[hy]).run P w = .ok v w:=by
  intro ty;have h0:c.argTypes[0]? = some t:=by simpa using gC
  have:=h ty
  simp only [Builtin.len_,h0]at this ⊢;exact this
 simp only [execOp,aA,resolve,hc,tl,Sem.run_bind,Sem.run_pure,Result.andThen_ok,invoke,builtin,List.map_toArray,List.map_cons,List.map_nil,ha];simp [Jk]
def Tf{F:Nat→Option Nat}{l cL:List D}(h:kO F l=some cL):cL.length=l.length:=(vF h).1.symm
def ad1 {c : Call} (aA : o.op = .call c) {x : Operand} (hc : c.callee = .value x) {fn : FuncId} {vs : List Value} (hx : (⟨tmps, []⟩ : Act).eval x = .func (.func fn) #[] ⟨vs⟩) {fd : Func} (a' : P.funcs[fn]? = some fd) (hb : fd.body.isSome = true) (hn : fd.name ≠ "runtime.NumGoroutine") :
 (execOp (Act.eval ⟨tmps,[]⟩) o).run P w = .ok (.enter fn ⟨c.args.toList.map (⟨tmps,[]⟩:Act).eval++vs⟩) w:=by
 have pU:fd.body≠none:=by intro bz;rw [bz]at hb;cases hb
 simp [execOp,aA,resolve,hc,hx,Deferred.ofValue,invoke,callFunc,a',pU,hn]
def Tg{F:TypeId→Operand→Option D}:∀{xs:List Operand} {ts:List TypeId} {ds:List D},la F xs ts=some ds→ds.length=xs.length∧∀(i:Nat) x d,xs[i]? = some x→ds[i]? = some d→∃t,F t x=some d
 |[],ts,ds,h=>by simp [la]at h;subst h;simp
 |x::xs,[],ds,h=>by simp [la]at h
 |x::xs,t::ts,ds,h=>by
  simp only [la]at h;split at h
  case h_2=>cases h
  rename_i d ad2 hd hG;cases h;obtain⟨Z,af⟩:=Tg hG;refine⟨by simp [Z],λi y e cc he=>?_⟩
  cases i with
  |zero=>simp at cc he;subst cc;subst he;exact⟨t,hd⟩
  |succ i=>simp at cc he;exact af i y e cc he
mutual
def Th{ρ:List Nat}:∀(d:D) {ei:D},ey (idx ρ) d=some ei→ey (λj=>ρ[j]?) ei=some d
 |.v x,ei,h=>by simp [ey]at h;subst h;simp [ey]
 |.ptr r off,ei,h=>by
  simp only [ey,Option.map_eq_some_iff]at h;obtain⟨j,hj,rfl⟩:=h;simp [ey,C8 hj]
 |.cx r off u,ei,h=>by
  simp only [ey,Option.map_eq_some_iff]at h;obtain⟨j,hj,rfl⟩:=h;simp [ey,C8 hj]
 |.eY x,ei,h=>by simp [ey]at h;subst h;simp [ey]
 |.full k n get,ei,h=>by simp [ey]at h;subst h;simp [ey]
 |.fn g fb,ei,h=>by
  simp only [ey,Option.map_eq_some_iff]at h;obtain⟨l,ag,rfl⟩:=h;simp [ey,Dm fb ag]
 |.agg cs,ei,h=>by
  simp only [ey,Option.map_eq_some_iff]at h;obtain⟨l,ag,rfl⟩:=h;simp [ey,Dm cs ag]
 |.cp cs,ei,h=>by
  simp only [ey,Option.map_eq_some_iff]at h;obtain⟨l,ag,rfl⟩:=h;simp [ey,Dm cs ag]
def Dm{ρ:List Nat}:∀(l:List D) {cL:List D},kO (idx ρ) l=some cL→kO (λj=>ρ[j]?) cL=some l
 |[],cL,h=>by simp [kO]at h;subst h;simp [kO]
 |d::l,cL,h=>by
  simp only [kO]at h;split at h
  case h_2=>cases h
  rename_i d1 gv hd ag;cases h;simp [kO,Th d hd,Dm l ag]
end
def Ti{ρ:List Nat}:∀{b bK:List aZ},mt (idx ρ) b=some bK→mt (λj=>ρ[j]?) bK=some b
 |[],bK,h=>by simp [mt]at h;subst h;simp [mt]
 |e::l,bK,h=>by
  simp only [mt]at h;split at h
  case h_2=>cases h
  rename_i e1 gv he ag;cases h;simp only [CJ,Option.map_eq_some_iff]at he;obtain⟨d,hd,rfl⟩:=he;simp [mt,CJ,Th _ hd,Ti ag]
def Tj{ρ:List Nat}:∀{bs oL:List (List aZ)},jv (idx ρ) bs=some oL→jv (λj=>ρ[j]?) oL=some bs
 |[],oL,h=>by simp [jv]at h;subst h;simp [jv]
 |b::l,oL,h=>by
  simp only [jv]at h;split at h
  case h_2=>cases h
  rename_i b4 gv hb ag;cases h;simp [jv,Ti hb,Tj ag]
def ad3{st:aJ}(h:bN P K M β st tmps w){ρ:List Nat}{bs H1:List (List aZ)}(hn:mu ρ=true)(kv:boxes st.H ρ=some bs)(lC:jv (idx ρ) bs=some H1)
 {os:List Nat} {out:Out} {v:Value} {w':World} {M':Mem} {β':Nat→Option Nat} (iI:bN P (jU M β st tmps w ρ os) M' β' {env:=hF out,H:=c8 0 H1,a8:=ρ.length} #[v] w'):
 M.le M'∧bN P K M' β {st with env:=gu os st.env} tmps w'∧
 (∀d own,out = .ret d own→∀ei,ey (λj=>ρ[j]?) d=some ei→cz M' β v ei∧∀T l0,own=some T→lZ P K M' β {st with env:=gu os st.env} tmps w' l0 v T)∧
 (∀x,out = .bl x→dl M' v x):=by
 obtain⟨cN,fp⟩:=tq kv;have fr:H1.length=ρ.length:=by rw [(vX lC).1,cN]
 obtain⟨Z,af,au,aQ⟩:=Jx h hn kv (Tj lC) fr iI
 have jV:∀r,look (kP ρ bs++st.H) r=look st.H r:=by
  intro r;obtain⟨bj,cb⟩:=Jq (H:=st.H) (ρ:=ρ) (bs:=bs) cN hn r;by_cases hj:∃(j:Nat),ρ[j]? = some r
  ·obtain⟨j,hj⟩:=hj;rw [bj j hj,(fp j r hj).1]
  ·exact cb λj bz=>hj ⟨j,bz⟩
 have ff:∀l,({env:=gu os st.env,H:=kP ρ bs++st.H,a8:=st.a8}:aJ).at l=({st with env:=gu os st.env}:aJ).at l:=by
  intro l;cases l with
  |slot s=>rfl
  |cell r i=>simp only [aJ.at,jV]
 refine⟨Z,af.sub rfl (λl e ag=>⟨e,by rw [ff];exact ag,rfl,λ_ h=>h⟩) (λr cs ak=>⟨cs,by rw [←ak];exact jV r,rfl⟩),λd own hd ei jO=>?_,aQ⟩
 obtain⟨bj,cb⟩:=au d own hd ei jO;refine⟨bj,λT l0 aS=>?_⟩
 obtain⟨de,dR,gS⟩:=cb T l0 aS;exact⟨de,λl e T' b ag=>dR l e T' b (by rw [ff];exact ag),λb r cs hb ak=>gS b r cs hb (by rw [←ak];exact jV r)⟩
def Tk(P:Program)(K:Ctx)(M:Mem)(β:Nat→Option Nat)(g:di)(s:m6)(o:Oper)(tmps:Array Value)(w:World):Prop:=
 match s with
 |.go f=>(∀q,q∈f.bb→q)→Yields P K M β g f o tmps w
 |.bl x hs bb=>(∀q,q∈bb→q)→adm P K M β g x hs o tmps w
def Tl{os:List Nat}{env:List (Nat×aZ)}{s:Nat}{e:aZ}(h:look env s=some e):∃bR,look (gu os env) s=some bR∧bR.d=e.d:=by
 rw [mw,h];split
 ·exact⟨_,rfl,rfl⟩
 ·exact⟨_,rfl,rfl⟩
def JO{g:di}(h:fx P K N M β g tmps w){xs:List Operand}{ts:List TypeId}:∀{os:List Nat} {hd:List (Nat×Option Nat×TypeId)},handed tt g xs ts os=some hd→∀{vs:List Value},
 (∀(i:Nat) t,xs[i]? = some (.tmp t)→vs[i]? = some (tmps.getD t undef))→(∀(i:Nat),xs[i]? = some (.const (.slice none 0 0))→vs[i]? = some (.slice none 0 0))→
 Handed {env:=g.env,H:=g.H,a8:=g.a8} tmps vs hd
 |[],hd,bz,vs,_,_=>by
  simp [handed]at bz;subst bz;exact⟨by simp,by simp,by simp⟩
 |i::os,hd,bz,vs,Z,af=>by
  simp only [handed]at bz;split at bz
  ·rename_i t l hx ag;have bc:=JO h ag Z af;split at bz
   case h_2=>cases bz
   rename_i d e he;rw [Bool.cond_eq_ite]at bz;split at bz
   case isFalse=>cases bz
   rename_i hc;simp only [Bool.and_eq_true,List.all_eq_true,Bool.not_eq_true']at hc;cases bz;refine⟨λl1 jf T hm=>?_,λl1 T hm=>?_,λl1 tv jf T T' hm jD=>?_⟩
   ·rcases List.mem_cons.1 hm with hm|hm
    ·cases hm;exact⟨_,he,rfl,Z i t hx⟩
    ·exact bc.some l1 jf T hm
   ·rcases List.mem_cons.1 hm with hm|hm
    ·cases hm
    ·exact bc.none l1 T hm
   ·rcases List.mem_cons.1 hm with hm|hm<;>rcases List.mem_cons.1 jD with jD|jD
    ·cases hm;cases jD;rfl
    ·cases hm;have:=(hc.2 _ jD).1
     simp at this
    ·cases jD;have:=(hc.2 _ hm).1
     simp at this
    ·exact bc.inj l1 tv jf T T' hm jD
  ·rename_i l hx ag;have bc:=JO h ag Z af;split at bz
   case h_2=>cases bz
   rename_i e fK jR z _ he;rw [Bool.cond_eq_ite]at bz;split at bz
   case isFalse=>cases bz
   cases bz;refine⟨λl1 jf T hm=>?_,λl1 T hm=>?_,λl1 tv jf T T' hm jD=>?_⟩
   ·rcases List.mem_cons.1 hm with hm|hm
    ·cases hm
    ·exact bc.some l1 jf T hm
   ·rcases List.mem_cons.1 hm with hm|hm
    ·cases hm;exact af i hx
    ·exact bc.none l1 T hm
   ·rcases List.mem_cons.1 hm with hm|hm<;>rcases List.mem_cons.1 jD with jD|jD
    ·cases hm
    ·cases hm
    ·cases jD
    ·exact bc.inj l1 tv jf T T' hm jD
  ·cases bz
def ad4(h:Hyp P K N M β g tmps w p tt){c:Call}(aA:o.op = .call c){x:Operand}(hc:c.callee = .value x){fn:FuncId}{fb ds:List D}(hx:rd g.env g.b0 p tt o.type x=some (.fn fn fb))
 (hG:la (rd g.env g.b0 p tt) c.args.toList c.argTypes.toList=some ds) {s:m6} (hs:vB (gW P) tt g p c.args.toList c.argTypes.toList fn (ds++fb)=some s):
 Tk P K M β g s o tmps w:=by
 obtain⟨vs,ay,hlen,ak⟩:=R' (d_ (ds:=[]) h.bu h.dM hx);obtain⟨gh,jS⟩:=Tg hG
 have eZ:∀(i:Nat) v d,(c.args.toList.map (⟨tmps,[]⟩:Act).eval++vs)[i]? = some v→(ds++fb)[i]? = some d→cz M β v d:=by
  intro i v d eF rV;by_cases hi:i<c.args.toList.length
  ·rw [List.getElem?_append_left (by simpa using hi),List.getElem?_map,Option.map_eq_some_iff]at eF
   obtain⟨y,cc,rfl⟩:=eF;rw [List.getElem?_append_left (by omega)]at rV
   obtain⟨ty,gC⟩:=jS i y d cc rV;exact d_ h.bu h.dM gC
  ·rw [List.getElem?_append_right (by simp;simp at hi;omega)]at eF
   rw [List.getElem?_append_right (by omega)]at rV
   refine ak _ v d eF ?_;rw [gh]at rV;simpa using rV
 have Tm:(c.args.toList.map (⟨tmps,[]⟩:Act).eval++vs).length=(ds++fb).length:=by simp at gh ⊢;omega
 unfold vB at hs
 dsimp only at hs
 generalize li:nN g.H 2 (dedup ((ds++fb).flatMap refs))=ρ at hs
 split at hs
 case h_2=>cases hs
 rename_i out cH os rs eH;split at hs
 case h_2=>cases hs
 rename_i je H1 hd Tn lC tr;rw [Option.bind_eq_some_iff]at lC;obtain⟨bs,kv,lC⟩:=lC;rw [Bool.cond_eq_ite]at hs;split at hs
 ·cases hs
 rename_i To
 have hn:mu ρ=true:=by
  have:(!mu ρ || !(List.isEmpty p||List.isEmpty os))=false:=by simpa using To
  simp only [Bool.or_eq_false_iff,Bool.not_eq_false']at this;exact this.1
 have eL:=JO h.bu tr (vs:=c.args.toList.map (⟨tmps,[]⟩:Act).eval++vs) (λi t bU=>by
  rw [List.getElem?_append_left (by simpa using(List.getElem?_eq_some_iff.1 bU).1),List.getElem?_map,bU];rfl) (λi bU=>by
  rw [List.getElem?_append_left (by simpa using(List.getElem?_eq_some_iff.1 bU).1),List.getElem?_map,bU];rfl)
 have ee:=SO (st:={env:=g.env,H:=g.H,a8:=g.a8}) h.bu.bu hn kv lC Tm eZ Tn eL;have fr:H1.length=ρ.length:=by rw [(vX lC).1,(tq kv).1]
 -- C2 lg contract ad5, aoB lg boxes behind it
 have key:∀{tF:List (List aZ)},gl P fn je (rS hd) H1 out tF→(execOp (Act.eval ⟨tmps,[]⟩) o).run P w = .ok (.enter fn ⟨c.args.toList.map (⟨tmps,[]⟩:Act).eval++vs⟩) w∧
  Calls P fn ⟨c.args.toList.map (⟨tmps,[]⟩:Act).eval++vs⟩ w λe w'=>∃v M' β',e=pO out v∧
   bN P (jU M β {env:=g.env,H:=g.H,a8:=g.a8} tmps w ρ (pR hd)) M' β' {env:=hF out,H:=c8 0 tF,a8:=ρ.length} #[v] w':=by
  intro tF ad6;obtain⟨⟨fd,l4,JP,jl⟩,ad7⟩:=ad6;refine⟨ad1 aA hc ay l4 JP jl,(ad7 _ w _ M _ (by rw [Tm,Tf Tn]) ee (λr b hb=>hb)).mono ?_⟩
  rintro e w' ⟨o',H',v,M',β',⟨rfl,rfl⟩,he,cW⟩
  rw [fr]at cW;exact⟨v,M',β',he,cW⟩
 -- lg boxes as aoC aoD, named aoE and back
 have back:∀{tF ad8:List (List aZ)},jv (λj=>ρ[j]?) tF=some ad8→tF.length=ρ.length→∀{v:Value} {w':World} {M':Mem} {β':Nat→Option Nat},
  bN P (jU M β {env:=g.env,H:=g.H,a8:=g.a8} tmps w ρ (pR hd)) M' β' {env:=hF out,H:=c8 0 tF,a8:=ρ.length} #[v] w'→_:=
  λhx ag _ _ _ _ hp=>Jx (st:={env:=g.env,H:=g.H,a8:=g.a8}) h.bu.bu hn kv hx ag hp
 have Tp:∀{v:Value} {w':World} {M':Mem} {β':Nat→Option Nat},
  bN P (jU M β {env:=g.env,H:=g.H,a8:=g.a8} tmps w ρ (pR hd)) M' β' {env:=hF out,H:=c8 0 H1,a8:=ρ.length} #[v] w'→
  M.le M'∧bN P K M' β {env:=gu (pR hd) g.env,H:=g.H,a8:=g.a8} tmps w'∧
  (∀d own,out = .ret d own→∀ei,ey (λj=>ρ[j]?) d=some ei→cz M' β v ei∧∀T l0,own=some T→lZ P K M' β {env:=gu (pR hd) g.env,H:=g.H,a8:=g.a8} tmps w' l0 v T)∧
  (∀x,out = .bl x→dl M' v x):=by
  intro v w' M' β' hp;exact ad3 (st:={env:=g.env,H:=g.H,a8:=g.a8}) h.bu.bu hn kv lC hp
 cases out with
 |ret d own=>
  cases cH with
  |none=>
   simp only [Option.map_eq_some_iff]at hs;obtain⟨ei,jO,rfl⟩:=hs;intro cC;obtain⟨Z,af⟩:=key (cC _ (List.mem_singleton.2 rfl));refine .inr (.inr ⟨fn,_,Z,af.mono ?_⟩)
   rintro e w' ⟨v,M',β',he,hp⟩
   obtain⟨c7,cW,JQ,_⟩:=Tp hp;refine⟨v,he,M',β,c7,λ_ _ h=>h,λ_ _ h=>.inl h,cW,λe1 oJ=>?_⟩
   cases oJ;exact JQ d own rfl ei jO
  |some cH=>
   dsimp only at hs
   split at hs
   case h_2=>cases hs
   rename_i ei ik jO tz;rw [Bool.cond_eq_ite]at hs;split at hs
   case isFalse=>cases hs
   rename_i ag;cases hs;intro cC;obtain⟨Z,af⟩:=key (cC _ (List.mem_singleton.2 rfl));refine .inr (.inr ⟨fn,_,Z,af.mono ?_⟩)
   rintro e w' ⟨v,M',β',he,hp⟩
   obtain⟨c7,cW,JQ,_⟩:=back tz (by simpa using ag) hp
   refine⟨v,he,M',β,c7,λ_ _ h=>h,λ_ _ h=>.inl h,cW,λe1 oJ=>?_⟩
   cases oJ;exact JQ d own rfl ei jO
 |bl x=>
  cases cH with
  |none=>
   cases hs;intro cC;obtain⟨Z,af⟩:=key (cC _ (List.mem_singleton.2 rfl));refine .inr ⟨fn,_,Z,af.mono ?_⟩
   rintro e w' ⟨v,M',β',he,hp⟩
   obtain⟨c7,cW,_,JR⟩:=Tp hp;exact⟨v,M',he,JR x rfl,cW.oD λs e he=>Tl he⟩
  |some cH=>
   dsimp only at hs
   split at hs
   case h_2=>cases hs
   rename_i ik tz;rw [Bool.cond_eq_ite]at hs;split at hs
   case isFalse=>cases hs
   rename_i ag;cases hs;intro cC;obtain⟨Z,af⟩:=key (cC _ (List.mem_singleton.2 rfl));refine .inr ⟨fn,_,Z,af.mono ?_⟩
   rintro e w' ⟨v,M',β',he,hp⟩
   obtain⟨c7,cW,_,JR⟩:=back tz (by simpa using ag) hp
   exact⟨v,M',he,JR x rfl,cW.oD λs e he=>Tl he⟩
end
section
variable {P:Program} {K:Ctx} {N:Nat} {M:Mem} {β:Nat→Option Nat} {st:aJ} {g:di} {tmps:Array Value} {w:World} {o:Oper} {f:kN} {p:Path} {tt:dx} {ops:List Oper}
def Tq(h:Hyp P K N M β g tmps w p tt){c:Call}(aA:o.op = .call c)(hc:c.callee = .builtin .len){d:D}(hd:mapM' (λy=>rd g.env g.b0 p tt o.type y) c.args.toList=some [d]){aI:eE}
 (ag:(c.argTypes.toList[0]?).bind (look tt)=some aI) {n:Nat} (hk:(∃l,d = .v (.str l)∧aI.k = .str∧n=l.length)∨(∃k get e,d = .v (.bL k n get)∧aI.k = .bL e)):
 Yields P K M β g {e:=some {d:=.v (.int .i64 n)},rs:=g.rs} o tmps w:=by
 obtain⟨gh,jS⟩:=rO hd;rw [Option.bind_eq_some_iff]at ag;obtain⟨t,bU,ag⟩:=ag;obtain⟨r⟩:=et h.tt ag
 obtain⟨a,ha⟩:∃a,c.args.toList=[a]:=by
  cases hJ:c.args.toList with
  |nil=>rw [hJ]at gh;simp at gh
  |cons a l=>
   rw [hJ]at gh;simp at gh
   exact⟨a,by rw [gh]⟩
 have oM:=d_ (ds:=[]) h.bu h.dM (jS 0 a d (by rw [ha];rfl) rfl)
 rcases hk with⟨l,rfl,hk,rfl⟩|⟨k,get,e,rfl,hk⟩
 ·have pS:=l3 oM;refine e8 h.bu (Te aA hc ha bU pS (λty=>?_)) (.v _ _ (.int _ _))
  have hs:(⟨⟨l⟩⟩:ByteArray).size=l.length:=rfl;simp [Builtin.len_,r.run_underlying,pH r hk,goInt,hs]
 ·obtain⟨base,cap,pS,_⟩:=te oM;refine e8 h.bu (Te aA hc ha bU pS (λty=>?_)) (.v _ _ (.int _ _))
  simp [Builtin.len_,r.run_underlying,oH r hk,goInt]
def ad9(h:Hyp P K N M β g tmps w p tt){c:Call}(aA:o.op = .call c)(hc:c.callee = .builtin .min){k:IntKind}{a b:Int}(hd:mapM' (λy=>rd g.env g.b0 p tt o.type y) c.args.toList=some [.v (.int k a),.v (.int k b)]):
 Yields P K M β g {e:=some {d:=.v (.int k (bif decide (b<a)then b else a))},rs:=g.rs} o tmps w:=by
 obtain⟨gh,jS⟩:=rO hd
 obtain⟨x,y,l2⟩:∃x y,c.args.toList=[x,y]:=by
  cases hJ:c.args.toList with
  |nil=>rw [hJ]at gh;simp at gh
  |cons x l=>
   cases l with
   |nil=>rw [hJ]at gh;simp at gh
   |cons y l=>
    rw [hJ]at gh;simp at gh
    exact⟨x,y,by rw [gh]⟩
 have ex:=lz (d_ (ds:=[]) h.bu h.dM (jS 0 x _ (by rw [l2];rfl) rfl))
 have JS:=lz (d_ (ds:=[]) h.bu h.dM (jS 1 y _ (by rw [l2];rfl) rfl))
 have tl:c.args = #[x,y]:=by apply Array.ext';simpa using l2
 refine e8 h.bu (v:=.int k (bif decide (b<a)then b else a)) ?_ (.v _ _ (.int _ _))
 simp only [execOp,aA,resolve,hc,tl,Sem.run_bind,Sem.run_pure,Result.andThen_ok,invoke,builtin,List.map_toArray,List.map_cons,List.map_nil,ex,JS];by_cases l7:b<a<;>simp [Builtin.min_,Builtin.min2,l7]
def ad'(h:Hyp P K N M β g tmps w p tt){c:Call}(aA:o.op = .call c)(hc:c.callee = .builtin .max){k:IntKind}{a b:Int}(hd:mapM' (λy=>rd g.env g.b0 p tt o.type y) c.args.toList=some [.v (.int k a),.v (.int k b)]):
 Yields P K M β g {e:=some {d:=.v (.int k (bif decide (a<b)then b else a))},rs:=g.rs} o tmps w:=by
 obtain⟨gh,jS⟩:=rO hd
 obtain⟨x,y,l2⟩:∃x y,c.args.toList=[x,y]:=by
  cases hJ:c.args.toList with
  |nil=>rw [hJ]at gh;simp at gh
  |cons x l=>
   cases l with
   |nil=>rw [hJ]at gh;simp at gh
   |cons y l=>
    rw [hJ]at gh;simp at gh
    exact⟨x,y,by rw [gh]⟩
 have ex:=lz (d_ (ds:=[]) h.bu h.dM (jS 0 x _ (by rw [l2];rfl) rfl))
 have JS:=lz (d_ (ds:=[]) h.bu h.dM (jS 1 y _ (by rw [l2];rfl) rfl))
 have tl:c.args = #[x,y]:=by apply Array.ext';simpa using l2
 refine e8 h.bu (v:=.int k (bif decide (a<b)then b else a)) ?_ (.v _ _ (.int _ _))
 simp only [execOp,aA,resolve,hc,tl,Sem.run_bind,Sem.run_pure,Result.andThen_ok,invoke,builtin,List.map_toArray,List.map_cons,List.map_nil,ex,JS];by_cases l7:a<b<;>simp [Builtin.max_,Builtin.max2,l7]
def ad_(h:Hyp P K N M β g tmps w p tt){cn:gg}{x:Operand}{s t:TypeId}{ok:Bool}(aA:o.op = .typeAssert x s t ok)(hs:step1 cn tt ops g p o=some (.go f)):Yields P K M β g f o tmps w:=by
 simp only [step1,aA]at hs;split at hs
 case h_2=>cases hs
 rename_i jf y k fK jR z _ hx ag;obtain⟨r⟩:=et h.tt ag;have ak:=d_ (ds:=[]) h.bu h.dM hx;obtain⟨u,ay,hu⟩:=IS ak;have Tr:k ≠ .nJ:=by rintro rfl;simp at hs
 have JJ:∀i,r.desc ≠ .interface i:=by
  intro i hd;have:=r.hk
  rw [hd]at this;simp [kR]at this;exact Tr this.symm
 have fY:(bif Nat.beq jf t then(some (m6.go {e:=some {d:=(bif ok then .cp [.v y,.v (.bool true)]else .v y)},rs:=g.rs}))else none)=some (.go f):=by
  cases k<;>first|exact(Tr rfl).elim|exact hs
 rw [Bool.cond_eq_ite]at fY;split at fY
 case isFalse=>cases fY
 rename_i hb;have bT:jf=t:=by simpa using hb
 subst bT;cases fY
 have eM:(Instr.typeAssert (.iface jf u) s jf ok).run P w = .ok (bif ok then .tuple #[u,.bool true]else u) w:=by
  unfold Instr.typeAssert;simp only [Sem.run_bind,r.run_underlying,Result.andThen_ok];cases hd:r.desc<;>first|exact(JJ _ hd).elim|(cases ok<;>simp)
 refine e8 h.bu (v:=bif ok then .tuple #[u,.bool true]else u) ?_ ?_
 ·simp only [execOp,aA,ay];exact iF _ eM
 ·cases ok
  ·exact .v _ _ hu
  ·refine .cp [u,.bool true] _ rfl λi v c ay hc=>?_
   match i with
   | 0=>simp at ay hc;subst ay;subst hc;exact .v _ _ hu
   | 1=>simp at ay hc;subst ay;subst hc;exact .v _ _ (.bool _)
   |i+2=>simp at ay
def Ts(h:Hyp P K N M β g tmps w p tt){s:m6}(hs:step1 (gW P) tt ops g p o=some s):Tk P K M β g s o tmps w:=by
 cases aA:o.op with
 |move x=>cases s with
  |go f=>exact λ_=>adt h aA hs
  |bl x fY bb=>simp only [step1,aA]at hs;repeat' (first |(split at hs) |(rw [Bool.cond_eq_ite]at hs) |(cases hs;done))
 |assign x=>cases s with
  |go f=>exact λ_=>adu h aA hs
  |bl x fY bb=>simp only [step1,aA]at hs;repeat' (first |(split at hs) |(rw [Bool.cond_eq_ite]at hs) |(cases hs;done))
 |pick c a b=>
  cases c with
  |tmp c=>cases s with
   |go f=>exact λ_=>adv h aA hs
   |bl x fY bb=>simp only [step1,aA]at hs;repeat' (first |(split at hs) |(simp at hs;done))
  |_=>simp [step1,aA]at hs
 |alloc t=>cases s with
  |go f=>exact λ_=>adw h aA hs
  |bl x fY bb=>simp only [step1,aA]at hs;repeat' (first |(split at hs) |(cases hs;done))
 |box t x=>cases s with
  |go f=>exact λ_=>adx h aA hs
  |bl x fY bb=>simp only [step1,aA]at hs;repeat' (first |(split at hs) |(rw [Bool.cond_eq_ite]at hs) |(cases hs;done))
 |build t parts=>cases s with
  |go f=>exact λ_=>ady h aA hs
  |bl x fY bb=>simp only [step1,aA]at hs;repeat' (first |(split at hs) |(rw [Bool.cond_eq_ite]at hs) |(simp at hs;done) |(cases hs;done))
 |buildSlice t len parts=>cases s with
  |go f=>exact λcC=>adA h aA hs cC
  |bl x fY bb=>simp only [step1,aA]at hs;repeat' (first |(split at hs) |(rw [Bool.cond_eq_ite]at hs) |(cases hs;done))
 |load t a=>cases s with
  |go f=>exact λ_=>adB h aA hs
  |bl x fY bb=>simp only [step1,aA]at hs;repeat' (first |(split at hs) |(rw [Bool.cond_eq_ite]at hs) |(simp at hs;done) |(cases hs;done))
 |store t a x=>cases s with
  |go f=>exact λ_=>adC h aA hs
  |bl x fY bb=>simp only [step1,aA]at hs;repeat' (first |(split at hs) |(rw [Bool.cond_eq_ite]at hs) |(cases hs;done))
 |nilCheck x=>cases s with
  |go f=>exact λ_=>adD h aA hs
  |bl x fY bb=>simp only [step1,aA]at hs;repeat' (first |(split at hs) |(simp at hs;done))
 |binOp op t x y t2=>cases s with
  |go f=>exact λcC=>adQ h aA hs cC
  |bl x fY bb=>simp only [step1,aA]at hs;repeat' (first |(split at hs) |(rw [Bool.cond_eq_ite]at hs) |(simp at hs;done))
 |unOp op t x=>cases s with
  |go f=>exact λ_=>adE h aA hs
  |bl x fY bb=>simp only [step1,aA]at hs;repeat' (first |(split at hs) |(simp at hs;done))
 |convert a b x=>cases s with
  |go f=>exact λcC=>adF h aA hs cC
  |bl x fY bb=>simp only [step1,aA]at hs;repeat' (first |(split at hs) |(simp at hs;done))
 |makeInterface t x=>cases s with
  |go f=>exact λ_=>adG h aA hs
  |bl x fY bb=>simp only [step1,aA]at hs;repeat' (first |(split at hs) |(simp at hs;done))
 |makeFunc fn first fb=>
  cases fn with
  |func fn=>cases s with
   |go f=>exact λ_=>adH h aA hs
   |bl x fY bb=>simp only [step1,aA]at hs;rw [Bool.cond_eq_ite]at hs;split at hs<;>simp at hs
  |_=>simp [step1,aA]at hs
 |slice t x lo hi jw=>cases s with
  |go f=>exact λcC=>adZ h aA hs cC
  |bl x fY bb=>simp only [step1,aA]at hs;repeat' (first |(split at hs) |(rw [Bool.cond_eq_ite]at hs) |(simp at hs;done))
 |fieldAddr a x i=>cases s with
  |go f=>exact λ_=>adR h aA hs
  |bl x fY bb=>simp only [step1,aA]at hs;repeat' (first |(split at hs) |(rw [Bool.cond_eq_ite]at hs) |(simp at hs;done))
 |field a x i=>cases s with
  |go f=>exact λ_=>adT h aA hs
  |bl x fY bb=>simp only [step1,aA]at hs;repeat' (first |(split at hs) |(rw [Bool.cond_eq_ite]at hs) |(simp at hs;done))
 |indexAddr t x i=>cases s with
  |go f=>exact λcC=>adW h aA hs cC
  |bl x fY bb=>simp only [step1,aA]at hs;repeat' (first |(split at hs) |(rw [Bool.cond_eq_ite]at hs) |(simp at hs;done))
 |index t x i=>cases s with
  |go f=>exact λcC=>adX h aA hs cC
  |bl x fY bb=>simp only [step1,aA]at hs;repeat' (first |(split at hs) |(simp at hs;done))
 |typeAssert x a t ok=>cases s with
  |go f=>exact λ_=>ad_ h aA hs
  |bl x fY bb=>simp only [step1,aA]at hs;repeat' (first |(split at hs) |(rw [Bool.cond_eq_ite]at hs) |(simp at hs;done) |(cases hs;done))
 |extract x i=>cases s with
  |go f=>exact λ_=>adI h aA hs
  |bl x fY bb=>simp only [step1,aA]at hs;repeat' (first |(split at hs) |(simp at hs;done))
 |call c=>
  simp only [step1,aA]at hs;split at hs
  ·rename_i x n0;split at hs
   case h_2=>cases hs
   rename_i fn fb ds hx hG;exact ad4 h aA n0 hx hG hs
  ·rename_i n0;split at hs
   ·rename_i l _ _ _ _ hd ag;cases hs;exact λ_=>Tq h aA n0 hd ag (.inl ⟨l,rfl,rfl,rfl⟩)
   ·rename_i k n get _ _ _ _ _ hd ag;cases hs;exact λ_=>Tq h aA n0 hd ag (.inr ⟨k,get,_,rfl,rfl⟩)
   ·cases hs
  ·rename_i n0;split at hs
   case h_2=>cases hs
   rename_i t x e aoF zf kw _ t2 eZ fr eG;split at hs
   case h_3=>cases hs
   case h_2=>
    rename_i ct k n get d2 y rs hle oN jS eH;rw [Bool.cond_eq_ite]at hs;split at hs
    case isFalse=>cases hs
    rename_i hc;simp only [Bool.and_eq_true,Nat.beq_eq,Nat.ble_eq]at hc;obtain⟨⟨⟨rfl,aea⟩,Dn⟩,tG⟩:=hc;rw [Option.bind_eq_some_iff]at fr eG;obtain⟨aeb,Do,fr⟩:=fr;obtain⟨JT,nT,eG⟩:=eG;have im:=d_ (ds:=[]) h.bu h.dM jS;split at hs
    case h_2=>cases hs
    rename_i al m lx e2 lE;rw [Bool.cond_eq_ite]at hs;split at hs
    case isFalse=>cases hs
    rename_i hI;simp only [Bool.and_eq_true,Nat.beq_eq,Nat.ble_eq]at hI;obtain⟨rfl,hm⟩:=hI;cases hs;intro cC;obtain⟨news,kV,kW⟩:=SK h.bu.bu h.tt eG lE im;exact ac1 h.bu h.dM h.tt fr rfl hle aA n0 eZ Do nT oN Dn hm kV kW (JB (cC (room (n+m) ct.bytes=true) (by simp))) (cC (gH _ y) (by simp))
   rename_i ct k n get d2 aoG a_ y rs hle oN jS ti eH;rw [Bool.cond_eq_ite]at hs;split at hs
   case isFalse=>cases hs
   rename_i hc;simp only [Bool.and_eq_true,Nat.beq_eq,Nat.ble_eq]at hc;obtain⟨⟨⟨⟨rfl,rfl⟩,aea⟩,Dn⟩,tG⟩:=hc;rw [Option.bind_eq_some_iff]at fr eG;obtain⟨aeb,Do,fr⟩:=fr;obtain⟨JT,nT,eG⟩:=eG;have im:=d_ (ds:=[]) h.bu h.dM jS;split at hs
   ·rename_i al m lx e2 lE;rw [Bool.cond_eq_ite]at hs;split at hs
    case isFalse=>cases hs
    rename_i hI;simp only [Nat.beq_eq]at hI;subst hI;cases hs;intro cC;obtain⟨news,kV,kW⟩:=SK h.bu.bu h.tt eG lE im;exact SF h.bu h.dM h.tt fr rfl hle aA n0 eZ Do nT oN ti rfl Dn kV kW (JB (cC (room (n+m) ct.bytes=true) (by simp))) (cC (gH _ y) (by simp))
   ·rename_i l lE;rw [Bool.cond_eq_ite]at hs;split at hs
    case isFalse=>cases hs
    rename_i hI;simp only [Nat.beq_eq]at hI;cases hs;intro cC;have JU:=l3 im;obtain⟨news,kV,kW⟩:=ac6 (P:=P) (w:=w) h.tt eG lE l M;rw [←JU,←hI]at kV;rw [←hI]at kW;exact SF h.bu h.dM h.tt fr rfl hle aA n0 eZ Do nT oN ti rfl Dn kV kW (JB (cC (room (n+l.length) ct.bytes=true) (by simp))) (cC (gH _ y) (by simp))
   ·cases hs
  ·rename_i n0;split at hs
   ·rename_i k a al b hd;rw [Bool.cond_eq_ite]at hs;split at hs
    case isFalse=>cases hs
    rename_i hk;have tH:k=al:=by simpa using hk
    subst tH;cases hs;exact λ_=>ad9 h aA n0 hd
   ·cases hs
  ·rename_i n0;split at hs
   ·rename_i k a al b hd;rw [Bool.cond_eq_ite]at hs;split at hs
    case isFalse=>cases hs
    rename_i hk;have tH:k=al:=by simpa using hk
    subst tH;cases hs;exact λ_=>ad' h aA n0 hd
   ·cases hs
  ·cases hs
 |panic x=>cases s with
  |go f=>simp only [step1,aA]at hs;repeat' (first |(split at hs) |(simp at hs;done))
  |bl y fY bb=>
   simp only [step1,aA]at hs;split at hs
   case h_2=>cases hs
   rename_i t z hd;cases hs;intro _;have ak:=d_ (ds:=[]) h.bu h.dM hd;obtain⟨u,ay,hu⟩:=IS ak;refine .inl ⟨.iface t u,?_,.iface t u z hu,rfl⟩;simp [execOp,aA,ay,Instr.panic]
 |_=>simp [step1,aA]at hs
end
inductive cv where
 |normal
 |exit (id:Nat)
 |ret
 |bl (x:V)
def pV(P:Program)(K:Ctx)(N:Nat)(fg:cv)(st:aJ)(e:Exit)(a:Act)(w:World):Prop:=
 match fg with
 |.normal=>e = .normal∧a.defers=K.ds∧a.tmps.size=N∧∃M β,bN P K M β st a.tmps w
 |.exit id=>e = .exit id∧a.defers=K.ds∧a.tmps.size=N∧∃M β,bN P K M β st a.tmps w
 |.ret=>e = .ret∧a.defers=K.ds∧a.tmps.size=N∧∃M β,bN P K M β st a.tmps w
 |.bl x=>∃v,e = .panic [{v,recovered:=false}]∧a.defers=K.ds∧∃M β,dl M v x∧bN P K M β st a.tmps w
section
variable {P:Program} {K:Ctx} {N:Nat} {M:Mem} {β:Nat→Option Nat} {st:aJ} {g fe:di} {tmps:Array Value} {w:World} {o:Oper} {f:kN} {p:Path} {tt:dx} {ops:List Oper}
def bN.zg(h:bN P K M β st tmps w)(ej:Array Value):bN P K M β {env:=[],H:=st.H,a8:=st.a8} ej w:=by
 have Z:bN P K M β {env:=[],H:=st.H,a8:=st.a8} tmps w:=h.sub rfl (λl e ag=>by
  cases l with
  |slot s=>simp [aJ.at,look]at ag
  |cell r i=>exact⟨e,ag,rfl,λ_ h=>h⟩) (λr cs ak=>⟨cs,ak,rfl⟩)
 have ay:∀l e,({env:=[],H:=st.H,a8:=st.a8}:aJ).at l=some e→ci ej w β l=ci tmps w β l:=by
  intro l e ag;cases l with
  |slot s=>simp [aJ.at,look]at ag
  |cell r i=>rfl
 constructor
 ·intro l e ag;rw [ay l e ag];exact Z.eW l e ag
 ·intro l e T ag aS;rw [ay l e ag];exact Z.own l e T ag aS
 ·intro l cL e a_ T T' b ag aS cR d' hb bT;rw [ay l e ag]at hb;rw [ay cL a_ cR]at bT;exact Z.uniq l cL e a_ T T' b ag aS cR d' hb bT
 ·intro l e T b r cs ag aS hb ak;rw [ay l e ag]at hb;exact Z.unbox l e T b r cs ag aS hb ak
 ·exact Z.box
 ·exact Z.inj
 ·exact Z.lt
 ·exact Z.mem
 ·exact Z.m0
 ·exact Z.frame
 ·exact Z.h2
 ·exact Z.iD
 ·exact Z.hq
def zh(h:fx P K N M β g tmps w):∀{p:Path} {q:Prop},fG tmps p→under g p q→q
 |[],_,_,aE=>aE
 |(t,nW)::p,q,hp,aE=>by
  have bU:tmps.getD t undef = .bool nW:=hp (t,nW) (by simp)
  have wb:fG tmps p:=λx hx=>hp x (by simp [hx])
  simp only [under]at aE;split at aE
  ·rename_i b hb;refine zh h wb (aE ?_);unfold yE at hb;split at hb
   ·rename_i q' bK hc;cases hb;by_cases iu:fG tmps q'
    ·have:=td ((h.cond t _ _ hc).1 iu)
     rw [bU]at this;cases this;rfl
    ·have:=(h.cond t _ _ hc).2 iu
     rw [bU]at this;cases this
   ·cases hb
   ·split at hb
    ·rename_i bK own he;cases hb;have:=td (h.bu.eW (.slot t) _ he)
     simp only [ci]at this;rw [bU]at this;cases this;rfl
    ·cases hb
  ·exact zh h wb aE
def Tt(h:fx P K N M β g tmps w){opsA:Array Oper}(mA:opsA.toList=ops)(hp:oE ops g o=some p):Region.wanted o (yielded opsA tmps)=true↔fG tmps p:=by
 unfold oE at hp;split at hp
 ·rename_i hg;cases hp;simp [Region.wanted,hg,fG]
 ·rename_i j nW hg;split at hp
  case h_2=>cases hp
  rename_i t bU
  have cc:yielded opsA tmps j=some nW↔tmps.getD t undef = .bool nW:=by
   unfold yielded;have:opsA[j]? = ops[j]? := by rw [←mA];simp
   rw [this,bU];simp only [Option.bind_some,Array.getD_eq_getD_getElem?];cases bz:tmps[t]? with
   |none=>simp [undef]
   |some v=>cases v<;>simp
  have hw:Region.wanted o (yielded opsA tmps)=true↔tmps.getD t undef = .bool nW:=by
   rw [←cc];simp [Region.wanted,hg]
  split at hp
  ·rename_i q b hc;cases hp;rw [hw];constructor
   ·intro zi x hx;rcases List.mem_append.1 hx with hx|hx
    ·by_cases iu:fG tmps q
     ·exact iu x hx
     ·have:=(h.cond t _ _ hc).2 iu
      rw [zi]at this;cases this
    ·simp at hx;subst hx;exact zi
   ·intro iu;exact iu (t,nW) (by simp)
  ·cases hp
  ·split at hp
   ·cases hp;rw [hw];exact⟨λh x hx=>by simp at hx;subst hx;exact h,λh=>h (t,nW) (by simp)⟩
   ·cases hp
def JV{t:Nat}{v:Value}{q:Path}(aE:∀x,x∈q→x.1≠t):fG (tmps.setIfInBounds t v) q↔fG tmps q:=by
 unfold fG;constructor<;>intro h x hx
 ·have:=h x hx
  rwa [Array.getD_eq_getD_getElem?,Array.getElem?_setIfInBounds_ne (Ne.symm (aE x hx)),←Array.getD_eq_getD_getElem?]at this
 ·have:=h x hx
  rwa [Array.getD_eq_getD_getElem?,Array.getElem?_setIfInBounds_ne (Ne.symm (aE x hx)),←Array.getD_eq_getD_getElem?]
def aec{t s:Nat}{v:Value}(h:s≠t):(tmps.setIfInBounds t v).getD s undef=tmps.getD s undef:=by
 rw [Array.getD_eq_getD_getElem?,Array.getElem?_setIfInBounds_ne (Ne.symm h),←Array.getD_eq_getD_getElem?]
def aed{b0:List (Nat×Path×D)}{t:Nat}(h:vE b0 t=true){s:Nat}{q:Path}{d:D}(hc:look b0 s=some (q,d))(hs:s≠t):∀x,x∈q→x.1≠t:=by
 unfold vE at h;rw [List.all_eq_true]at h;have:=h _ (qM hc)
 simp only [Bool.or_eq_true,Nat.beq_eq,List.all_eq_true,Bool.not_eq_true']at this;rcases this with Z|Z
 ·exact absurd Z hs
 ·intro x hx e;have:=Z x hx
  rw [e]at this;simp at this
def JW(h:∀t q d,look g.b0 t=some (q,d)→(fG tmps q→cz M β (tmps.getD t undef) d)∧(¬ fG tmps q→tmps.getD t undef=undef)){t:Nat}{v:Value}(a':vE g.b0 t=true){M':Mem}{β':Nat→Option Nat}
 (c7:M.le M') (gQ:∀r b,β r=some b→β' r=some b):
 ∀s q d,look (del g.b0 t) s=some (q,d)→(fG (tmps.setIfInBounds t v) q→cz M' β' ((tmps.setIfInBounds t v).getD s undef) d)∧(¬ fG (tmps.setIfInBounds t v) q→(tmps.setIfInBounds t v).getD s undef=undef):=by
 intro s q d hc;rw [pE]at hc;by_cases hs:t=s
 ·simp [hs]at hc
 ·rw [if_neg hs]at hc;rw [JV (aed a' hc (Ne.symm hs)),aec (Ne.symm hs)];exact⟨λiu=>(((h s q d hc).1 iu).mono c7).ID gQ,(h s q d hc).2⟩
def wc(ds:List Deferred):Act.eval ⟨tmps,ds⟩=Act.eval ⟨tmps,[]⟩:=by
 funext x;cases x<;>rfl
def Tu{α:Type}:∀(a b:List (Nat×α)) (q:Nat),look (a++b) q=none→look a q=none∧look b q=none
 |[],b,q,h=>⟨rfl,h⟩
 |(j,x)::a,b,q,h=>by
  simp only [List.cons_append,dv]at h ⊢;by_cases hj:j=q
  ·simp [hj]at h
  ·simp only [hj,if_false]at h ⊢;exact Tu a b q h
def fx.JX(h:fx P K N M β g tmps w){β':Nat→Option Nat}{hs:List (Nat×List aZ)}(tI:∀r b,β' r=some b→β r=some b∨(look hs r).isSome=true):
 ∀s id,look g.ids s=some id→look (hs++g.H) id=none→∀b,β' id≠some b:=by
 intro s id hid ag b hb;obtain⟨Z,af⟩:=Tu _ _ _ ag;rcases tI id b hb with au|au
 ·exact h.fresh s id hid af b au
 ·rw [Z]at au;cases au
def zj(h:fx P K N M β g tmps w)(cj:e7 P tt=true){opsA:Array Oper}(mA:opsA.toList=ops)(hs:jx (gW P) tt N ops g o=some (.go fe))(cC:∀q,q∈fe.bb→q){Q:Exit→Act→World→Prop}{next:Act→World→Prop}
 (f9:∀ej w' M' β',fx P K N M' β' fe ej w'→next ⟨ej,K.ds⟩ w'):
 if Region.wanted o (yielded opsA tmps)then o.wp P ⟨tmps,K.ds⟩ w next Q∨(o.asks P ⟨tmps,K.ds⟩ w∧LetsOut Q)else next ((⟨tmps,K.ds⟩:Act).put o.dst undef) w:=by
 unfold jx at hs;split at hs
 case h_1=>cases hs
 rename_i p hp;have hw:=Tt h mA hp;split at hs
 ·cases hs
 ·rw [Bool.cond_eq_ite]at hs;split at hs<;>cases hs
 rename_i f a'
 dsimp only at hs
 by_cases iu:fG tmps p
 ·rw [if_pos (
   hw.2 iu)]
  refine .inl ?_;have hH:=Ts (g:=g) (ops:=ops) ⟨h,iu,cj⟩ a'
  -- C2 follows once lg value is there
  have main:(∀q,q∈f.bb→q)∧∀v w',ip P K M β g f tmps v w'→next ((⟨tmps,K.ds⟩:Act).put o.dst v) w':=by
   split at hs
   ·rename_i tJ;rw [Bool.cond_eq_ite]at hs;split at hs
    case isFalse=>cases hs
    rename_i tG;have zk:p=[]:=by simpa using tG
    subst zk;cases hs;refine⟨λq aE=>zh h iu (cC _ (List.mem_append_left _ (List.mem_map.2 ⟨q,aE,rfl⟩))),?_⟩
    rintro v w' ⟨M',β',c7,gQ,tI,cW,_⟩
    rw [tJ];exact f9 tmps w' M' β' ⟨cW,h.size,h.JX tI,λs q d hc=>⟨λiu=>(((h.cond s q d hc).1 iu).mono c7).ID gQ,(h.cond s q d hc).2⟩⟩
   ·rename_i t tJ;rw [Bool.cond_eq_ite]at hs;split at hs
    case isFalse=>cases hs
    rename_i hc;simp only [Bool.and_eq_true,Nat.blt_eq]at hc;have c':t<tmps.size:=by rw [h.size];exact hc.1
    rcases p with _|⟨x,JY⟩<;>dsimp only at hs
    ·cases hs;refine⟨λq aE=>zh h iu (cC _ (List.mem_append_left _ (List.mem_map.2 ⟨q,aE,rfl⟩))),?_⟩
     rintro v w' ⟨M',β',c7,gQ,tI,cW,hH⟩
     rw [tJ];refine f9 _ w' M' β' ⟨?_,by simpa using h.size,h.JX tI,JW h.cond hc.2 c7 gQ⟩
     cases he:f.e with
     |none=>exact cW.drop
     |some e=>
      obtain⟨Z,af⟩:=hH e he;exact cW.put c' Z (λT aS=>af T _ aS)
    ·split at hs
     ·rename_i e he tK nR;rw [Bool.cond_eq_ite]at hs;split at hs
      case isFalse=>cases hs
      rename_i kY;simp only [Bool.and_eq_true,List.all_eq_true,Nat.beq_eq,Bool.not_eq_true']at kY;cases hs;refine⟨λq aE=>zh h iu (cC _ (List.mem_append_left _ (List.mem_map.2 ⟨q,aE,rfl⟩))),?_⟩
      rintro v w' ⟨M',β',c7,gQ,tI,cW,hH⟩
      rw [tJ];obtain⟨Z,_⟩:=hH e he
      have jT:∀y,y∈x::JY→y.1≠t:=λy cc e=>by
       have:=kY.1 y cc
       rw [e]at this;simp at this
      refine f9 _ w' M' β' ⟨?_,by simpa using h.size,by have:=h.JX tI;rw [tK]at this;exact this,λs q d ee=>?_⟩
      ·have:after g f={env:=g.env,H:=g.H,a8:=g.a8}:=by unfold after;rw [nR,tK,kY.2];rfl
       rw [this]at cW;exact cW.drop
      ·rw [dv]at ee;by_cases jQ:t=s
       ·rw [if_pos jQ]at ee;cases ee;subst jQ;rw [JV jT];refine⟨λ_=>?_,λhn=>absurd iu hn⟩
        have:(tmps.setIfInBounds t v).getD t undef=v:=by simp [c']
        rw [this];exact Z
       ·rw [if_neg jQ]at ee;exact JW h.cond hc.2 c7 gQ s q d ee
     ·cases hs
  obtain⟨aee,iI⟩:=main;rcases hH aee with⟨v,w',eM,kx⟩|⟨he,w',eM,kx⟩|⟨fn,vs,eM,tL⟩
  ·unfold Oper.wp;rw [wc,eM];exact iI v w' kx
  ·unfold Oper.wp;rw [wc,eM];exact iI undef w' kx
  ·unfold Oper.wp;rw [wc,eM];refine tL.mono ?_
   rintro e w' ⟨v,rfl,kx⟩
   exact iI v w' kx
 ·have aef:Region.wanted o (yielded opsA tmps)=false:=by
   rw [Bool.eq_false_iff];exact λbz=>iu (hw.1 bz)
  rw [aef];simp only [Bool.false_eq_true,if_false];split at hs
  ·rename_i tJ;rw [Bool.cond_eq_ite]at hs;split at hs
   case isFalse=>cases hs
   rename_i tG;have zk:p=[]:=by simpa using tG
   subst zk;exact absurd (λx hx=>by cases hx) iu
  ·rename_i t tJ;rw [Bool.cond_eq_ite]at hs;split at hs
   case isFalse=>cases hs
   rename_i hc;simp only [Bool.and_eq_true,Nat.blt_eq]at hc;rcases p with _|⟨x,JY⟩<;>dsimp only at hs
   ·exact absurd (λx hx=>by cases hx) iu
   ·split at hs
    ·rename_i e he tK nR;rw [Bool.cond_eq_ite]at hs;split at hs
     case isFalse=>cases hs
     rename_i kY;simp only [Bool.and_eq_true,List.all_eq_true,Nat.beq_eq,Bool.not_eq_true']at kY;cases hs;rw [tJ]
     have jT:∀y,y∈x::JY→y.1≠t:=λy cc e=>by
      have:=kY.1 y cc
      rw [e]at this;simp at this
     refine f9 _ w M β ⟨h.bu.drop,by simpa using h.size,h.fresh,λs q d ee=>?_⟩
     rw [dv]at ee;by_cases jQ:t=s
     ·rw [if_pos jQ]at ee;cases ee;subst jQ;rw [JV jT];refine⟨λbz=>absurd bz iu,λ_=>?_⟩
      have c':t<tmps.size:=by rw [h.size];exact hc.1
      simp [c']
     ·rw [if_neg jQ]at ee;exact JW h.cond hc.2 (Mem.le_refl _) (λ_ _ h=>h) s q d ee
    ·cases hs
end
section
variable {P:Program} {K:Ctx} {N E:Nat} {M:Mem} {β:Nat→Option Nat} {st:aJ} {g fe:di} {tmps:Array Value} {w:World} {o:Oper} {f:kN} {p:Path} {tt:dx} {ops:List Oper}
def Tv(h:fx P K N M β g tmps w)(cj:e7 P tt=true){opsA:Array Oper}(mA:opsA.toList=ops){x:V}{st:aJ}{bb:List Prop}(hs:jx (gW P) tt N ops g o=some (.bl x st bb))(cC:∀q,q∈bb→q){Q:Exit→Act→World→Prop}{next:Act→World→Prop}
 (f9:∀e dU w',pV P K N (.bl x) st e dU w'→Q e dU w'):
 if Region.wanted o (yielded opsA tmps)then o.wp P ⟨tmps,K.ds⟩ w next Q∨(o.asks P ⟨tmps,K.ds⟩ w∧LetsOut Q)else next ((⟨tmps,K.ds⟩:Act).put o.dst undef) w:=by
 unfold jx at hs;split at hs
 case h_1=>cases hs
 rename_i p hp;have hw:=Tt h mA hp;split at hs
 ·cases hs
 ·rename_i y fY rZ dS;rw [Bool.cond_eq_ite]at hs;split at hs
  case isFalse=>cases hs
  rename_i tG;have zk:p=[]:=by simpa using tG
  subst zk;cases hs;have iu:fG tmps []:=λx hx=>by cases hx
  rw [if_pos (hw.2 iu)];refine .inl ?_;have hH:=Ts (g:=g) (ops:=ops) ⟨h,iu,cj⟩ dS;rcases hH (λq aE=>cC q (List.mem_append_left _ aE)) with⟨v,eM,ak,rfl⟩|⟨fn,vs,eM,tL⟩
  ·unfold Oper.wp;rw [wc,eM];exact f9 _ _ _ ⟨v,rfl,rfl,M,β,ak,h.bu.oD λs e he=>⟨e,he,rfl⟩⟩
  ·unfold Oper.wp;rw [wc,eM];refine tL.mono ?_
   rintro e w' ⟨v,M',rfl,ak,cW⟩
   exact f9 _ _ _ ⟨v,rfl,rfl,M',β,ak,cW⟩
 ·dsimp only at hs
  repeat' (first|(split at hs)|(rw [Bool.cond_eq_ite]at hs)|(cases hs;done))
def aeg{cn:gg}(hs:jx cn tt N ops g o=some (.go fe)):∀q,q∈g.bb→q∈fe.bb:=by
 intro q aE;unfold jx at hs;split at hs
 case h_1=>cases hs
 split at hs
 ·cases hs
 ·rw [Bool.cond_eq_ite]at hs;split at hs<;>cases hs
 ·dsimp only at hs
  repeat' (first|(split at hs)|(rw [Bool.cond_eq_ite]at hs)|(cases hs;exact List.mem_append_right _ aE)|(cases hs;done))
def aeh{cn:gg}{x:V}{st:aJ}{bb:List Prop}(hs:jx cn tt N ops g o=some (.bl x st bb)):∀q,q∈g.bb→q∈bb:=by
 intro q aE;unfold jx at hs;split at hs
 case h_1=>cases hs
 split at hs
 ·cases hs
 ·rw [Bool.cond_eq_ite]at hs;split at hs<;>cases hs;exact List.mem_append_right _ aE
 ·dsimp only at hs
  repeat' (first|(split at hs)|(rw [Bool.cond_eq_ite]at hs)|(cases hs;done))
def Tw:rI→List Prop
 |.go g=>g.bb
 |.bl _ _ bb=>bb
def Tx{cn:gg}:∀{l:List Oper} {g:di} {fin:rI},rJ cn tt N ops l g=some fin→∀q,q∈g.bb→q∈Tw fin
 |[],g,fin,h,q,aE=>by simp [rJ]at h;subst h;exact aE
 |o::l,g,fin,h,q,aE=>by
  simp only [rJ]at h;split at h
  ·rename_i fe hs;exact Tx h q (aeg hs q aE)
  ·cases fin with
   |go fe=>exact absurd h (by intro bz;rename_i ef;exact ef _ bz)
   |bl x st bb=>exact aeh h q aE
def JZ(cj:e7 P tt=true){opsA:Array Oper}(mA:opsA.toList=ops){Q:Exit→Act→World→Prop}{fin:rI}(ky:∀q,q∈Tw fin→q)
 (ea:match fin with
  |.go fe=>∀ej w' M' β',fx P K N M' β' fe ej w'→Q .normal ⟨ej,K.ds⟩ w'
  |.bl x st _=>∀e dU w',pV P K N (.bl x) st e dU w'→Q e dU w'):
 ∀(l:List Oper) (k:Nat) (g:di) (tmps:Array Value) (w:World) (M:Mem) (β:Nat→Option Nat),(∀j,l[j]? = ops[k+j]?)→fx P K N M β g tmps w→rJ (gW P) tt N ops l g=some fin→
  wpOps P opsA Q (List.range' k l.length) ⟨tmps,K.ds⟩ w
 |[],k,g,tmps,w,M,β,_,h,ak=>by
  simp [rJ]at ak;subst ak;exact ea tmps w M β h
 |o::l,k,g,tmps,w,M,β,ag,h,ak=>by
  have hk:opsA[k]? = some o:=by
   have:=ag 0
   simp at this
   rw [←Array.getElem?_toList,mA];exact this.symm
  simp only [List.length_cons,List.range'_succ,wpOps,hk];simp only [rJ]at ak;split at ak
  ·rename_i fe hs;refine zj h cj mA hs (λq aE=>ky q (Tx ak q aE)) (λej w' M' β' dp=>?_)
   exact JZ cj mA ky ea l (k+1) fe ej w' M' β' (λj=>by have:=ag (j+1);simpa [Nat.add_assoc,Nat.add_comm 1 j]using this) dp ak
  ·cases fin with
   |go fe=>exact absurd ak (by intro bz;rename_i ef;exact ef _ bz)
   |bl x st bb=>exact Tv h cj mA ak ky (λe dU w' cI=>ea e dU w' cI)
def bf(P:Program)(N E:Nat)(c:Code)(Q:cv→aJ→Prop)(st:aJ):Prop:=
 ∀(K:Ctx),(∀r b,K.jg r=some b→r<E)→∀(a:Act) (w:World),pV P K N .normal st .normal a w→c.wp P (λe dU w'=>∃fg bZ,pV P K N fg bZ e dU w'∧Q fg bZ) a w
def bf.mono{c:Code}{Q Ty:cv→aJ→Prop}(h:bf P N E c Q st)(aE:∀fg bZ,Q fg bZ→Ty fg bZ):bf P N E c Ty st:=
 λK ek a w hs=>wp_mono (h K ek a w hs) λ_ _ _ ⟨fg,bZ,Z,af⟩=>⟨fg,bZ,Z,aE _ _ af⟩
@[reducible] def cv.then (next : aJ → Prop) (Q : cv → aJ → Prop) : cv → aJ → Prop
 |.normal,st=>next st
 |e,st=>Q e st
@[reducible] def cv.inBlock (id : Nat) (Q : cv → aJ → Prop) : cv → aJ → Prop
 |.exit i,st=>if i=id then Q .normal st else Q (.exit i) st
 |e,st=>Q e st
def bf.seq{x y:Code}{Q:cv→aJ→Prop}(h:bf P N E x (cv.then (bf P N E y Q) Q) st):bf P N E (.seq x y) Q st:=by
 intro K ek a w hs;refine wp_seq (wp_mono (h K ek a w hs) ?_)
 rintro e dU w' ⟨fg,bZ,Z,af⟩
 cases fg with
 |normal=>
  obtain⟨rfl,au⟩:=Z;exact af K ek dU w' ⟨rfl,au⟩
 |exit i=>obtain⟨rfl,au⟩:=Z;exact⟨.exit i,bZ,⟨rfl,au⟩,af⟩
 |ret=>obtain⟨rfl,au⟩:=Z;exact⟨.ret,bZ,⟨rfl,au⟩,af⟩
 |bl x=>obtain⟨v,rfl,au⟩:=Z;exact⟨.bl x,bZ,⟨v,rfl,au⟩,af⟩
def bf.skip{Q:cv→aJ→Prop}(h:Q .normal st):bf P N E .skip Q st:=λ_ _ _ _ hs=>wp_skip ⟨.normal,st,hs,h⟩
def bf.label{l:Nat}{Q:cv→aJ→Prop}(h:Q .normal st):bf P N E (.label l) Q st:=λ_ _ _ _ hs=>wp_label ⟨.normal,st,hs,h⟩
def bf.exit{id:Nat}{Q:cv→aJ→Prop}(h:Q (.exit id) st):bf P N E (.exit id) Q st:=λ_ _ _ _ hs=>wp_exit ⟨.exit id,st,⟨rfl,hs.2⟩,h⟩
def bf.ret{Q:cv→aJ→Prop}(h:Q .ret st):bf P N E .ret Q st:=λ_ _ _ _ hs=>wp_ret ⟨.ret,st,⟨rfl,hs.2⟩,h⟩
def bf.block{id:Nat}{c:Code}{Q:cv→aJ→Prop}(h:bf P N E c (cv.inBlock id Q) st):bf P N E (.block id c) Q st:=by
 intro K ek a w hs;refine wp_block (wp_mono (h K ek a w hs) ?_)
 rintro e dU w' ⟨fg,bZ,Z,af⟩
 cases fg with
 |normal=>obtain⟨rfl,au⟩:=Z;exact⟨.normal,bZ,⟨rfl,au⟩,af⟩
 |exit i=>
  obtain⟨rfl,au⟩:=Z;by_cases hi:i=id
  ·simp only [cv.inBlock,hi,if_true]at af;simp only [Exit.inBlock,hi,if_true];exact⟨.normal,bZ,⟨rfl,au⟩,af⟩
  ·simp only [cv.inBlock,hi,if_false]at af;simp only [Exit.inBlock,hi,if_false];exact⟨.exit i,bZ,⟨rfl,au⟩,af⟩
 |ret=>obtain⟨rfl,au⟩:=Z;exact⟨.ret,bZ,⟨rfl,au⟩,af⟩
 |bl x=>obtain⟨v,rfl,au⟩:=Z;exact⟨.bl x,bZ,⟨v,rfl,au⟩,af⟩
def bf.cond{c:Nat}{x y:Code}{Q:cv→aJ→Prop}(b:Bool)(own:Option TypeId)(hc:look st.env c=some ⟨.v (.bool b),own⟩)(bU:b=true→bf P N E x Q st)(a':b=false→bf P N E y Q st):bf P N E (.cond (.tmp c) x y) Q st:=by
 intro K ek a w hs;obtain⟨_,_,_,M,β,cW⟩:=id hs;have ay:a.eval (.tmp c) = .bool b:=td (cW.eW (.slot c) _ hc);exact wp_cond_split ay (λhb=>bU hb K ek a w hs) (λhb=>a' hb K ek a w hs)
def bf.loop{c:Code}{Q:cv→aJ→Prop}{σ:Type}(I:Nat→σ→aJ→Prop)(Tz:∀n s st,I n s st→∃m,n=m+1∧bf P N E c (cv.then (λbZ=>∃qL,I m qL bZ) Q) st)
 {n:Nat} {s:σ} {st:aJ} (h0:I n s st):bf P N E (.loop c) Q st:=by
 intro K ek a w hs b k cs
 have key:∀n s st a w,I n s st→pV P K N .normal st .normal a w→
  ∃e dU w',(∃fg bZ,pV P K N fg bZ e dU w'∧Q fg bZ)∧Arrives P (lone (b.at a (.code c :: .inLoop c::k)) cs w) b k cs e dU w':=by
  intro n;induction n with
  |zero=>
   intro s st a w n1 _;obtain⟨m,hm,_⟩:=Tz 0 s st n1;omega
  |succ n bc=>
   intro s st a w n1 hs;obtain⟨m,hm,JP⟩:=Tz (n+1) s st n1;have:m=n:=by omega
   subst this;obtain⟨e,Dp,Dq,⟨fg,bZ,Z,af⟩,wd⟩:=JP K ek a w hs b (.inLoop c::k) cs;cases fg with
   |normal=>
    obtain⟨rfl,au⟩:=Z;obtain⟨qL,aei⟩:=af;obtain⟨aej,aek,ael,aem,aen⟩:=bc qL bZ Dp Dq aei ⟨rfl,au⟩;exact⟨aej,aek,ael,aem,.of_steps (Steps.trans wd (.one step_inLoop)) aen⟩
   |exit i=>obtain⟨rfl,au⟩:=Z;exact⟨_,Dp,Dq,⟨.exit i,bZ,⟨rfl,au⟩,af⟩,.pass (x:=.inLoop c) rfl (λ_ _=>.inl (by simp)) wd⟩
   |ret=>obtain⟨rfl,au⟩:=Z;exact⟨_,Dp,Dq,⟨.ret,bZ,⟨rfl,au⟩,af⟩,.pass (x:=.inLoop c) rfl (λ_ _=>.inl (by simp)) wd⟩
   |bl x=>obtain⟨v,rfl,au⟩:=Z;exact⟨_,Dp,Dq,⟨.bl x,bZ,⟨v,rfl,au⟩,af⟩,.pass (x:=.inLoop c) rfl (λ_ _=>.inl (by simp)) wd⟩
 obtain⟨e,dU,w',aE,wd⟩:=key n s st a w h0 hs;exact⟨e,dU,w',aE,.of_steps (.one step_loop) wd⟩
end
def we(tt:dx)(st:aJ):ResultVar→Option D
 |.tmp t=>(look st.env t).map (·.d)
 |.cell a t=>match look st.env a,look tt t with
  |some ⟨.ptr r off,_⟩,some aI=>match look st.H r with
   |some cs=>bif aI.k.isAgg then(bif Nat.ble (off+aI.size) cs.length then some (lX (((cs.drop off).take aI.size).map (·.d)))else none) else(cs[off]?).map (·.d)
   |none=>none
  |_,_=>none
def TA(tt:dx)(st:aJ):List ResultVar→Option (D×Option TypeId)
 |[.tmp t]=>(look st.env t).map λe=>(e.d,e.own)
 |[x]=>(we tt st x).map (·,none)
 |xs=>(mapM' (we tt st) xs).map λds=>(.cp ds,none)
def leave(tt:dx)(E:Nat)(rs:List ResultVar)(st:aJ):Option (Out×List (List aZ)):=
 match TA tt st rs,boxes st.H (List.range E) with
 |some (d,own),some H'=>bif below E d&&H'.all (qH E)then some (.ret d own,H')else none
 |_,_=>none
def Dr(E:Nat)(H:List (Nat×List aZ)):Option (List (List aZ)):=
 match boxes H (List.range E) with
 |some H'=>bif H'.all (qH E)then some H' else none
 |none=>none
def qV(tt:dx)(E c:Nat):List ResultVar→aJ→Option (Out×List (List aZ))
 |[.cell a t],st=>match look st.env a,look tt t with
  |some ⟨.ptr r off,_⟩,some aI=>match look st.H r,boxes st.H (List.range E) with
   |some cs,some H'=>
    bif (((((aI.k.isAgg&&Nat.ble (off+aI.size) cs.length)&&rG (marks c) (marksOf 0 ((cs.drop off).take aI.size)))&&Nat.ble E r)&&below E (lX (((cs.drop off).take aI.size).map (·.d))))&&H'.all (qH E)) then
     some (.ret (lX (((cs.drop off).take aI.size).map (·.d))) (some c),H')else none
   |_,_=>none
  |_,_=>none
 |_,_=>none
def ng(H:List (List aZ)):List (List aZ):=H.map λb=>b.map λe=>{d:=e.d}
def qW(tt:dx)(E:Nat)(rs:List ResultVar)(R:Out→List (List aZ)→Prop):cv→aJ→Prop
 |.normal,st=>∃o H',(leave tt E rs st=some (o,H')∨∃c,qV tt E c rs st=some (o,H'))∧R o H'
 |.ret,st=>∃o H',(leave tt E rs st=some (o,H')∨∃c,qV tt E c rs st=some (o,H'))∧R o H'
 |.bl x,st=>∃H',Dr E st.H=some H'∧R (.bl x) (ng H')
 |.exit _,_=>False
section
variable {P:Program} {K:Ctx} {N E:Nat} {M:Mem} {β:Nat→Option Nat} {st:aJ} {tmps:Array Value} {w:World} {tt:dx}
def wg(tmps:Array Value):ResultVar→Sem Value
 |.tmp t=>pure (tmps.getD t undef)
 |.cell a t=>do loadVar t (←asAddr (tmps.getD a undef))
def TB(h:bN P K M β st tmps w)(cj:e7 P tt=true){x:ResultVar}{d:D}(hx:we tt st x=some d):
 ∃v,(wg tmps x).run P w = .ok v w∧cz M β v d:=by
 cases x with
 |tmp t=>
  simp only [we,Option.map_eq_some_iff]at hx;obtain⟨e,he,rfl⟩:=hx;exact⟨_,rfl,h.eW (.slot t) e he⟩
 |cell a t=>
  simp only [we]at hx;split at hx
  case h_2=>cases hx
  rename_i r off own aI ha ag;obtain⟨row⟩:=et cj ag;split at hx
  case h_2=>cases hx
  rename_i cs ak;obtain⟨b,hb,ay⟩:=nQ (h.eW (.slot a) _ ha);simp only [ci]at ay;obtain⟨bK,vs,T,bT,bz,hlen,_,_,gi,kr⟩:=h.box r cs ak;rw [hb]at bT;cases bT
  have TC:∀{u:Value},(Instr.loadAt t (.pointer (some ⟨b,off,none⟩))).run P w = .ok u w→(do loadVar t (←asAddr (tmps.getD a undef)):Sem Value).run P w = .ok u w:=by
   intro u hu;rw [ay];simpa [Instr.loadAt,Instr.sureAddr,asAddr]using hu
  rw [Bool.cond_eq_ite]at hx;split at hx
  ·rename_i hv;rw [Bool.cond_eq_ite]at hx;split at hx
   case isFalse=>cases hx
   rename_i hle;simp only [Nat.ble_eq]at hle;cases hx;refine⟨_,TC (CV (P:=P) row (off:=off) bz (by omega) hv),?_⟩
   refine vO (by simp;omega) (λv ay=>gi v (List.mem_of_mem_drop (List.mem_of_mem_take ay))) (λi v c ay hc=>?_)
   rw [List.getElem?_map,Option.map_eq_some_iff]at hc;obtain⟨e,he,rfl⟩:=hc;rw [List.getElem?_take]at ay he;split at ay
   ·rename_i hi;rw [if_pos hi,List.getElem?_drop]at he;rw [List.getElem?_drop]at ay;have:=h.eW (.cell r (off+i)) e (by simp [aJ.at,ak,he])
    simpa [ci,hb,cell_of_heap bz,ay]using this
   ·cases ay
  ·rename_i hv;simp only [Option.map_eq_some_iff]at hx;obtain⟨e,he,rfl⟩:=hx;obtain⟨hR,ac5,oG,v,fp,SJ,eF,ck⟩:=II h ak he;rw [hb]at fp;cases fp;refine⟨v,TC (IT (P:=P) row (by rw [cell_of_heap SJ,eF]) (by simpa using hv)),?_⟩
   have:=h.eW (.cell r off) e (by simp [aJ.at,ak,he])
   rwa [ck]at this
def TD(h:bN P K M β st tmps w)(cj:e7 P tt=true):∀{xs:List ResultVar} {ds:List D},mapM' (we tt st) xs=some ds→
 ∃vs:List Value,(xs.mapM (wg tmps)).run P w = .ok vs w∧vs.length=ds.length∧
  ∀(i:Nat) v d,vs[i]? = some v→ds[i]? = some d→cz M β v d
 |[],ds,hx=>by simp [mapM']at hx;subst hx;exact⟨[],rfl,rfl,by simp⟩
 |x::xs,ds,hx=>by
  simp only [mapM']at hx;split at hx
  case h_2=>cases hx
  rename_i d ad2 hd hG;cases hx;obtain⟨v,ay,fM⟩:=TB h cj hd;obtain⟨vs,my,ag,ak⟩:=TD h cj hG;refine⟨v::vs,?_,by simp [ag],λi u c hu hc=>?_⟩
  ·simp only [List.mapM_cons,Sem.run_bind,ay,Result.andThen_ok,my,Sem.run_pure]
  ·cases i with
   |zero=>simp at hu hc;subst hu;subst hc;exact fM
   |succ i=>simp at hu hc;exact ak i u c hu hc
def aeo{H:List (Nat×List aZ)}{E:Nat}{H':List (List aZ)}(h:boxes H (List.range E)=some H'):H'.length=E∧∀r,r<E→look H r=H'[r]? ∧ (H'[r]?).isSome=true:=by
 obtain⟨Z,af⟩:=tq h;exact⟨by simpa using Z,λr ak=>af r r (by simp [ak])⟩
def bN.leave(h:bN P K M β st tmps w){H':List (List aZ)}(tM:boxes st.H (List.range E)=some H')(TE:H'.all (qH E)=true)(ek:∀r b,K.jg r=some b→r<E){v:Value}{d:D}{own:Option TypeId}
 (ay:cz M β v d) (hd:below E d=true) (fL:∀T,own=some T→∃l,lZ P K M β {env:=gu l st.env,H:=st.H,a8:=st.a8} tmps w (.slot 0) v T∧True):
 ∃ β',bN P K M β' {env:=[(0,{d,own})],H:=c8 0 H',a8:=E} #[v] w:=by
 obtain⟨ag,lj⟩:=aeo tM;have Z:=h.zg #[undef]
 have jV:∀r cs,look (c8 0 H') r=some cs→r<E∧look st.H r=some cs:=by
  intro r cs ak;rw [mz]at ak;have c':r<E:=by have:=(List.getElem?_eq_some_iff.1 ak).1;omega
  exact⟨c',by rw [(lj r c').1];exact ak⟩
 have hle:E≤st.a8∨E=0:=by
  by_cases h0:E=0
  ·exact .inr h0
  ·obtain⟨af,au⟩:=lj (E-1) (by omega)
   obtain⟨cs,ee⟩:=Option.isSome_iff_exists.1 au;rw [ee]at af;obtain⟨b,_,_,hb,_⟩:=h.box _ cs af;have:=h.lt _ b hb
   exact .inl (by omega)
 have af:bN P K M β {env:=[],H:=c8 0 H',a8:=st.a8} #[undef] w:=by
  refine Z.sub rfl (λl e ag=>?_) (λr cs ak=>⟨cs,(jV r cs ak).2,rfl⟩)
  cases l with
  |slot s=>simp [aJ.at,look]at ag
  |cell r i=>
   simp only [aJ.at]at ag ⊢;cases ak:look (c8 0 H') r with
   |none=>simp [ak]at ag
   |some cs=>simp [ak]at ag;exact⟨e,by simp [(jV r cs ak).2,ag],rfl,λ_ h=>h⟩
 -- lg slot
 have au:bN P K M β {env:=[(0,{d,own})],H:=c8 0 H',a8:=st.a8} #[v] w:=by
  have aep:=af.put (t:=0) (v:=v) (e:={d,own}) (by simp) ay (λT aS=>?_)
  ·simpa using aep
  ·obtain⟨l,hn,_⟩:=fL T aS;refine⟨hn.own,λgv e T' b fr d' _ hb bT=>?_,λb r cs hb ak=>hn.unbox b r cs hb (jV r cs ak).2⟩
   cases gv with
   |slot s=>simp [aJ.at,look]at fr
   |cell r i=>
    simp only [aJ.at]at fr;cases ak:look (c8 0 H') r with
    |none=>simp [ak]at fr
    |some cs=>
     simp [ak]at fr;exact hn.apart (.cell r i) e T' b (by simp [aJ.at,(jV r cs ak).2,fr]) d' (by simp) hb bT
 refine⟨λr=>if r<E then β r else none,?_⟩
 have ck:∀l e,({env:=[(0,{d,own})],H:=c8 0 H',a8:=st.a8}:aJ).at l=some e→ci #[v] w (λr=>if r<E then β r else none) l=ci #[v] w β l:=by
  intro l e ag;cases l with
  |slot s=>rfl
  |cell r i=>
   simp only [aJ.at]at ag;cases ak:look (c8 0 H') r with
   |none=>simp [ak]at ag
   |some cs=>simp [ci,(jV r cs ak).1]
 have mx:∀l e,({env:=[(0,{d,own})],H:=c8 0 H',a8:=st.a8}:aJ).at l=some e→below E e.d=true:=by
  intro l e ag;cases l with
  |slot s=>
   simp only [aJ.at,dv]at ag;split at ag
   ·cases ag;exact hd
   ·simp [look]at ag
  |cell r i=>
   simp only [aJ.at]at ag;cases ak:look (c8 0 H') r with
   |none=>simp [ak]at ag
   |some cs=>
    simp [ak]at ag;rw [mz]at ak;rw [List.all_eq_true]at TE;exact IN (TE cs (List.mem_of_getElem? ak)) ag
 constructor
 ·intro l e ag;rw [ck l e ag];exact(au.eW l e ag).R1 (λr ak=>by simp [ak]) (mx l e ag)
 ·intro l e T ag aS;rw [ck l e ag];exact au.own l e T ag aS
 ·intro l cL e a_ T T' b ag aS cR d' hb bT;rw [ck l e ag]at hb;rw [ck cL a_ cR]at bT;exact au.uniq l cL e a_ T T' b ag aS cR d' hb bT
 ·intro l e T b r cs ag aS hb ak;rw [ck l e ag]at hb;have:=au.unbox l e T b r cs ag aS hb ak
  simpa [(jV r cs ak).1]using this
 ·intro r cs ak;obtain⟨b,vs,T,aQ,bj⟩:=au.box r cs ak;exact⟨b,vs,T,by simpa [(jV r cs ak).1]using aQ,bj⟩
 ·intro r cM b cs cs' ak e6 hb bT;exact au.inj r cM b cs cs' ak e6 (by simpa [(jV r cs ak).1]using hb) (by simpa [(jV cM cs' e6).1]using bT)
 ·intro r b hb;by_cases c':r<E
  ·exact c'
  ·simp [c']at hb
 ·exact au.mem
 ·exact au.m0
 ·exact au.frame
 ·intro r b hb;simp [ek r b hb,au.h2 r b hb]
 ·exact au.iD
 ·exact au.hq
def bN.era{env:List (Nat×aZ)}{H:List (List aZ)}{n:Nat}(h:bN P K M β {env:=env,H:=c8 0 H,a8:=n} tmps w):bN P K M β {env:=env,H:=c8 0 (ng H),a8:=n} tmps w:=by
 refine h.sub rfl (λl e ag=>?_) (λr cs ak=>?_)
 ·cases l with
  |slot s=>exact⟨e,ag,rfl,λ_ h=>h⟩
  |cell r i=>
   simp only [aJ.at,mz,ng,List.getElem?_map]at ag ⊢;cases hb:H[r]? with
   |none=>simp [hb]at ag
   |some b=>
    simp only [hb,Option.map_some,Option.bind_some,List.getElem?_map,Option.map_eq_some_iff]at ag;obtain⟨bR,h0,rfl⟩:=ag;exact⟨bR,by simpa using h0,rfl,λT aS=>by cases aS⟩
 ·simp only [mz,ng,List.getElem?_map,Option.map_eq_some_iff]at ak ⊢;obtain⟨b,hb,rfl⟩:=ak;exact⟨b,hb,by simp⟩
def Ds{fn:Func}{E:Nat}{ej:Array Value}{w':World}{bZ:aJ}{M':Mem}{β':Nat→Option Nat}{o:Out}{H':List (List aZ)}(cj:e7 P tt=true)(ek:∀r b,K.jg r=some b→r<E)(hs:bN P K M' β' bZ ej w')
 (ag:Ab.leave tt E fn.results.toList bZ=some (o,H')):
 ∃v,(results fn ej).run P w' = .ok v w'∧∃jk M' β',Ending.returned v=pO o jk∧bN P K M' β' {env:=hF o,H:=c8 0 H',a8:=E} #[jk] w':=by
 unfold Ab.leave at ag;split at ag
 case h_2=>cases ag
 rename_i d own H1 hH tM;rw [Bool.cond_eq_ite]at ag;split at ag
 case isFalse=>cases ag
 rename_i hc;simp only [Bool.and_eq_true]at hc;cases ag
 -- lg value of lg results
 have ck:∃v,(results fn ej).run P w' = .ok v w'∧cz M' β' v d∧∀T,own=some T→∃l,lZ P K M' β' {env:=gu l bZ.env,H:=bZ.H,a8:=bZ.a8} ej w' (.slot 0) v T∧True:=by
  have hm:∀{vs:List Value},(fn.results.toList.mapM (wg ej)).run P w' = .ok vs w'→
   (results fn ej).run P w' = .ok (if h:vs.length=1 then vs[0]else .tuple ⟨vs⟩) w':=by
   intro vs my
   have hH:results fn ej=(do let vs ←fn.results.mapM (wg ej);pure (if h:vs.size=1 then vs[0]else .tuple vs)):=by
    unfold results
    congr 2
   rw [hH,show fn.results=⟨fn.results.toList⟩from rfl,List.mapM_toArray]
   simp only [Sem.run_bind,Sem.run_map,my,Result.andThen_ok,Sem.run_pure];simp
  unfold TA at hH;split at hH
  ·rename_i t bU;simp only [Option.map_eq_some_iff,Prod.mk.injEq]at hH;obtain⟨e,he,rfl,rfl⟩:=hH;have hr:=hs.eW (.slot t) e he;refine⟨ej.getD t undef,?_,hr,λT aS=>⟨[t],hs.hand he aS (.slot 0),trivial⟩⟩
   have:=hm (vs:=[ej.getD t undef]) (by rw [bU];rfl)
   simpa using this
  ·rename_i x ef hx;simp only [Option.map_eq_some_iff,Prod.mk.injEq]at hH;obtain⟨ei,jO,rfl,rfl⟩:=hH;obtain⟨v,ay,fM⟩:=TB hs cj jO;refine⟨v,?_,fM,by simp⟩
   have:=hm (vs:=[v]) (by rw [hx];simp only [List.mapM_cons,List.mapM_nil,Sem.run_bind,ay,Result.andThen_ok,Sem.run_pure])
   simpa using this
  ·simp only [Option.map_eq_some_iff,Prod.mk.injEq]at hH;obtain⟨ds,hG,rfl,rfl⟩:=hH;obtain⟨vs',my,ag,fM⟩:=TD hs cj hG;refine⟨.tuple ⟨vs'⟩,?_,.cp vs' ds ag fM,by simp⟩
   have ef:vs'.length≠1:=by
    rename_i Z af;rw [ag,(rO hG).1];intro bz;obtain⟨x,hx⟩:=List.length_eq_one_iff.1 bz;exact af x hx
   have:=hm my
   simpa [ef]using this
 obtain⟨v,eM,fM,fL⟩:=ck;obtain⟨zl,ky⟩:=hs.leave tM hc.2 ek fM hc.1 fL;exact⟨v,eM,v,M',zl,rfl,ky⟩
def TF{H:List (Nat×List aZ)}{r:Nat}{cs:List aZ}:∀{l:List Nat},(∀x,x∈l→x≠r)→boxes ((r,cs)::H) l=boxes H l
 |[],_=>rfl
 |x::l,h=>by
  have bc:=TF (H:=H) (cs:=cs) (l:=l) λy cc=>h y (by simp [cc])
  have hx:=h x (by simp)
  simp only [boxes,bc,dv,if_neg (Ne.symm hx)]
def TG{fn:Func}{E:Nat}{ej:Array Value}{w':World}{bZ:aJ}{M':Mem}{β':Nat→Option Nat}{o:Out}{H':List (List aZ)}(cj:e7 P tt=true)(ek:∀r b,K.jg r=some b→r<E)(hs:bN P K M' β' bZ ej w')
 {c:Nat} (ag:Ab.qV tt E c fn.results.toList bZ=some (o,H')):
 ∃v,(results fn ej).run P w' = .ok v w'∧∃jk M' β',Ending.returned v=pO o jk∧bN P K M' β' {env:=hF o,H:=c8 0 H',a8:=E} #[jk] w':=by
 unfold Ab.qV at ag;split at ag
 case h_2=>cases ag
 rename_i a t bU;split at ag
 case h_2=>cases ag
 rename_i r off en aI ha qX;split at ag
 case h_2=>cases ag
 rename_i cs H1 ak tM;rw [Bool.cond_eq_ite]at ag;split at ag
 case isFalse=>cases ag
 rename_i hc;simp only [Bool.and_eq_true,Nat.ble_eq]at hc;obtain⟨⟨⟨⟨⟨hv,hle⟩,hm⟩,aoH⟩,aeq⟩,nS⟩:=hc;cases ag;obtain⟨row⟩:=et cj qX;obtain⟨b,hb,ay⟩:=nQ (hs.eW (.slot a) _ ha);simp only [ci]at ay;obtain⟨bK,vs,T,bT,bz,hlen,_,_,gi,kr⟩:=hs.box r cs ak;rw [hb]at bT;cases bT;have pL:=Jf hm;have jj:((cs.drop off).take aI.size).length=aI.size:=by simp;omega
 have kS:=na cs off (((cs.drop off).take aI.size).map λe=>({d:=e.d}:aZ)) (by rw [List.length_map,jj];exact hle)
 have pM:∀j,j<aI.size→((cs.drop off).take aI.size)[j]? = cs[off+j]? := λj hj=>by rw [List.getElem?_take,if_pos hj,List.getElem?_drop]
 obtain⟨iE,aer⟩:=hs.Sx (T:=c) (size:=aI.size) (off:=off) ak hb bz gi hlen (cs':=setAt cs off (((cs.drop off).take aI.size).map λe=>{d:=e.d})) (λx hx=>by
  rw [pL]at hx;obtain⟨_,e,af,au⟩:=yU _ 0 x hx;rw [Nat.sub_zero]at af;have c':x.1<aI.size:=by rw [←jj];exact(List.getElem?_eq_some_iff.1 af).1
  exact⟨c',e,by rw [←pM x.1 c'];exact af,au⟩) kS.1 (λj a_ hj=>by
  rw [kS.2]at hj;rw [List.length_map,jj]at hj;by_cases hi:off≤j∧j<off+aI.size
  ·rw [if_pos hi,List.getElem?_map,Option.map_eq_some_iff]at hj;obtain⟨bR,Z,rfl⟩:=hj;rw [pM _ (by omega),show off+(j-off)=j by omega]at Z
   exact⟨bR,Z,rfl,λU hz=>by cases hz⟩
  ·rw [if_neg hi]at hj;refine⟨a_,hj,rfl,λU hz=>⟨hz,λx hx acU=>?_⟩⟩
   rw [pL]at hx;obtain⟨_,e,af,_⟩:=yU _ 0 x hx;rw [Nat.sub_zero]at af;have c':x.1<aI.size:=by rw [←jj];exact(List.getElem?_eq_some_iff.1 af).1
   omega) (.slot 0)
 have eM:(wg ej (.cell a t)).run P w' = .ok (.agg ⟨(vs.drop off).take aI.size⟩) w':=by
  have hu:=CV (P:=P) (w:=w') row (off:=off) bz (by omega) hv
  show(do loadVar t (←asAddr (ej.getD a undef)):Sem Value).run P w'=_
  rw [ay];simpa [Instr.loadAt,Instr.sureAddr,asAddr]using hu
 have fM:cz M' β' (.agg ⟨(vs.drop off).take aI.size⟩) (lX (((cs.drop off).take aI.size).map (·.d))):=by
  refine vO (by simp;omega) (λv ay=>gi v (List.mem_of_mem_drop (List.mem_of_mem_take ay))) (λi v c ay hc=>?_)
  rw [List.getElem?_map,Option.map_eq_some_iff]at hc;obtain⟨e,he,rfl⟩:=hc;rw [List.getElem?_take]at ay he;split at ay
  ·rename_i hi;rw [if_pos hi,List.getElem?_drop]at he;rw [List.getElem?_drop]at ay;have:=hs.eW (.cell r (off+i)) e (by simp [aJ.at,ak,he])
   simpa [ci,hb,cell_of_heap bz,ay]using this
  ·cases ay
 have hH:(results fn ej).run P w' = .ok (.agg ⟨(vs.drop off).take aI.size⟩) w':=by
  have hH:results fn ej=(do let vs ←fn.results.mapM (wg ej);pure (if h:vs.size=1 then vs[0]else .tuple vs)):=by
   unfold results
   congr 2
  rw [hH,show fn.results=⟨fn.results.toList⟩from rfl,List.mapM_toArray,bU]
  simp only [List.mapM_cons,List.mapM_nil,Sem.run_bind,Sem.run_map,eM,Result.andThen_ok,Sem.run_pure];simp
 obtain⟨qP,ky⟩:=iE.leave (H':=H') (own:=some c) (by
  rw [TF (λx hx=>by have:=List.mem_range.1 hx;omega)];exact tM) nS ek fM aeq (λT aS=>by cases aS;exact⟨[],aer,trivial⟩)
 exact⟨_,hH,_,M',qP,rfl,ky⟩
def TH{fn:Func}{E:Nat}{ej:Array Value}{w':World}{bZ:aJ}{M':Mem}{β':Nat→Option Nat}{o:Out}{H':List (List aZ)}(cj:e7 P tt=true)(ek:∀r b,K.jg r=some b→r<E)(hs:bN P K M' β' bZ ej w')
 (ag:Ab.leave tt E fn.results.toList bZ=some (o,H')∨∃c,Ab.qV tt E c fn.results.toList bZ=some (o,H')):
 ∃v,(results fn ej).run P w' = .ok v w'∧∃jk M' β',Ending.returned v=pO o jk∧bN P K M' β' {env:=hF o,H:=c8 0 H',a8:=E} #[jk] w':=
 ag.elim (Ds cj ek hs) fun⟨_,h⟩=>TG cj ek hs h
def bN.tN{P:Program}{K:Ctx}{M:Mem}{β:Nat→Option Nat}{st:aJ}{tmps:Array Value}{w:World}(h:bN P K M β st tmps w)(ds:List Deferred):bN P {K with ds:=ds} M β st tmps w:=
 ⟨h.eW,h.own,h.uniq,h.unbox,h.box,h.inj,h.lt,h.mem,h.m0,h.frame,h.h2,h.iD,h.hq⟩
def J0{args:List D}{en:List (Nat×TypeId)}{H:List (List aZ)}{vs:List Value}{n:Nat}(hlen:vs.length=args.length)(cW:bN P K M β {env:=hA args en,H:=c8 0 H,a8:=H.length} ⟨vs⟩ w):
 bN P K M β {env:=hA args en,H:=c8 0 H,a8:=H.length} ((⟨vs⟩:Array Value)++Array.replicate n undef) w:=by
 have ay:∀l e,({env:=hA args en,H:=c8 0 H,a8:=H.length}:aJ).at l=some e→ci ((⟨vs⟩:Array Value)++Array.replicate (n) undef) w β l=ci ⟨vs⟩ w β l:=by
  intro l e ag;cases l with
  |slot s=>
   simp only [aJ.at,hA,mz,y0,Option.map_eq_some_iff]at ag;obtain⟨d,hd,_⟩:=ag;have hs:s<vs.length:=by have:=(List.getElem?_eq_some_iff.1 hd).1;omega
   simp only [ci,Array.getD_eq_getD_getElem?];rw [Array.getElem?_append_left (by simpa using hs)]
  |cell r i=>rfl
 constructor
 ·intro l e ag;rw [ay l e ag];exact cW.eW l e ag
 ·intro l e T ag aS;rw [ay l e ag];exact cW.own l e T ag aS
 ·intro l cL e a_ T T' b ag aS cR d' hb bT;rw [ay l e ag]at hb;rw [ay cL a_ cR]at bT;exact cW.uniq l cL e a_ T T' b ag aS cR d' hb bT
 ·intro l e T b r cs ag aS hb ak;rw [ay l e ag]at hb;exact cW.unbox l e T b r cs ag aS hb ak
 ·exact cW.box
 ·exact cW.inj
 ·exact cW.lt
 ·exact cW.mem
 ·exact cW.m0
 ·exact cW.frame
 ·exact cW.h2
 ·exact cW.iD
 ·exact cW.hq
def pP.of_wp {f : FuncId} {fn : Func} {c : Code} {args : List D} {en : List (Nat × TypeId)} {H : List (List aZ)} {R : Out → List (List aZ) → Prop} (cj : e7 P tt = true) (a' : P.funcs[f]? = some fn) (hb : fn.body = some c) (jl : decide (fn.name = "runtime.NumGoroutine") = false)
 (eZ:Nat.ble args.length fn.ntmps=true) (h:bf P fn.ntmps H.length c (qW tt H.length fn.results.toList R) {env:=hA args en,H:=c8 0 H,a8:=H.length}):pP P f args en H R:=by
 refine⟨⟨fn,a',by rw [hb];rfl,by simpa using jl⟩,?_⟩
 intro cF w vs M β hlen J1 J2
 suffices key:∀K:Ctx,K.ds=[]→bN P K M β {env:=hA args en,H:=c8 0 H,a8:=H.length} ⟨vs⟩ w→(∀r b,β r=some b→K.jg r=some b)→
  Calls P f ⟨vs⟩ w λe w'=>∃o H' v M' β',R o H'∧e=pO o v∧bN P K M' β' {env:=hF o,H:=c8 0 H',a8:=H.length} #[v] w' from
  (key {cF with ds:=[]} rfl (J1.tN []) J2).mono λe w' ⟨o,H',v,M',β',Z,af,au⟩=>⟨o,H',v,M',β',Z,af,au.tN cF.ds⟩
 intro K hG cW gQ;have ek:∀r b,K.jg r=some b→r<H.length:=λr b hb=>cW.lt r b (cW.h2 r b hb)
 simp only [Nat.ble_eq]at eZ;have aes:=J0 (n:=fn.ntmps-(⟨vs⟩:Array Value).size) hlen cW;have aet:=h K ek {tmps:=(⟨vs⟩:Array Value)++Array.replicate (fn.ntmps-(⟨vs⟩:Array Value).size) undef,defers:=[]} w ⟨rfl,hG.symm,by simp;omega,M,β,aes⟩
 refine calls_of_wp a' hb (wp_mono aet ?_)
 have fin:∀(dU:Act) (w':World) (bZ:aJ) M' β',bN P K M' β' bZ dU.tmps w'→(∃o H',(Ab.leave tt H.length fn.results.toList bZ=some (o,H')∨∃c,Ab.qV tt H.length c fn.results.toList bZ=some (o,H'))∧R o H')→
  ∃v,(results fn dU.tmps).run P w' = .ok v w'∧∃o H' jk M' β',R o H'∧Ending.returned v=pO o jk∧bN P K M' β' {env:=hF o,H:=c8 0 H',a8:=H.length} #[jk] w':=by
  intro dU w' bZ M' β' hs ⟨o,H',ag,r0⟩;rcases ag with ag|⟨_,ag⟩
  ·obtain⟨v,Z,jk,th,qP,af,au⟩:=Ds cj ek hs ag;exact⟨v,Z,o,H',jk,th,qP,r0,af,au⟩
  ·obtain⟨v,Z,jk,th,qP,af,au⟩:=TG cj ek hs ag;exact⟨v,Z,o,H',jk,th,qP,r0,af,au⟩
 rintro e dU w' ⟨fg,bZ,Z,af⟩
 cases fg with
 |normal=>
  obtain⟨rfl,hd,_,M',β',hs⟩:=Z;exact⟨hd.trans hG,fin dU w' bZ M' β' hs af⟩
 |ret=>
  obtain⟨rfl,hd,_,M',β',hs⟩:=Z;exact⟨hd.trans hG,fin dU w' bZ M' β' hs af⟩
 |exit i=>exact af.elim
 |bl x=>
  obtain⟨v,rfl,hd,M',β',fM,hs⟩:=Z;obtain⟨H1,ag,r0⟩:=af;unfold Dr at ag;split at ag
  case h_2=>cases ag
  rename_i cH tM;rw [Bool.cond_eq_ite]at ag;split at ag
  case isFalse=>cases ag
  rename_i hc;cases ag;obtain⟨zl,ky⟩:=hs.leave (own:=none) tM hc ek (.v v x fM) rfl (by simp)
  exact⟨hd.trans hG,.bl x,ng H1,v,M',zl,r0,rfl,ky.era⟩
end
end Go.Ab

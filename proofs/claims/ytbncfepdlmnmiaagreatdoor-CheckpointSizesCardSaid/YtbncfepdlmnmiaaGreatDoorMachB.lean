/- The abstract machine: a step of code over plain data, proved against the model. -/
import Derived.Laws.Build
import Derived.Laws.IdiomStrings
import Derived.Test.YtbncfepdlmnmiaaGreatDoorMachA
set_option linter.all false
namespace Go.Ab
section
variable {P:Program} {K:Ctx} {N:Nat} {M:Mem} {β:Nat→Option Nat} {g:cU} {tmps:Array Value} {w:World} {o:Oper} {f:jj} {p:Path} {tt:de} {b5:fI} {ops:List Oper}
structure jr(M:Mem)(k m:Nat)(get:Nat→V)(news:List Value):Prop where
 len:news.length=m*k
 hk:∀i,i<m→(get i).cells.length=k
 one:∀u,u∈news→u.oneCell'=true
 rep:∀(i j:Nat) c u,i<m→(get i).cells[j]? = some c→news[i*k+j]? = some u→cT M u c
def flat(k m:Nat)(val:Nat→Nat→Value):List Value:=(List.range (m*k)).map λq=>val (q / k) (q % k)
def Bl(k m:Nat)(val:Nat→Nat→Value):(flat k m val).length=m*k:=by simp [flat]
def Wb{k m:Nat}{val:Nat→Nat→Value}{i j:Nat}(hi:i<m)(hj:j<k):(flat k m val)[i*k+j]? = some (val i j):=by
 have cJ:i*k+j<m*k:=by
  have ab:(i+1)*k≤m*k:=Nat.mul_le_mul_right k hi;rw [Nat.add_mul]at ab;omega
 have ab:(i*k+j) / k=i:=by rw [Nat.mul_comm,Nat.mul_add_div (by omega),Nat.div_eq_of_lt hj];omega
 have ah:(i*k+j) % k=j:=by rw [Nat.mul_comm,Nat.mul_add_mod,Nat.mod_eq_of_lt hj]
 simp [flat,cJ,ab,ah]
def Jx{k m:Nat}{val:Nat→Nat→Value}{q:Nat}{u:Value}(h:(flat k m val)[q]? = some u):q / k<m∧q % k<k∧q=q / k*k+q % k∧u=val (q / k) (q % k):=by
 have aP:q<m*k:=by have:=(List.getElem?_eq_some_iff.1 h).1;rwa [Bl]at this
 have hk:0<k:=by
  rcases Nat.eq_zero_or_pos k with rfl|h;· simp at aP
  ·exact h
 refine⟨(Nat.div_lt_iff_lt_mul hk).2 aP,Nat.mod_lt _ hk,(Nat.div_add_mod' q k).symm,?_⟩
 simp [flat,aP]at h;exact h.symm
def Bm{v:Value}{k n:Nat}{get:Nat→V}(h:ce M β v (.v (.bz k n get))):((v = .slice none 0 0∨∃a,v = .slice (some a) 0 0)∧n=0)∨
 ∃(b off cap:Nat) (ee:List Value),v = .slice (some ⟨b,off,none⟩) n cap∧n≤cap∧jr M k n get ee∧∀(q:Nat) u,ee[q]? = some u→M b (off+q)=some u:=by
 rcases ph h with h|⟨b,off,cap,val,rfl,hc,hk,cP,ab,aj⟩
 ·exact .inl h
 ·refine .inr ⟨b,off,cap,flat k n val,rfl,hc,⟨Bl k n val,hk,?_,?_⟩,?_⟩
  ·refine Je λq u hu=>?_
   obtain⟨ah,ay,_,rfl⟩:=Jx hu;exact ab _ _ ah ay
  ·intro i j c u hi hc hu;have hj:j<k:=by rw [←hk i hi];exact(List.getElem?_eq_some_iff.1 hc).1
   rw [Wb hi hj]at hu;cases hu;exact aj i j c hi hc
  ·intro q u hu;obtain⟨ah,ay,bl,rfl⟩:=Jx hu;have:=cP _ _ ah ay
   rwa [Nat.add_assoc,←bl]at this
def so(k:Nat)(get:Nat→V):jr M k 0 get []:=⟨by simp,by simp,by simp,by simp⟩
def jr.app{k n m:Nat}{get jX:Nat→V}{ee news:List Value}(h:jr M k n get ee)(ah:jr M k m jX news):jr M k (n+m) (λi=>bif Nat.blt i n then get i else jX (i-n)) (ee++news):=by
 have hb:∀i,(bif Nat.blt i n then get i else jX (i-n))=if i<n then get i else jX (i-n):=by
  intro i;by_cases hi:i<n
  ·have:Nat.blt i n=true:=by simpa using hi
   simp [this,hi]
  ·have:Nat.blt i n=false:=by rw [Bool.eq_false_iff];simpa using hi
   simp [this,hi]
 refine⟨by simp [h.len,ah.len,Nat.add_mul],λi hi=>?_,λu hu=>?_,λi j c u hi hc hu=>?_⟩
 ·rw [hb];split
  ·exact h.hk i (by assumption)
  ·exact ah.hk _ (by omega)
 ·rcases List.mem_append.1 hu with hu|hu
  ·exact h.one u hu
  ·exact ah.one u hu
 ·rw [hb]at hc;by_cases hin:i<n
  ·rw [if_pos hin]at hc;have hj:j<k:=by rw [←h.hk i hin];exact(List.getElem?_eq_some_iff.1 hc).1
   have cJ:i*k+j<ee.length:=by
    rw [h.len];have ab:(i+1)*k≤n*k:=Nat.mul_le_mul_right k hin;rw [Nat.add_mul]at ab;omega
   rw [List.getElem?_append_left cJ]at hu;exact h.rep i j c u hin hc hu
  ·rw [if_neg hin]at hc;have afE:n*k≤i*k:=Nat.mul_le_mul_right k (by omega)
   rw [List.getElem?_append_right (by rw [h.len];omega),h.len]at hu
   have:i*k+j-n*k=(i-n)*k+j:=by rw [Nat.sub_mul];omega
   rw [this]at hu;exact ah.rep (i-n) j c u (by omega) hc hu
def jr.mono{M':Mem}(cP:M.le M'){k n:Nat}{get:Nat→V}{ee:List Value}(h:jr M k n get ee):jr M' k n get ee:=
 ⟨h.len,h.hk,h.one,λi j c u hi hc hu=>(h.rep i j c u hi hc hu).mono cP⟩
def jr.bz{k n cap b off:Nat}{get:Nat→V}{ee:List Value}(h:jr M k n get ee)(hc:n≤cap)(cP:∀(q:Nat) u,ee[q]? = some u→M b (off+q)=some u):
 cT M (.slice (some ⟨b,off,none⟩) n cap) (.bz k n get):=by
 have hin:∀i j,i<n→j<k→ee[i*k+j]? = some (ee.getD (i*k+j) undef):=λi j hi hj=>VV h.len hi hj
 refine .bz b off k n cap get (λi j=>ee.getD (i*k+j) undef) hc h.hk (λi j hi hj=>?_) (λi j hi hj=>xi h.one (hin i j hi hj)) (λi j c hi j_=>?_)
 ·rw [Nat.add_assoc];exact cP _ _ (hin i j hi hj)
 ·have hj:j<k:=by rw [←h.hk i hi];exact(List.getElem?_eq_some_iff.1 j_).1
  exact h.rep i j c _ hi j_ (hin i j hi hj)
def Wc(t gf ty e:TypeId)(i:TypeInfo)(cc:P.underlying t=some (.slice e))(hi:P.info? e=some i)(b qv jN:Nat)(x:Value)(n:Nat)(news:List Value)(hs:Src P i.size gf x n news w)
 (qw:qv+n≤jN) {vs:List Value} {T:TypeId} (bu:w.heap[b]? = some (.cells ⟨vs⟩ T (0,0))) (hle:qv*i.size+news.length≤vs.length):
 (Builtin.append_ #[t,gf] ty #[.slice (some ⟨b,0,none⟩) qv jN,x]).run P w = .ok (.slice (some ⟨b,0,none⟩) (qv+n) jN) (w.setRow b (vs.take (qv*i.size)++news++vs.drop (qv*i.size+news.length)).toArray):=by
 have ev:=run_storeCells_at P b (qv*i.size) T news 0 ⟨vs⟩ w bu (by simpa using hle) hs.one
 simp only [Nat.add_zero]at ev;rcases hs.kind with⟨aZ,hk⟩|hk<;>simp [Builtin.append_,run_underlying cc,run_underlying hk,sizeOf,typeInfo,hi,hs.len,qw,hs.cells,addr_add,ev]
def Wd(t gf ty e:TypeId)(i:TypeInfo)(cc:P.underlying t=some (.slice e))(hi:P.info? e=some i)(x:Value)(news:List Value)(hs:Src P i.size gf x 0 news w):
 (Builtin.append_ #[t,gf] ty #[.slice none 0 0,x]).run P w = .ok (.slice none 0 0) w:=by
 rcases hs.kind with⟨aZ,hk⟩|hk<;>simp [Builtin.append_,run_underlying cc,run_underlying hk,sizeOf,typeInfo,hi,hs.len,hs.cells]
def xp{t gf:TypeId}{a x:Operand}{c:Call}(aw:o.op = .call c)(hc:c.callee = .builtin .append)(fA:c.args.toList=[a,x])(fZ:c.argTypes.toList[0]? = some t)(mj:c.argTypes.toList[1]? = some gf)
 {gr Bn:Value} (ha:(⟨tmps,[]⟩:Act).eval a=gr) (hx:(⟨tmps,[]⟩:Act).eval x=Bn) {v:Value} {w':World}
 (h:∀ty,(Builtin.append_ #[t,gf] ty #[gr,Bn]).run P w = .ok v w'):
 (execOp (Act.eval ⟨tmps,[]⟩) o).run P w = .ok (.value v) w':=by
 have qx:c.args = #[a,x]:=by apply Array.ext';simpa using fA
 have Bo:∀ty,(Builtin.append_ c.argTypes ty #[gr,Bn]).run P w = .ok v w':=by
  intro ty;have h0:c.argTypes[0]? = some t:=by simpa using fZ
  have ab:c.argTypes[1]? = some gf:=by simpa using mj
  have:=h ty
  simp only [Builtin.append_,h0,ab]at this ⊢;exact this
 simp only [execOp,aw,resolve,hc,qx,Sem.run_bind,Sem.run_pure,Result.andThen_ok,invoke,builtin,List.map_toArray,List.map_cons,List.map_nil,ha,hx];simp [Bo]
def We(h:e0 P K N M β g tmps w)(hp:fa tmps p)(b0:eJ P tt=true){t gf e:TypeId}{aE b7:dZ}(ag:look tt t=some aE)(hk:aE.k = .bz e)(eI:look tt e=some b7){s:Nat}{x:Operand}{c:Call}
 (aw:o.op = .call c) (hc:c.callee = .builtin .append) (fA:c.args.toList=[.tmp s,x]) (fZ:c.argTypes.toList[0]? = some t) (mj:c.argTypes.toList[1]? = some gf)
 {n m:Nat} {get jX:Nat→V} (hs:rd g.env g.bN p tt o.type (.tmp s)=some (.full b7.size n get)) (uf:1≤b7.bytes) (hm:1≤m)
 {news:List Value} (ml:Src P b7.size gf ((⟨tmps,[]⟩:Act).eval x) m news w) (js:jr M b7.size m jX news) (qw:(n+m)*b7.bytes≤140737488355328)
 {y:V} (b1:f6 (.bz b7.size (n+m) λi=>bif Nat.blt i n then get i else jX (i-n)) y) {rs:List eT} {a6:List Prop}:
 Yields P K M β g {e:=some {d:=.v y,own:=some e},f8:=[s],rs,a6} o tmps w:=by
 obtain⟨r⟩:=dR b0 ag;obtain⟨dq⟩:=dR b0 eI;have mh:=h.bj.f8 [s];have d':=dz (ds:=[]) h hp hs;have ug:P.underlying t=some (.slice e):=by rw [r.hd,mU r hk]
 have qy:(⟨tmps,[]⟩:Act).eval (.tmp s)=tmps.getD s undef:=rfl;rw [qy]at d'
 have oA:∃base,tmps.getD s undef = .slice base n n∧cT M (.slice base n n) (.bz b7.size n get):=by
  generalize tmps.getD s undef=gr at d'
  cases d' with
  |full base k n get h=>exact⟨base,rfl,h⟩
 obtain⟨base,az,fi⟩:=oA;have cJ:n<n+m:=by omega
 have qz:∃ee:List Value,jr M b7.size n get ee∧∀w':World,w'.heap=w.heap→(Builtin.firstCells b7.size n (.slice base n n)).run P w' = .ok ee.toArray w':=by
  rcases Bm (ce.v _ _ fi:ce M β _ _) with⟨pk|⟨a,pk⟩,sq⟩|⟨b,off,cap,ee,pk,hcap,holds,hold⟩
  ·simp only [Value.slice.injEq]at pk;obtain⟨rfl,rfl,_⟩:=pk;exact⟨[],so _ _,λw' _=>run_firstCells_none w' b7.size 0 0 0⟩
  ·simp only [Value.slice.injEq]at pk;obtain⟨rfl,rfl,_⟩:=pk;refine⟨[],so _ _,λw' ln=>?_⟩
   exact run_firstCells_some (P:=P) w' b7.size 0 a 0 0 [] (by simp) (λj u hj=>by simp at hj)
  ·simp only [Value.slice.injEq]at pk;obtain⟨rfl,_,rfl⟩:=pk;refine⟨ee,holds,λw' ln=>?_⟩
   refine run_firstCells_some (P:=P) w' b7.size n ⟨b,off,none⟩ n n ee (by rw [holds.len]) (λj u hj=>?_)
   rw [addr_add,ov (w:=w) (by rw [ln])]
   exact h.bj.mem _ _ _ (hold j u hj)
 obtain⟨ee,holds,qz⟩:=qz
 have Bp:((n+m:Nat):Int)≤9223372036854775807:=by
  have:n+m≤(n+m)*b7.bytes:=Nat.le_mul_of_pos_right _ uf
  omega
 have Bq:=growslice_fits (need:=n+m) (old:=n) (bytes:=b7.bytes) cJ qw;have hcap:=grownCap_ge w (n+m) n e;have oB:=holds.app js
 have qA:dq.z.cells.size=b7.size:=by
  obtain⟨kM,_⟩:=sg (M:=M) dq.t';have:=dq.AV
  simp at kM;omega
 generalize qq:(Builtin.zeroCells dq.z.cells (grownCap w (n+m) n e-(n+m))).toList=zs
 have Br:Builtin.zeroCells dq.z.cells (grownCap w (n+m) n e-(n+m))=zs.toArray:=by rw [←qq]
 have Bs:zs.length=(grownCap w (n+m) n e-(n+m))*b7.size:=by
  rw [←qq];simp [Builtin.zeroCells,qA]
 have ec:∀ty,(Builtin.append_ #[t,gf] ty #[tmps.getD s undef,(⟨tmps,[]⟩:Act).eval x]).run P w =
  .ok (.slice (some ⟨w.heap.size,0,none⟩) (n+m) (grownCap w (n+m) n e)) (w.drew.alloc (.cells ⟨ee++news++zs⟩ e (0,0))):=by
  intro ty;have:=run_append_grow_src (P:=P) w t gf ty e dq.info dq.z ug dq.hi dq.dQ base n n ee (by rw [dq.size];exact qz w.drew rfl) _ m news (by rw [dq.size];exact ml) cJ Bp (by rw [dq.bytes];exact Bq)
  rw [az,this,Br];simp
 have ln:(w.drew.alloc (.cells ⟨ee++news++zs⟩ e (0,0))).heap=w.heap.push (.cells ⟨ee++news++zs⟩ e (0,0)):=rfl
 have Bt:(ee++news++zs).length=grownCap w (n+m) n e*b7.size:=by
  rw [List.length_append,oB.len,Bs,←Nat.add_mul];congr 1;omega
 obtain⟨cD,hle⟩:=mh.newRow (vs:=ee++news++zs) (T:=e) (n:=(n+m)*b7.size) ln
 have ub:(ee++news++zs).take ((n+m)*b7.size)=ee++news:=by
  rw [List.take_append_of_le_length (by rw [oB.len];exact Nat.le_refl _),List.take_of_length_le (by rw [oB.len];exact Nat.le_refl _)]
 refine .inl ⟨_,_,xp aw hc fA fZ mj qy rfl ec,_,β,hle,λ_ _ h=>h,λ_ _ h=>.inl h,cD,λe1 he=>?_⟩
 cases he;refine⟨.v _ _ (b1 _ _ ((oB.mono hle).bz hcap λq u hu=>?_)),λT l0 aO=>?_⟩
 ·rw [ub];exact xk hu
 ·cases aO;have:=A' (l0:=l0) (T:=e) mh (vs:=ee++news++zs) (T':=e) (n:=n+m) (cap:=grownCap w (n+m) n e) rfl ln hcap (by rw [dq.cellsOf,Bt];exact Nat.le_refl _)
  rw [dq.cellsOf]at this;exact this
def Jy(h:e0 P K N M β g tmps w)(hp:fa tmps p)(b0:eJ P tt=true){t gf e:TypeId}{aE b7:dZ}(ag:look tt t=some aE)(hk:aE.k = .bz e)(eI:look tt e=some b7){s:Nat}{x:Operand}{c:Call}
 (aw:o.op = .call c) (hc:c.callee = .builtin .append) (fA:c.args.toList=[.tmp s,x]) (fZ:c.argTypes.toList[0]? = some t) (mj:c.argTypes.toList[1]? = some gf)
 {n m:Nat} {get jX:Nat→V} (hs:rd g.env g.bN p tt o.type (.tmp s)=some (.v (.bz b7.size n get))) {sn:aR} (qu:look g.env s=some sn) (fh:sn.own=some e) (uf:1≤b7.bytes)
 {news:List Value} (ml:Src P b7.size gf ((⟨tmps,[]⟩:Act).eval x) m news w) (js:jr M b7.size m jX news) (qw:(n+m)*b7.bytes≤140737488355328)
 {y:V} (b1:f6 (.bz b7.size (n+m) λi=>bif Nat.blt i n then get i else jX (i-n)) y) {rs:List eT} {a6:List Prop}:
 Yields P K M β g {e:=some {d:=.v y,own:=some e},f8:=[s],rs,a6} o tmps w:=by
 obtain⟨r⟩:=dR b0 ag;obtain⟨dq⟩:=dR b0 eI;have mh:=h.bj.f8 [s];have d':=dz (ds:=[]) h hp hs;have ug:P.underlying t=some (.slice e):=by rw [r.hd,mU r hk]
 have qy:(⟨tmps,[]⟩:Act).eval (.tmp s)=tmps.getD s undef:=rfl;rw [qy]at d';have uh:=h.bj.own (.slot s) sn e qu fh;simp only [bZ]at uh;have ui:=h.bj.hand qu fh
 -- jM row Wf is grown
 have Jz:∀(base:Option Addr) (jN:Nat) (ee:List Value),tmps.getD s undef = .slice base n jN→jr M b7.size n get ee→
  (∀w':World,w'.heap=w.heap→(Builtin.firstCells b7.size n (.slice base n jN)).run P w' = .ok ee.toArray w')→jN<n+m→
  Yields P K M β g {e:=some {d:=.v y,own:=some e},f8:=[s],rs,a6} o tmps w:=by
  intro base jN ee az holds qz cJ
  have Bp:((n+m:Nat):Int)≤9223372036854775807:=by
   have:n+m≤(n+m)*b7.bytes:=Nat.le_mul_of_pos_right _ uf
   omega
  have Bq:=growslice_fits (need:=n+m) (old:=jN) (bytes:=b7.bytes) cJ qw;have hcap:=grownCap_ge w (n+m) jN e;have oB:=holds.app js
  have qA:dq.z.cells.size=b7.size:=by
   obtain⟨kM,_⟩:=sg (M:=M) dq.t';have:=dq.AV
   simp at kM;omega
  generalize qq:(Builtin.zeroCells dq.z.cells (grownCap w (n+m) jN e-(n+m))).toList=zs
  have Br:Builtin.zeroCells dq.z.cells (grownCap w (n+m) jN e-(n+m))=zs.toArray:=by rw [←qq]
  have Bs:zs.length=(grownCap w (n+m) jN e-(n+m))*b7.size:=by
   rw [←qq];simp [Builtin.zeroCells,qA]
  have ec:∀ty,(Builtin.append_ #[t,gf] ty #[tmps.getD s undef,(⟨tmps,[]⟩:Act).eval x]).run P w =
   .ok (.slice (some ⟨w.heap.size,0,none⟩) (n+m) (grownCap w (n+m) jN e)) (w.drew.alloc (.cells ⟨ee++news++zs⟩ e (0,0))):=by
   intro ty;have:=run_append_grow_src (P:=P) w t gf ty e dq.info dq.z ug dq.hi dq.dQ base n jN ee (by rw [dq.size];exact qz w.drew rfl) _ m news (by rw [dq.size];exact ml) cJ Bp (by rw [dq.bytes];exact Bq)
   rw [az,this,Br];simp
  have ln:(w.drew.alloc (.cells ⟨ee++news++zs⟩ e (0,0))).heap=w.heap.push (.cells ⟨ee++news++zs⟩ e (0,0)):=rfl
  have Bt:(ee++news++zs).length=grownCap w (n+m) jN e*b7.size:=by
   rw [List.length_append,oB.len,Bs,←Nat.add_mul];congr 1;omega
  obtain⟨cD,hle⟩:=mh.newRow (vs:=ee++news++zs) (T:=e) (n:=(n+m)*b7.size) ln
  have ub:(ee++news++zs).take ((n+m)*b7.size)=ee++news:=by
   rw [List.take_append_of_le_length (by rw [oB.len];exact Nat.le_refl _),List.take_of_length_le (by rw [oB.len];exact Nat.le_refl _)]
  refine .inl ⟨_,_,xp aw hc fA fZ mj qy rfl ec,_,β,hle,λ_ _ h=>h,λ_ _ h=>.inl h,cD,λe1 he=>?_⟩
  cases he;refine⟨.v _ _ (b1 _ _ ((oB.mono hle).bz hcap λq u hu=>?_)),λT l0 aO=>?_⟩
  ·rw [ub];exact xk hu
  ·cases aO;have:=A' (l0:=l0) (T:=e) mh (vs:=ee++news++zs) (T':=e) (n:=n+m) (cap:=grownCap w (n+m) jN e) rfl ln hcap (by rw [dq.cellsOf,Bt];exact Nat.le_refl _)
   rw [dq.cellsOf]at this;exact this
 replace uh:=im.bz uh d'
 have ch:(tmps.getD s undef = .slice none 0 0∧n=0)∨∃(b off cap:Nat) (ee:List Value),tmps.getD s undef = .slice (some ⟨b,off,none⟩) n cap∧n≤cap∧jr M b7.size n get ee∧∀(q:Nat) u,ee[q]? = some u→M b (off+q)=some u:=by
  rcases Bm d' with⟨az|⟨a,az⟩,sq⟩|hx
  ·exact .inl ⟨az,sq⟩
  ·subst sq;rcases uh with h0|⟨bF,n',JA,vs,T',ab,_⟩
   ·exact .inl ⟨h0,rfl⟩
   ·rw [az]at ab;simp only [Value.slice.injEq,Option.some.injEq]at ab;obtain⟨rfl,rfl,rfl⟩:=ab;exact .inr ⟨bF,0,0,[],az,Nat.le_refl _,so _ _,λq u hu=>by simp at hu⟩
  ·exact .inr hx
 rcases ch with⟨az,sq⟩|⟨b,off,cap,ee,az,hcap,holds,hold⟩
 ·subst sq;by_cases hm:m=0
  ·subst hm;refine .inl ⟨_,_,xp aw hc fA fZ mj (qy.trans az) rfl (λty=>Wd (w:=w) t gf ty e dq.info ug dq.hi _ news (by rw [dq.size];exact ml)),M,β,Mem.le_refl _,λ_ _ h=>h,λ_ _ h=>.inl h,mh,λe1 he=>?_⟩
   cases he;exact⟨.v _ _ (b1 _ _ (.jJ _ _)),λT l0 _=>AQ l0 T⟩
  ·refine Jz none 0 [] az (so _ _) (λw' _=>run_firstCells_none w' b7.size 0 0 0) (by omega)
 ·by_cases cJ:cap<n+m
  ·refine Jz (some ⟨b,off,none⟩) cap ee az holds (λw' ln=>?_) cJ
   refine run_firstCells_some (P:=P) w' b7.size n ⟨b,off,none⟩ n cap ee (by rw [holds.len]) (λj u hj=>?_)
   rw [addr_add,ov (w:=w) (by rw [ln])]
   exact h.bj.mem _ _ _ (hold j u hj)
  · -- there is room
   rcases uh with h0|⟨bF,n',JA,vs,T',ab,afF,bu,kP,iF,dg,A_⟩
   ·rw [az]at h0;simp at h0
   ·rw [az]at ab;simp only [Value.slice.injEq,Option.some.injEq,Addr.mk.injEq,and_true]at ab;obtain⟨⟨rfl,rfl⟩,rfl,rfl⟩:=ab;rw [dq.cellsOf]at kP iF
    have hlen:n*b7.size+news.length≤vs.length:=by
     rw [js.len,←Nat.add_mul];exact Nat.le_trans (Nat.mul_le_mul_right _ (by omega)) kP
    have ec:∀ty,(Builtin.append_ #[t,gf] ty #[tmps.getD s undef,(⟨tmps,[]⟩:Act).eval x]).run P w =
     .ok (.slice (some ⟨b,0,none⟩) (n+m) cap) (w.setRow b (vs.take (n*b7.size)++news++vs.drop (n*b7.size+news.length)).toArray):=by
     intro ty;have:=Wc (P:=P) (w:=w) t gf ty e dq.info ug dq.hi b n cap _ m news (by rw [dq.size];exact ml) (by omega) bu (by rw [dq.size];exact hlen)
     rw [dq.size]at this;rw [az,this]
    generalize JB:vs.take (n*b7.size)++news++vs.drop (n*b7.size+news.length)=vs' at ec
    have Wg:vs'.length=vs.length:=by rw [←JB,qs hlen]
    have nD:(w.setRow b vs'.toArray).heap[b]? = some (.cells ⟨vs'⟩ T' (0,0)):=setRow_heap w b _ _ T' (0,0) bu;have hle:M.le (hF M b (n*b7.size) news):=A9 iF;have iD:∀T,hA T (tmps.getD s undef) b:=λT=>by rw [az];rfl
    have cD:bB P K (hF M b (n*b7.size) news) β {env:=fT [s] g.env,H:=g.H,aT:=g.aT} tmps (w.setRow b vs'.toArray):=by
     refine mh.free b dg (λr cs aj hb=>(ui (.slot s)).unbox b r cs (iD _) aj hb) (λl e1 fY fb pm=>?_) (λbF dF _=>setRow_other w b bF _ dF) hle (λbF o' dF=>?_) (λo' h8 mm=>?_)
     ·by_cases xq:l = .slot s
      ·subst xq;simp only [aF.at,kO,List.mem_singleton,if_true,Option.map_eq_some_iff]at fb;obtain⟨_,_,rfl⟩:=fb;simp at pm
      ·exact(ui (.slot s)).apart l e1 fY b fb pm xq (iD _)
     ·simp [hF,dF]
     ·rw [cell_of_heap nD,←JB,uc hlen];unfold hF at mm;split at mm
      ·rename_i ip;rw [if_pos ⟨ip.2.1,ip.2.2⟩];exact mm
      ·rename_i ip;rw [if_neg (λuj=>ip ⟨rfl,uj.1,uj.2⟩)]
       have:=h.bj.mem _ _ _ mm
       rwa [cell_of_heap bu]at this
    refine .inl ⟨_,_,xp aw hc fA fZ mj qy rfl ec,_,β,hle,λ_ _ h=>h,λ_ _ h=>.inl h,cD,λe1 he=>?_⟩
    cases he;refine⟨.v _ _ (b1 _ _ (((holds.app js).mono hle).bz (by omega) λq u hu=>?_)),λT l0 aO=>?_⟩
    ·by_cases aP:q<ee.length
     ·rw [List.getElem?_append_left aP]at hu;exact hle _ _ _ (hold q u hu)
     ·rw [List.getElem?_append_right (by omega)]at hu
      have:=xk (M:=M) (b:=b) (lo:=n*b7.size) hu
      rw [holds.len]at this;rw [Nat.zero_add];have mX:n*b7.size+(q-n*b7.size)=q:=by rw [holds.len]at aP;omega
      rwa [mX]at this
    ·cases aO;refine⟨.inr ⟨b,n+m,cap,vs',T',rfl,by omega,nD,by rw [dq.cellsOf,Wg];exact kP,λo' iY=>?_,dg,A_⟩,λl e1 fY cb fb pm _ cI=>?_,λcb r cs cI aj=>?_⟩
     ·rw [dq.cellsOf,Nat.add_mul]at iY;unfold hF;rw [if_neg (λuj=>by rw [js.len]at uj;omega)]
      exact iF o' (by omega)
     ·simp [hA,il]at cI;subst cI
      have xq:l ≠ .slot s:=by
       rintro rfl
       simp only [after,aF.at,kO,List.mem_singleton,if_true,Option.map_eq_some_iff]at fb;obtain⟨_,_,rfl⟩:=fb;simp at pm
      have Wh:bZ tmps (w.setRow b vs'.toArray) β l=bZ tmps w β l:=by
       cases l with
       |slot ow=>rfl
       |cell r i=>
        have eI:=fb;simp only [after,aF.at]at eI;cases aj:look g.H r with
        |none=>simp [aj]at eI
        |some cs=>
         obtain⟨mn,JC,mT,fj,JD,_⟩:=h.bj.box r cs aj;have dF:mn≠b:=by rintro rfl;exact(ui (.slot s)).unbox mn r cs (iD _) aj fj
         simp only [bZ,fj];rw [ov (w:=w) (setRow_other w b mn _ dF)]
      rw [Wh];exact(ui (.slot s)).apart l e1 fY b fb pm xq (iD _)
     ·simp [hA,il]at cI;subst cI;exact(ui (.slot s)).unbox b r cs (iD _) aj
def JE(h:bB P K M β {env:=g.env,H:=g.H,aT:=g.aT} tmps w)(b0:eJ P tt=true){gf e2:TypeId}{aE:dZ}(ag:look tt gf=some aE)(hk:aE.k = .bz e2){v:Value}{k m:Nat}{get:Nat→V}
 (az:ce M β v (.v (.bz k m get))):∃news,Src P k gf v m news w∧jr M k m get news:=by
 obtain⟨r⟩:=dR b0 ag;have hu:P.underlying gf=some (.slice e2):=by rw [r.hd,mU r hk]
 rcases Bm az with⟨rfl|⟨a,rfl⟩,rfl⟩|⟨b,off,cap,ee,rfl,_,js,hold⟩
 ·exact⟨[],Src.ofNil w hu 0,so _ _⟩
 ·exact⟨[],Src.ofSlice w hu a 0 0 [] (by simp) (λj u hj=>by simp at hj) (by simp),so _ _⟩
 ·have hc:∀(j:Nat) u,ee[j]? = some u→w.cell? ((⟨b,off,none⟩:Addr).add j)=some u:=λj u hj=>by rw [addr_add];exact h.mem _ _ _ (hold j u hj)
  exact⟨ee,Src.ofSlice w hu _ m cap ee js.len hc js.one,js⟩
def Wi(b0:eJ P tt=true){gf:TypeId}{aE:dZ}(ag:look tt gf=some aE)(hk:aE.k = .str)(l:ahs)(M:Mem):
 ∃news,Src P 1 gf (.string ⟨⟨l⟩⟩) l.length news w∧jr M 1 l.length (λi=>.int .u8 (l.getD i 0).toNat) news:=by
 obtain⟨r⟩:=dR b0 ag;have hu:P.underlying gf=some .string:=by rw [r.hd,nB r hk]
 refine⟨byteCells ⟨⟨l⟩⟩,Src.ofString w hu ⟨⟨l⟩⟩,⟨by simp [byteCells],λi _=>rfl,λu hu=>?_,λi j c u hi hc hu=>?_⟩⟩
 ·obtain⟨_,_,rfl⟩:=List.mem_map.1 hu;rfl
 ·cases j with
  |succ j=>simp [V.cells]at hc
  |zero=>
   simp [V.cells]at hc;subst hc;simp only [byteCells,Nat.mul_one,Nat.add_zero,List.getElem?_map,Option.map_eq_some_iff]at hu;obtain⟨a,ha,rfl⟩:=hu;have:l[i]? = some a:=ha
   simp [this];exact .int _ _
end
def oC:Nat→List D→List (Nat×TypeId)→List aR
 |_,[],_=>[]
 |i,d::l,dM=>{d,own:=look dM i}::oC (i+1) l dM
def gu(args:List D)(dM:List (Nat×TypeId)):List (Nat×aR):=cH 0 (oC 0 args dM)
def uk:∀(l:List D) (k i:Nat) (dM:List (Nat×TypeId)),(oC k l dM)[i]? = (l[i]?).map λd=>({d,own:=look dM (k+i)}:aR)
 |[],k,i,dM=>by simp [oC]
 |d::l,k,i,dM=>by
  cases i with
  |zero=>simp [oC]
  |succ i=>
   simp only [oC,List.getElem?_cons_succ,uk l (k+1) i dM];rw [show k+1+i=k+(i+1)by omega]
def gx:Out→List (Nat×aR)
 |.ret d own=>[(0,{d,own})]
 |.bb x=>[(0,{d:=.v x})]
def nH:Out→Value→Ending
 |.ret _ _,v=>.returned v
 |.bb _,v=>.panicked [{v,recovered:=false}]
def nI(P:Program)(f:FuncId)(args:List D)(dM:List (Nat×TypeId))(H:List (List aR))(R:Out→List (List aR)→Prop):Prop:=
 (∃ fd, P.funcs[f]? = some fd ∧ fd.body.isSome = true ∧ fd.name ≠ "runtime.NumGoroutine") ∧
 ∀(K:Ctx) (w:World) (vs:List Value) (M:Mem) (β:Nat→Option Nat),vs.length=args.length→
  bB P K M β {env:=gu args dM,H:=cH 0 H,aT:=H.length} ⟨vs⟩ w→(∀r b,β r=some b→K.h5 r=some b)→
  Calls P f ⟨vs⟩ w λe w'=>∃o H' v M' β',R o H'∧e=nH o v∧bB P K M' β' {env:=gx o,H:=cH 0 H',aT:=H.length} #[v] w'
def nI.mono{P:Program}{f:FuncId}{args:List D}{dM:List (Nat×TypeId)}{H:List (List aR)}{R JF:Out→List (List aR)→Prop}(h:nI P f args dM H R)(aj:∀o H',R o H'→JF o H'):nI P f args dM H JF:=
 ⟨h.1,λK w vs M β ag hs hb=>(h.2 K w vs M β ag hs hb).mono λ_ _ ⟨o,H',v,M',β',ab,ah,ay⟩=>⟨o,H',v,M',β',aj _ _ ab,ah,ay⟩⟩
def fP(P:Program)(f:FuncId)(args:List D)(dM:List (Nat×TypeId))(H:List (List aR))(o:Out)(cn:List (List aR)):Prop:=nI P f args dM H λo' H'=>o'=o∧H'=cn
def gg(P:Program):fI:={call:=fP P,eq:=AT P}
def JG{α:Type}:∀(l:List α) (n i:Nat),look (cH n l) i=if n≤i then l[i-n]? else none
 |[],n,i=>by simp [cH,look]
 |x::l,n,i=>by
  simp only [cH,dd,JG l (n+1) i];by_cases ab:n=i
  ·subst ab;simp
  ·rw [if_neg ab];by_cases ah:n≤i
   ·rw [if_pos (by omega),if_pos ah]
    obtain⟨j,rfl⟩:∃j,i=n+1+j:=⟨i-(n+1),by omega⟩
    rw [show n+1+j-(n+1)=j by omega,show n+1+j-n=j+1 by omega]
    simp
   ·rw [if_neg (by omega),if_neg ah]
def kR{α:Type}(l:List α)(i:Nat):look (cH 0 l) i=l[i]? := by simp [JG]
def xr:∀{ρ:List Nat} {r j:Nat},idx ρ r=some j→ρ[j]? = some r
 |[],_,_,h=>by simp [idx]at h
 |x::l,r,j,h=>by
  simp only [idx]at h;rw [Bool.cond_eq_ite]at h;split at h
  ·rename_i hb;cases h;simp at hb;simp [hb]
  ·simp only [Option.map_eq_some_iff]at h;obtain⟨k,hk,rfl⟩:=h;simpa using xr hk
def xt:∀{l:List Nat},kL l=true→∀(i j:Nat) r,l[i]? = some r→l[j]? = some r→i=j
 |[],_,i,_,_,h,_=>by simp at h
 |x::l,h,i,j,r,hi,hj=>by
  simp only [kL,Bool.and_eq_true,Bool.not_eq_true',List.any_eq_false]at h;have hx:∀k,l[k]? = some x→False:=λk hk=>by have:=h.1 x (List.mem_of_getElem? hk);simp at this
  cases i<;>cases j
  ·rfl
  ·simp at hi hj;subst hi;exact(hx _ hj).elim
  ·simp at hi hj;subst hj;exact(hx _ hi).elim
  ·simp at hi hj;rw [xt h.2 _ _ r hi hj]
def qB{H:List (Nat×List aR)}:∀{ρ:List Nat} {bs:List (List aR)},boxes H ρ=some bs→bs.length=ρ.length∧∀(j r:Nat),ρ[j]? = some r→look H r=bs[j]? ∧ (bs[j]?).isSome=true
 |[],bs,h=>by simp [boxes]at h;subst h;simp
 |x::ρ,bs,h=>by
  simp only [boxes]at h;split at h
  case h_2=>cases h
  rename_i b mY hb i8;cases h;obtain⟨ab,ah⟩:=qB i8;refine⟨by simp [ab],λj r hj=>?_⟩
  cases j with
  |zero=>simp at hj;subst hj;simp [hb]
  |succ j=>simp at hj;simpa using ah j r hj
def sr{f:Nat→Option Nat}:∀{b bF:List aR},kK f b=some bF→bF.length=b.length∧∀(i:Nat) aZ,bF[i]? = some aZ→∃e,b[i]? = some e∧dW f e.d=some aZ.d∧aZ.own=e.own
 |[],bF,h=>by simp [kK]at h;subst h;simp
 |e::l,bF,h=>by
  simp only [kK]at h;split at h
  case h_2=>cases h
  rename_i e1 g_ he ag;cases h;obtain⟨ab,ah⟩:=sr ag;refine⟨by simp [ab],λi aZ hi=>?_⟩
  cases i with
  |zero=>
   simp at hi;subst hi
   simp only [w2,Option.map_eq_some_iff]at he;obtain⟨d,hd,rfl⟩:=he;exact⟨e,by simp,hd,rfl⟩
  |succ i=>simp at hi;simpa using ah i aZ hi
def Wj{f:Nat→Option Nat}{d:D}{r off:Nat}{u:TypeId}(h:dW f d=some (.ca r off u)):∃eZ,d = .ca eZ off u:=by
 cases d with
 |ca eZ afG JH=>
  simp only [dW,Option.map_eq_some_iff]at h;obtain⟨s,_,ah⟩:=h;cases ah;exact⟨eZ,rfl⟩
 |v x=>simp [dW]at h
 |eA x=>simp [dW]at h
 |full k n get=>simp [dW]at h
 |ptr eZ o=>simp [dW]at h
 |fn g c=>simp [dW]at h
 |agg c=>simp [dW]at h
 |b_ c=>simp [dW]at h
def jm.dW{P:Program}{T:TypeId}{n:Nat}{f:Nat→Option Nat}{b bF:List aR}(h:jm P T n b)(aj:kK f b=some bF):jm P T n bF:=λe he r off u hd=>by
 obtain⟨i,hi,rfl⟩:=List.getElem_of_mem he;obtain⟨bI,ab,ah,_⟩:=(sr aj).2 i _ (List.getElem?_eq_getElem hi);rw [hd]at ah;obtain⟨eZ,ay⟩:=Wj ah;exact h bI (List.mem_of_getElem? ab) eZ off u ay
def ss{f:Nat→Option Nat}:∀{bs mY:List (List aR)},ij f bs=some mY→mY.length=bs.length∧∀(j:Nat) bF,mY[j]? = some bF→∃b,bs[j]? = some b∧kK f b=some bF
 |[],mY,h=>by simp [ij]at h;subst h;simp
 |b::l,mY,h=>by
  simp only [ij]at h;split at h
  case h_2=>cases h
  rename_i cb g_ hb ag;cases h;obtain⟨ab,ah⟩:=ss ag;refine⟨by simp [ab],λj bF hj=>?_⟩
  cases j with
  |zero=>simp at hj;subst hj;exact⟨b,by simp,hb⟩
  |succ j=>simp at hj;simpa using ah j bF hj
def Bu{H:List (Nat×List aR)}:∀{ρ:List Nat} {bs:List (List aR)},bs.length=ρ.length→kL ρ=true→∀r,
 (∀(j:Nat),ρ[j]? = some r→look (jl ρ bs++H) r=bs[j]?)∧((∀(j:Nat),ρ[j]? ≠ some r)→look (jl ρ bs++H) r=look H r)
 |[],bs,_,_,r=>by simp [jl]
 |x::ρ,[],h,_,_=>by simp at h
 |x::ρ,b::bs,h,hn,r=>by
  have xb:kL ρ=true:=by simp [kL]at hn;exact hn.2
  obtain⟨ab,ah⟩:=Bu (H:=H) (ρ:=ρ) (bs:=bs) (by simpa using h) xb r
  simp only [jl,List.cons_append,dd];refine⟨λj hj=>?_,λhj=>?_⟩
  ·by_cases hx:x=r
   ·have:j=0:=xt hn j 0 r hj (by simp [hx])
    subst this;simp [hx]
   ·cases j with
    |zero=>simp at hj;exact(hx hj).elim
    |succ j=>simp at hj;rw [if_neg hx];simpa using ab j hj
  ·have hx:x≠r:=λe=>hj 0 (by simp [e])
   rw [if_neg hx];exact ah λj=>by simpa using hj (j+1)
section
variable {P:Program} {K:Ctx} {N:Nat} {M:Mem} {β:Nat→Option Nat} {st:aF} {g:cU} {tmps:Array Value} {w:World} {o:Oper} {f:jj} {p:Path} {tt:de} {b5:fI} {ops:List Oper}
def ul(ρ os:List Nat):Loc→Prop
 |.cell r _=>r∈ρ
 |.slot t=>t∈os
def nJ(st:aF)(tmps:Array Value)(w:World)(β:Nat→Option Nat)(ρ os:List Nat)(b:Nat):Prop:=
 (∃r,r∈ρ∧β r=some b)∨∃l e T,ul ρ os l∧st.at l=some e∧e.own=some T∧hA T (bZ tmps w β l) b
open Classical in
noncomputable def iG(M:Mem)(β:Nat→Option Nat)(st:aF)(tmps:Array Value)(w:World)(ρ os:List Nat):Ctx:=
 {qe:=M,F:=λb=>if nJ st tmps w β ρ os b then none else w.heap[b]?,h5:=λj=>(ρ[j]?).bind β,gn:=(w.os,w.output)}
structure Handed(st:aF)(tmps:Array Value)(vs:List Value)(hd:List (Nat×Option Nat×TypeId)):Prop where
 some:∀i t T,(i,Option.some t,T)∈hd→∃e,st.at (.slot t)=Option.some e∧e.own=Option.some T∧vs[i]? = Option.some (tmps.getD t undef)
 none:∀i T,(i,Option.none,T)∈hd→vs[i]? = Option.some (.slice Option.none 0 0)
 inj:∀i j t T T',(i,Option.some t,T)∈hd→(j,Option.some t,T')∈hd→i=j
def pn(hd:List (Nat×Option Nat×TypeId)):List (Nat×TypeId):=hd.map λx=>(x.1,x.2.2)
def nK(hd:List (Nat×Option Nat×TypeId)):List Nat:=hd.filterMap λx=>x.2.1
def Wk{hd:List (Nat×Option Nat×TypeId)}{i:Nat}{T:TypeId}(h:look (pn hd) i=some T):∃o,(i,o,T)∈hd:=by
 have:=ox h
 simp only [pn,List.mem_map]at this;obtain⟨⟨a,o,T'⟩,ab,ah⟩:=this;cases ah;exact⟨o,ab⟩
def Wl{hd:List (Nat×Option Nat×TypeId)}{i t:Nat}{T:TypeId}(h:(i,some t,T)∈hd):t∈nK hd:=by
 simp only [nK,List.mem_filterMap];exact⟨_,h,rfl⟩
def xu(ρ:List Nat)(hd:List (Nat×Option Nat×TypeId))(T:TypeId):Loc→Loc→Prop
 |.cell j i,.cell r kr=>i=kr∧ρ[j]? = some r
 |.slot s,.slot t=>(s,some t,T)∈hd
 |_,_=>False
def JI(h:bB P K M β st tmps w){ρ:List Nat}{bs H1:List (List aR)}(hn:kL ρ=true)(i8:boxes st.H ρ=some bs)(ka:ij (idx ρ) bs=some H1){ds h3:List D}{vs:List Value}
 (hlen:vs.length=ds.length) (az:∀(i:Nat) v d,vs[i]? = some v→ds[i]? = some d→ce M β v d) (fA:jk (idx ρ) ds=some h3) {hd:List (Nat×Option Nat×TypeId)} (qC:Handed st tmps vs hd):
 bB P (iG M β st tmps w ρ (nK hd)) M (λj=>(ρ[j]?).bind β) {env:=gu h3 (pn hd),H:=cH 0 H1,aT:=H1.length} ⟨vs⟩ w:=by
 obtain⟨cI,fj⟩:=qB i8;obtain⟨hC,iq⟩:=ss ka;obtain⟨afH,Wm⟩:=r_ fA
 have JJ:∀{v d dH},ce M β v d→dW (idx ρ) d=some dH→ce M (λj=>(ρ[j]?).bind β) v dH:=by
  intro v d dH hd iC;exact hd.dW (λr s b hs hb=>by rw [xr hs];simpa using hb) iC
 -- a cell of jM Bv is a cell of ours
 have gH:∀j i aZ,({env:=gu h3 (pn hd),H:=cH 0 H1,aT:=H1.length}:aF).at (.cell j i)=some aZ→∃(r:Nat) (e:aR),ρ[j]? = some r∧st.at (.cell r i)=some e∧dW (idx ρ) e.d=some aZ.d∧aZ.own=e.own∧
  bZ ⟨vs⟩ w (λj=>(ρ[j]?).bind β) (.cell j i)=bZ tmps w β (.cell r i):=by
  intro j i aZ he;simp only [aF.at,kR]at he;cases hj:H1[j]? with
  |none=>simp [hj]at he
  |some bF=>
   simp only [hj,Option.bind_some]at he;obtain⟨b,hb,ls⟩:=iq j bF hj;have qD:j<ρ.length:=by have:=(List.getElem?_eq_some_iff.1 hb).1;omega
   have jO:ρ[j]? = some ρ[j]:=List.getElem?_eq_getElem qD;obtain⟨ag,_⟩:=fj j _ jO;obtain⟨_,Bw⟩:=sr ls;obtain⟨e,mW,Bx,By⟩:=Bw i aZ he;exact⟨_,e,jO,by simp [aF.at,ag,hb,mW],Bx,By,by simp [bZ,jO]⟩
 have JK:∀s aZ,({env:=gu h3 (pn hd),H:=cH 0 H1,aT:=H1.length}:aF).at (.slot s)=some aZ→aZ.own=look (pn hd) s∧∃v d,vs[s]? = some v∧ds[s]? = some d∧dW (idx ρ) d=some aZ.d:=by
  intro s aZ he;simp only [aF.at,gu,kR,uk,Option.map_eq_some_iff]at he;obtain⟨dH,iC,rfl⟩:=he;have hs:s<h3.length:=(List.getElem?_eq_some_iff.1 iC).1;have gy:ds[s]? = some ds[s]:=List.getElem?_eq_getElem (by omega)
  obtain⟨d1,fJ,Wn⟩:=Wm s _ gy;rw [iC]at fJ;cases fJ;exact⟨by simp,_,_,List.getElem?_eq_getElem (by omega),gy,Wn⟩
 -- afI 'own' place of jM Bv is one of ours
 have xv:∀cr aZ T,({env:=gu h3 (pn hd),H:=cH 0 H1,aT:=H1.length}:aF).at cr=some aZ→aZ.own=some T→
  bZ ⟨vs⟩ w (λj=>(ρ[j]?).bind β) cr = .slice none 0 0∨∃l e,xu ρ hd T cr l∧ul ρ (nK hd) l∧st.at l=some e∧e.own=some T∧bZ ⟨vs⟩ w (λj=>(ρ[j]?).bind β) cr=bZ tmps w β l:=by
  intro cr aZ T ag aO;cases cr with
  |slot s=>
   obtain⟨aw,v,d,ab,ah,ay⟩:=JK s aZ ag;rw [aw]at aO;obtain⟨o,hm⟩:=Wk aO;have bY:bZ (⟨vs⟩:Array Value) w (λj=>(ρ[j]?).bind β) (.slot s)=v:=by simp [bZ,ab]
   cases o with
   |none=>
    have:=qC.none s T hm
    rw [ab]at this;cases this;exact .inl bY
   |some t=>
    obtain⟨e,bl,bQ,df⟩:=qC.some s t T hm;rw [ab]at df;cases df;exact .inr ⟨.slot t,e,hm,Wl hm,bl,bQ,bY⟩
  |cell j i=>
   obtain⟨r,e,jO,he,_,fh,bY⟩:=gH j i aZ ag;exact .inr ⟨.cell r i,e,⟨rfl,jO⟩,List.mem_of_getElem? jO,he,by rw [←fh,aO],bY⟩
 have Wo:∀T T' g_ kb l,xu ρ hd T g_ l→xu ρ hd T' kb l→g_=kb:=by
  intro T T' g_ kb l ab ah;cases g_<;>cases kb<;>cases l<;>simp only [xu]at ab ah
  ·rw [qC.inj _ _ _ _ _ ab ah]
  ·obtain⟨rfl,ay⟩:=ab;obtain⟨rfl,bl⟩:=ah;rw [xt hn _ _ _ ay bl]
 have iH:∀j cs',look (cH 0 H1) j=some cs'→∃(r:Nat) (cs:List aR),ρ[j]? = some r∧look st.H r=some cs∧cs.length=cs'.length∧∃f,kK f cs=some cs':=by
  intro j cs' hj;rw [kR]at hj;obtain⟨b,hb,ls⟩:=iq j cs' hj;have qD:j<ρ.length:=by have:=(List.getElem?_eq_some_iff.1 hb).1;omega
  have jO:ρ[j]? = some ρ[j]:=List.getElem?_eq_getElem qD;obtain⟨ag,_⟩:=fj j _ jO;exact⟨_,b,jO,by rw [ag,hb],(sr ls).1.symm,_,ls⟩
 constructor
 ·intro l aZ ag;cases l with
  |slot s=>
   obtain⟨_,v,d,ab,ah,ay⟩:=JK s aZ ag;have:=JJ (az s v d ab ah) ay
   simpa [bZ,ab]using this
  |cell j i=>
   obtain⟨r,e,jO,he,ls,_,bY⟩:=gH j i aZ ag;rw [bY];exact JJ (h.ew _ e he) ls
 ·intro cr aZ T ag aO;rcases xv cr aZ T ag aO with h0|⟨l,e,_,bu,he,dy,bY⟩
  ·rw [h0];exact .inl rfl
  ·rw [bY];refine(h.own _ e T he dy).sa λb hb _=>?_
   simp only [iG];rw [if_pos];exact .inr ⟨l,e,T,bu,he,dy,hb⟩
 ·intro g_ kb e1 e2 T T' b ag aO cx dy hb bH;rcases xv g_ e1 T ag aO with h0|⟨l,e,cc,bu,he,Bz,bY⟩
  ·rw [h0]at hb;cases hb
  rcases xv kb e2 T' cx dy with h0|⟨cr,aZ,mo,uj,um,Wp,nA⟩
  ·rw [h0]at bH;cases bH
  rw [bY]at hb;rw [nA]at bH;have:=h.uniq _ _ e aZ T T' b he Bz um Wp hb bH
  subst this;exact Wo _ _ _ _ _ cc mo
 ·intro cr aZ T b j cs' ag aO hb hj;rcases xv cr aZ T ag aO with h0|⟨l,e,cc,bu,he,Bz,bY⟩
  ·rw [h0]at hb;cases hb
  rw [bY]at hb;obtain⟨aq,cs,Wq,dE,_⟩:=iH j cs' hj;have:=h.unbox _ e T b aq cs he Bz hb dE
  simpa [Wq]using this
 ·intro j cs' hj;obtain⟨r,cs,jO,dE,ag,f,Wr⟩:=iH j cs' hj;obtain⟨b,kN,T,ab,ah,ay,bl,bQ,df⟩:=h.box r cs dE;refine⟨b,kN,T,by simp [jO,ab],ah,by omega,bl,?_,df.1,df.2.dW Wr⟩
  simp only [iG];rw [if_pos];exact .inl ⟨r,List.mem_of_getElem? jO,ab⟩
 ·intro j qE b c gp hj xw hb bH;obtain⟨r,cs,jO,dE,_⟩:=iH j c hj;obtain⟨ct,cs',JL,qF,_⟩:=iH qE gp xw;have:r=ct:=h.inj r ct b cs cs' dE qF (by simpa [jO]using hb) (by simpa [JL]using bH)
  subst this;exact xt hn j qE r jO JL
 ·intro j b hb;simp only [Option.bind_eq_some_iff]at hb;obtain⟨r,aj,_⟩:=hb;have:=(List.getElem?_eq_some_iff.1 aj).1
  show j<H1.length
  omega
 ·exact h.mem
 ·exact Mem.le_refl _
 ·intro b a6 hb;simp only [iG]at hb;split at hb
  ·cases hb
  ·exact⟨hb,λ_=>rfl⟩
 ·intro j b hb;exact hb
 ·refine h.hB.mono λb a6 dg=>?_
  have BA:¬ nJ st tmps w β ρ (nK hd) b:=by
   rintro (⟨r,aj,kc⟩|⟨l,e,T,aj,he,aO,iD⟩)
   ·obtain⟨j,hj⟩:=List.getElem?_of_mem aj;obtain⟨ag,qG⟩:=fj j r hj;obtain⟨cs,dE⟩:=Option.isSome_iff_exists.1 qG;obtain⟨mn,_,_,ay,_,_,_,bl,_⟩:=h.box r cs (by rw [ag,dE])
    rw [kc]at ay;cases ay;rw [bl]at dg;cases dg
   ·rw [(h.own _ e T he aO).free iD]at dg;cases dg
  simp only [iG];rw [if_neg BA];exact(h.frame b a6 dg).1
 ·rfl
def Ws{ρ os:List Nat}{st:aF}{H:List (Nat×List aR)}{n s:Nat}{e:aR}(ag:({env:=fT os st.env,H:=H,aT:=n}:aF).at (.slot s)=some e):
 ∃bI,st.at (.slot s)=some bI∧bI.d=e.d∧(∀T,e.own=some T→bI.own=some T)∧∀T,e.own=some T→¬ ul ρ os (.slot s):=by
 simp only [aF.at,kO]at ag;by_cases hs:s∈os
 ·rw [if_pos hs,Option.map_eq_some_iff]at ag;obtain⟨bI,ab,ah⟩:=ag;subst ah;exact⟨bI,ab,rfl,(λT aO=>by cases aO),(λT aO=>by cases aO)⟩
 ·rw [if_neg hs]at ag;exact⟨e,ag,rfl,(λT aO=>aO),(λT _=>hs)⟩
def BB(h:bB P K M β st tmps w){ρ:List Nat}{bs cn g':List (List aR)}(hn:kL ρ=true)(i8:boxes st.H ρ=some bs)(qH:ij (λj=>ρ[j]?) cn=some g')(eI:cn.length=ρ.length)
 {os:List Nat} {out:Out} {v:Value} {w':World} {M':Mem} {β':Nat→Option Nat} (hH:bB P (iG M β st tmps w ρ os) M' β' {env:=gx out,H:=cH 0 cn,aT:=ρ.length} #[v] w'):
 M.le M'∧bB P K M' β {env:=fT os st.env,H:=jl ρ g'++st.H,aT:=st.aT} tmps w'∧
 (∀d own,out = .ret d own→∀dH,dW (λj=>ρ[j]?) d=some dH→ce M' β v dH∧∀T l0,own=some T→kq P K M' β {env:=fT os st.env,H:=jl ρ g'++st.H,aT:=st.aT} tmps w' l0 v T)∧
 (∀x,out = .bb x→cT M' v x):=by
 obtain⟨cI,fj⟩:=qB i8;obtain⟨hC,iq⟩:=ss qH;have cP:M.le M':=hH.m0;have gb:∀(j r b:Nat),ρ[j]? = some r→β r=some b→β' j=some b:=λj r b hj hb=>hH.gN j b (by simp [iG,hj,hb])
 have po:∀(j r:Nat),ρ[j]? = some r→∃cs b,look st.H r=some cs∧β r=some b∧β' j=some b:=by
  intro j r hj;obtain⟨ab,ah⟩:=fj j r hj;obtain⟨cs,dE⟩:=Option.isSome_iff_exists.1 ah;rw [dE]at ab;obtain⟨b,_,_,hb,_⟩:=h.box r cs ab;exact⟨cs,b,ab,hb,gb j r b hj hb⟩
 have JM:∀{v d dH},ce M' β' v d→dW (λj=>ρ[j]?) d=some dH→ce M' β v dH:=by
  intro v d dH hd iC;refine hd.dW (λj r b hj hb=>?_) iC
  obtain⟨_,cb,_,ab,ah⟩:=po j r hj;rw [hb]at ah;cases ah;exact ab
 -- xl is not nJ is kept
 have un:∀b,¬ nJ st tmps w β ρ os b→b<w.heap.size→w'.heap[b]? = w.heap[b]? ∧ ∀o,M' b o=M b o:=by
  intro b hb cJ
  have dg:(iG M β st tmps w ρ os).F b=some w.heap[b]:=by
   simp only [iG];rw [if_neg hb];exact Array.getElem?_eq_getElem cJ
  obtain⟨ab,ah⟩:=hH.frame b _ dg;exact⟨by rw [ab,Array.getElem?_eq_getElem cJ],ah⟩
 have JN:∀b,(iG M β st tmps w ρ os).F b=none→K.F b=none:=by
  intro b hb;simp only [iG]at hb;split at hb
  ·rename_i hp;rcases hp with⟨r,aj,kc⟩|⟨l,e,T,aj,he,aO,iD⟩
   ·obtain⟨j,hj⟩:=List.getElem?_of_mem aj;obtain⟨cs,cb,dE,cI,_⟩:=po j r hj;obtain⟨mn,_,_,ab,_,_,_,ah,_⟩:=h.box r cs dE;rw [kc]at ab;cases ab;exact ah
   ·exact(h.own _ e T he aO).free iD
  ·cases dg:K.F b with
   |none=>rfl
   |some a6=>have:=(h.frame b a6 dg).1;rw [hb]at this;cases this
 have hold:∀b,(iG M β st tmps w ρ os).F b=none→b<w.heap.size→nJ st tmps w β ρ os b:=by
  intro b hb cJ;simp only [iG]at hb;split at hb
  ·assumption
  ·rw [Array.getElem?_eq_getElem cJ]at hb;cases hb
 -- afJ own boxes Wf afK not handed on
 have xx:∀r cs b,look st.H r=some cs→(∀(j:Nat),ρ[j]? ≠ some r)→β r=some b→¬ nJ st tmps w β ρ os b:=by
  intro r cs b aj hf hb hp;rcases hp with⟨ct,eH,bH⟩|⟨l,e,T,eH,he,aO,iD⟩
  ·obtain⟨j,hj⟩:=List.getElem?_of_mem eH;obtain⟨cs',_,qF,_⟩:=po j ct hj;have:=h.inj r ct b cs cs' aj qF hb bH
   subst this;exact hf j hj
  ·exact h.unbox _ e T b r cs he aO iD aj hb
 have uo:∀r,(∃(j:Nat),ρ[j]? = some r∧look (jl ρ g'++st.H) r=g'[j]?)∨((∀(j:Nat),ρ[j]? ≠ some r)∧look (jl ρ g'++st.H) r=look st.H r):=by
  intro r;obtain⟨ab,ah⟩:=Bu (H:=st.H) (ρ:=ρ) (bs:=g') (by omega) hn r
  by_cases hj:∃(j:Nat),ρ[j]? = some r
  ·obtain⟨j,hj⟩:=hj;exact .inl ⟨j,hj,ab j hj⟩
  ·have:∀(j:Nat),ρ[j]? ≠ some r:=λj bu=>hj ⟨j,bu⟩
   exact .inr ⟨this,ah this⟩
 -- a place of jM new state: jM Bv, or kept
 have eQ:∀l e,({env:=fT os st.env,H:=jl ρ g'++st.H,aT:=st.aT}:aF).at l=some e→
  (∃(j r i:Nat) (aZ:aR),l = .cell r i∧ρ[j]? = some r∧({env:=gx out,H:=cH 0 cn,aT:=ρ.length}:aF).at (.cell j i)=some aZ∧dW (λj=>ρ[j]?) aZ.d=some e.d∧e.own=aZ.own∧bZ tmps w' β l=bZ #[v] w' β' (.cell j i))∨
  (∃bI,st.at l=some bI∧bI.d=e.d∧(∀T,e.own=some T→bI.own=some T)∧bZ tmps w' β l=bZ tmps w β l∧(∀T,e.own=some T→¬ ul ρ os l)):=by
  intro l e ag;cases l with
  |slot s=>
   obtain⟨bI,ab,ah,ay,bl⟩:=Ws ag;exact .inr ⟨bI,ab,ah,ay,rfl,bl⟩
  |cell r i=>
   rcases uo r with⟨j,hj,jP⟩|⟨hf,jP⟩
   ·simp only [aF.at,jP]at ag;cases bu:g'[j]? with
    |none=>simp [bu]at ag
    |some bF=>
     simp only [bu,Option.bind_some]at ag;obtain⟨b,hb,ls⟩:=iq j bF bu;obtain⟨_,Bw⟩:=sr ls;obtain⟨aZ,mW,Bx,By⟩:=Bw i e ag;obtain⟨_,cb,_,cI,qh⟩:=po j r hj;exact .inl ⟨j,r,i,aZ,rfl,hj,by simp [aF.at,kR,hb,mW],Bx,By,by simp [bZ,cI,qh]⟩
   ·simp only [aF.at,jP]at ag;refine .inr ⟨e,ag,rfl,λ_ h=>h,?_,λT _ bu=>by obtain⟨j,hj⟩:=List.getElem?_of_mem bu;exact hf j hj⟩
    cases aj:look st.H r with
    |none=>simp [aj]at ag
    |some cs=>
     obtain⟨b,_,_,hb,bu,_⟩:=h.box r cs aj;simp only [bZ,hb];rw [ov (w:=w) (un b (xx r cs b aj hf hb) (lt_of_heap bu)).1]
 -- a kept 'own' afL block is not nJ
 have uq:∀l e T b,st.at l=some e→e.own=some T→¬ ul ρ os l→hA T (bZ tmps w β l) b→¬ nJ st tmps w β ρ os b:=by
  intro l e T b ag aO hf hb hp;rcases hp with⟨ct,eH,bH⟩|⟨cr,aZ,T',eH,he,dy,iD⟩
  ·obtain⟨j,hj⟩:=List.getElem?_of_mem eH;obtain⟨cs',_,qF,_⟩:=po j ct hj;exact h.unbox l e T b ct cs' ag aO hb qF bH
  ·have:=h.uniq l _ e aZ T T' b ag aO he dy hb iD
   subst this;exact hf eH
 -- jM Bv 'own' blocks afM ours
 have ur:∀T u b,im P (iG M β st tmps w ρ os).F M' w' T u→hA T u b→∀bF,bF=b→bF<w.heap.size→nJ st tmps w β ρ os bF:=by
  intro T u b aw hb bF sd cJ;subst sd;exact hold bF (aw.free hb) cJ
 have xy:∀r cs,look (jl ρ g'++st.H) r=some cs→∃jt,look st.H r=some jt:=by
  intro r cs aj;rcases uo r with⟨j,hj,_⟩|⟨_,jP⟩
  ·obtain⟨jt,_,ab,_⟩:=po j r hj;exact⟨jt,ab⟩
  ·exact⟨cs,by rw [←jP];exact aj⟩
 have cD:bB P K M' β {env:=fT os st.env,H:=jl ρ g'++st.H,aT:=st.aT} tmps w':=by
  constructor
  ·intro l e ag;rcases eQ l e ag with⟨j,r,i,aZ,rfl,hj,um,ls,_,bY⟩|⟨bI,aw,ut,iZ,bY,_⟩
   ·rw [bY];exact JM (hH.ew _ aZ um) ls
   ·rw [bY,←ut];exact(h.ew l bI aw).mono cP
  ·intro l e T ag aO;rcases eQ l e ag with⟨j,r,i,aZ,rfl,hj,um,_,fh,bY⟩|⟨bI,aw,ut,iZ,bY,hf⟩
   ·rw [bY];rw [fh]at aO;exact(hH.own _ aZ T um aO).sa λb _ df=>JN b df
   ·rw [bY];have hf:=hf T aO;have aO:=iZ T aO;refine(h.own l bI T aw aO).congr (λb hb=>?_) (λb o' hb=>?_)
    ·exact(un b (uq l bI T b aw aO hf hb) ((h.own l bI T aw aO).lt hb)).1
    ·exact(un b (uq l bI T b aw aO hf hb) ((h.own l bI T aw aO).lt hb)).2 o'
  ·intro l cr e1 e2 T T' b ag aO cx dy hb bH
   rcases eQ l e1 ag with⟨j,r,i,x,rfl,hj,hx,_,fh,bY⟩|⟨bI,aw,ut,iZ,bY,hf⟩ <;>
    rcases eQ cr e2 cx with⟨qE,ct,kr,mZ,rfl,xw,su,_,JO,nA⟩|⟨sc,iY,afN,t8,nA,BC⟩
   ·rw [bY]at hb;rw [nA]at bH;rw [fh]at aO;rw [JO]at dy;have:=hH.uniq _ _ x mZ T T' b hx aO su dy hb bH
    cases this;rw [hj]at xw;cases xw;rfl
   ·rw [bY]at hb;rw [nA]at bH;rw [fh]at aO;have BC:=BC T' dy;have dy:=t8 T' dy;exact(uq cr sc T' b iY dy BC bH (ur T _ b (hH.own _ x T hx aO) hb b rfl ((h.own cr sc T' iY dy).lt bH))).elim
   ·rw [bY]at hb;rw [nA]at bH;rw [JO]at dy;have hf:=hf T aO;have aO:=iZ T aO;exact(uq l bI T b aw aO hf hb (ur T' _ b (hH.own _ mZ T' su dy) bH b rfl ((h.own l bI T aw aO).lt hb))).elim
   ·rw [bY]at hb;rw [nA]at bH;exact h.uniq l cr bI sc T T' b aw (iZ T aO) iY (t8 T' dy) hb bH
  ·intro l e T b r cs ag aO hb aj kc;obtain⟨jt,jY⟩:=xy r cs aj;rcases eQ l e ag with⟨j,af,i,x,rfl,hj,hx,_,fh,bY⟩|⟨bI,aw,ut,iZ,bY,hf⟩
   ·rw [bY]at hb;rw [fh]at aO;rcases uo r with⟨j2,uu,jP⟩|⟨BD,_⟩
    ·have ah:∃c2,look (cH 0 cn) j2=some c2:=by
      rw [kR];exact⟨_,List.getElem?_eq_getElem (by have:=(List.getElem?_eq_some_iff.1 uu).1;omega)⟩
     obtain⟨c2,ju⟩:=ah;exact hH.unbox _ x T b j2 c2 hx aO hb ju (gb j2 r b uu kc)
    ·obtain⟨cb,_,_,cI,bu,_⟩:=h.box r jt jY;rw [kc]at cI;cases cI;exact xx r jt b jY BD kc (ur T _ b (hH.own _ x T hx aO) hb b rfl (lt_of_heap bu))
   ·rw [bY]at hb;exact h.unbox l bI T b r jt aw (iZ T aO) hb jY kc
  ·intro r cs aj;rcases uo r with⟨j,hj,jP⟩|⟨hf,jP⟩
   ·rw [jP]at aj;obtain⟨c2,ju,ls⟩:=iq j cs aj;obtain⟨jt,mp,Wt,JP,Wu⟩:=po j r hj;obtain⟨b,kN,T,ab,ah,ay,bl,bQ,df⟩:=hH.box j c2 (by rw [kR];exact ju)
    rw [Wu]at ab;cases ab;obtain⟨mn,_,_,fK,_,_,_,hR,_⟩:=h.box r jt Wt;rw [JP]at fK;cases fK;exact⟨mp,kN,T,JP,ah,by rw [ay,(sr ls).1],bl,hR,df.1,df.2.dW ls⟩
   ·rw [jP]at aj;obtain⟨b,kN,T,ab,ah,ay,bl,bQ,df⟩:=h.box r cs aj;have hk:=un b (xx r cs b aj hf ab) (lt_of_heap ah);exact⟨b,kN,T,ab,hk.1.trans ah,ay,λo'=>(hk.2 o').trans (bl o'),bQ,df⟩
  ·intro r ct b c gp aj eH hb bH;obtain⟨c0,jY⟩:=xy r c aj;obtain⟨Wv,Ww⟩:=xy ct gp eH;exact h.inj r ct b c0 Wv jY Ww hb bH
  ·exact h.lt
  ·exact hH.mem
  ·exact Mem.le_trans h.m0 cP
  ·intro b a6 dg;obtain⟨ab,ah⟩:=h.frame b a6 dg
   have BA:¬ nJ st tmps w β ρ os b:=by
    rintro (⟨r,aj,kc⟩|⟨l,e,T,aj,he,aO,iD⟩)
    ·obtain⟨j,hj⟩:=List.getElem?_of_mem aj;obtain⟨cs,_,dE,_⟩:=po j r hj;obtain⟨mn,_,_,ay,_,_,_,bl,_⟩:=h.box r cs dE;rw [kc]at ay;cases ay;rw [bl]at dg;cases dg
    ·rw [(h.own _ e T he aO).free iD]at dg;cases dg
   have hk:=un b BA (lt_of_heap ab);exact⟨hk.1.trans ab,λo'=>(hk.2 o').trans (ah o')⟩
  ·exact h.gN
  ·exact h.hB
  ·exact Eq.trans (show(w'.os,w'.output)=(w.os,w.output)from hH.gn) h.gn
 refine⟨cP,cD,λd own BE dH iC=>?_,λx BE=>?_⟩
 ·subst BE;have gz:=hH.ew (.slot 0) {d,own} (by simp [aF.at,gx,look])
  refine⟨JM (by simpa [bZ]using gz) iC,λT l0 aO=>?_⟩
  have aw:=hH.own (.slot 0) {d,own} T (by simp [aF.at,gx,look]) aO
  simp only [bZ]at aw;have iY:im P (iG M β st tmps w ρ os).F M' w' T v:=by simpa using aw
  refine⟨?_,λl e T' b ag dy _ hb bH=>?_,λb r cs hb aj kc=>?_⟩
  ·exact iY.sa λb _ df=>JN b df
  ·rcases eQ l e ag with⟨j,r,i,x,rfl,hj,hx,_,fh,bY⟩|⟨bI,JQ,ut,iZ,bY,hf⟩
   ·rw [bY]at bH;rw [fh]at dy;have:=hH.uniq (.slot 0) (.cell j i) {d,own} x T T' b (by simp [aF.at,gx,look]) aO hx dy (by simpa [bZ]using hb) bH
    cases this
   ·rw [bY]at bH;have hf:=hf T' dy;have dy:=iZ T' dy;exact uq l bI T' b JQ dy hf bH (ur T v b iY hb b rfl ((h.own l bI T' JQ dy).lt bH))
  ·obtain⟨jt,jY⟩:=xy r cs aj;rcases uo r with⟨j2,uu,jP⟩|⟨BD,_⟩
   ·have ah:∃c2,look (cH 0 cn) j2=some c2:=by
     rw [kR];exact⟨_,List.getElem?_eq_getElem (by have:=(List.getElem?_eq_some_iff.1 uu).1;omega)⟩
    obtain⟨c2,ju⟩:=ah;exact hH.unbox (.slot 0) {d,own} T b j2 c2 (by simp [aF.at,gx,look]) aO (by simpa [bZ]using hb) ju (gb j2 r b uu kc)
   ·obtain⟨cb,_,_,cI,bu,_⟩:=h.box r jt jY;rw [kc]at cI;cases cI;exact xx r jt b jY BD kc (ur T v b iY hb b rfl (lt_of_heap bu))
 ·subst BE;have gz:=hH.ew (.slot 0) {d:=.v x} (by simp [aF.at,gx,look])
  have:=lp gz
  simpa [bZ]using this
end
def JR{i:Int}{n:Nat}(h:aV i n=true):0≤i∧i<n:=by simpa [aV]using h
def pp{i:Int}{n:Nat}(h:gm i n=true):0≤i∧i≤n:=by simpa [gm]using h
def Wx{i:Int}{n:Nat}(h:0≤i∧i≤n):gm i n=true:=by simpa [gm]using h
def JS{a b:Int}{n:Nat}(h:nw a b n=true):0≤a∧a≤b∧b≤n:=by simpa [nw]using h
def JT{a:Int}(h:r2 a=true):a≠0:=by simpa [r2]using h
def BF{n b:Nat}(h:room n b=true):n*b≤140737488355328:=by simpa [room]using h
def Wy{n:Nat}(h:bW n=true):n≤9223372036854775807:=by simpa [bW]using h
section
variable {P:Program} {K:Ctx} {N:Nat} {M:Mem} {β:Nat→Option Nat} {st:aF} {g:cU} {tmps:Array Value} {w:World} {o:Oper} {f:jj} {p:Path} {tt:de} {b5:fI} {ops:List Oper}
def JU:∀(l:List (Nat×aR)) (s:Nat),look (mQ l) s=(look l s).map λe=>({d:=e.d}:aR)
 |[],s=>rfl
 |(t,e)::l,s=>by
  simp only [mQ,dd];by_cases h:t=s
  ·simp [h]
  ·simp only [h,if_false];exact JU l s
def bB.mQ{st:aF}(h:bB P K M β st tmps w){env:List (Nat×aR)}(he:∀s e,look env s=some e→∃bI,look st.env s=some bI∧bI.d=e.d):bB P K M β {env:=Ab.mQ env,H:=st.H,aT:=st.aT} tmps w:=
 h.sub rfl (λl e ag=>by
  cases l with
  |slot s=>
   simp only [aF.at,JU,Option.map_eq_some_iff]at ag;obtain⟨e1,ab,rfl⟩:=ag;obtain⟨bI,ah,ay⟩:=he s e1 ab;exact⟨bI,ah,ay,λ_ h=>by cases h⟩
  |cell r i=>exact⟨e,ag,rfl,λ_ h=>h⟩) (λr cs aj=>⟨cs,aj,rfl⟩)
def Wz(P:Program)(K:Ctx)(M:Mem)(β:Nat→Option Nat)(g:cU)(x:V)(hs:List (Nat×List aR))(o:Oper)(tmps:Array Value)(w:World):Prop:=
 (∃v,(execOp (Act.eval ⟨tmps,[]⟩) o).run P w = .halt (.panic v) w∧cT M v x∧hs=[])∨
 (∃fn vs,(execOp (Act.eval ⟨tmps,[]⟩) o).run P w = .ok (.enter fn vs) w∧Calls P fn vs w λe w'=>∃v M' ,e = .panicked [{v,recovered:=false}]∧cT M' v x∧
  bB P K M' β {env:=mQ g.env,H:=hs++g.H,aT:=g.aT} tmps w')
def WA{op:BinOp}{k:IntKind}{a b:Int}{x:V}{a6:List Prop}(h:AE op k a b=some (x,a6))(cm:∀q,q∈a6→q)(t:TypeId):
 ∃v,(binOp op t (.int k a) (.int k b)).run P w = .ok v w∧cT M v x:=by
 have fin:∀{s:Sem Value} {v:Value},s.run P w = .ok v w→cT M v x→∃v,s.run P w = .ok v w∧cT M v x:=λab ah=>⟨_,ab,ah⟩
 cases op<;>simp only [AE,Option.some.injEq,Prod.mk.injEq,reduceCtorEq]at h<;>obtain⟨rfl,rfl⟩:=h
 case quo=>
  have hb:=JT (cm _ (List.mem_singleton.2 rfl));refine fin (v:=.int k (k.wrap (a.tdiv b))) ?_ (.int _ _);simp [binOp,Op.intDiv,hb]
 case rem=>
  have hb:=JT (cm _ (List.mem_singleton.2 rfl));refine fin (v:=.int k (a.tmod b)) ?_ (.int _ _);simp [binOp,Op.intDiv,hb]
 case add=>exact fin (v:=.int k (k.wrap (a+b))) (by simp [binOp,Op.intArith]) (.int _ _)
 case sub=>exact fin (v:=.int k (k.wrap (a-b))) (by simp [binOp,Op.intArith]) (.int _ _)
 case mul=>exact fin (v:=.int k (k.wrap (a*b))) (by simp [binOp,Op.intArith]) (.int _ _)
 case eql=>exact fin (v:=.bool (decide (a=b))) (by simp [binOp,Op.intCmp];rfl) (.bool _)
 case neq=>exact fin (v:=.bool (!decide (a=b))) (by simp [binOp,Op.intCmp];rfl) (.bool _)
 case lss=>exact fin (v:=.bool (decide (a<b))) (by simp [binOp,Op.intCmp]) (.bool _)
 case leq=>exact fin (v:=.bool (decide (a≤b))) (by simp [binOp,Op.intCmp]) (.bool _)
 case gtr=>exact fin (v:=.bool (decide (b<a))) (by simp [binOp,Op.intCmp]) (.bool _)
 case geq=>exact fin (v:=.bool (decide (b≤a))) (by simp [binOp,Op.intCmp]) (.bool _)
 case and=>exact fin (v:=.int k (r3 k a b)) (by simp [binOp,Op.intBits,r3]) (.int _ _)
 case or=>exact fin (v:=.int k (r4 k a b)) (by simp [binOp,Op.intBits,r4]) (.int _ _)
 case xor=>exact fin (v:=.int k (tS k a b)) (by simp [binOp,Op.intBits,tS]) (.int _ _)
 case andNot=>exact fin (v:=.int k (AC k a b)) (by simp [binOp,Op.intBits,AC]) (.int _ _)
def WB{op:BinOp}{k k':IntKind}{a b:Int}{x:V}{a6:List Prop}(h:AD op k a b=some (x,a6))(cm:∀q,q∈a6→q)(t:TypeId):
 ∃v,(binOp op t (.int k a) (.int k' b)).run P w = .ok v w∧cT M v x:=by
 unfold AD at h;split at h
 ·simp only [Option.some.injEq,Prod.mk.injEq]at h;obtain⟨rfl,rfl⟩:=h;have hb:0≤b:=by simpa [mN]using cm (mN b=true) (by simp)
  exact⟨.int k (r5 k a b),by simp [binOp,Op.shift,show¬ b<0 by omega,r5],.int _ _⟩
 ·simp only [Option.some.injEq,Prod.mk.injEq]at h;obtain⟨rfl,rfl⟩:=h;have hb:0≤b:=by simpa [mN]using cm (mN b=true) (by simp)
  exact⟨.int k (r6 k a b),by simp [binOp,Op.shift,show¬ b<0 by omega,r6],.int _ _⟩
 ·cases h
def WC{op:BinOp}{a b:ahs}{x:V}{a6:List Prop}(h:AF op a b=some (x,a6))(cm:∀q,q∈a6→q)(t:TypeId):
 ∃v,(binOp op t (.string ⟨⟨a⟩⟩) (.string ⟨⟨b⟩⟩)).run P w = .ok v w∧cT M v x:=by
 have fin:∀{s:Sem Value} {v:Value},s.run P w = .ok v w→cT M v x→∃v,s.run P w = .ok v w∧cT M v x:=λab ah=>⟨_,ab,ah⟩
 have nL:=xg a;have sv:=xg b;have he:(a == b)=decide (a=b):=by by_cases kS:a=b<;>simp [kS]
 cases op<;>simp only [AF,Option.some.injEq,Prod.mk.injEq,reduceCtorEq]at h<;>obtain⟨rfl,rfl⟩:=h
 case add=>
  have hb:=Wy (cm _ (List.mem_singleton.2 rfl));refine fin (v:=.string ⟨⟨a++b⟩⟩) ?_ (.str _)
  have dK:¬ ((((⟨⟨a⟩⟩:ByteArray).size+(⟨⟨b⟩⟩:ByteArray).size:Nat):Int) > IntKind.i64.max):=by
   have ab:(⟨⟨a⟩⟩:ByteArray).size=a.length:=rfl;have ah:(⟨⟨b⟩⟩:ByteArray).size=b.length:=rfl;have ay:IntKind.i64.max=9223372036854775807:=by decide
   rw [ab,ah,ay];omega
  simp only [binOp,Op.stringOp];rw [if_neg dK];simp;apply ByteArray.ext;simp
 case eql=>exact fin (v:=.bool (decide (a=b))) (by simp [binOp,Op.stringOp,nL,sv,he]) (.bool _)
 case neq=>exact fin (v:=.bool (!decide (a=b))) (by simp [binOp,Op.stringOp,nL,sv,he]) (.bool _)
 case lss=>exact fin (v:=.bool (Op.bytesLess a b)) (by simp [binOp,Op.stringOp,nL,sv]) (.bool _)
 case leq=>exact fin (v:=.bool (Op.bytesLess a b||decide (a=b))) (by simp [binOp,Op.stringOp,nL,sv,he]) (.bool _)
 case gtr=>exact fin (v:=.bool (!(Op.bytesLess a b||decide (a=b)))) (by simp [binOp,Op.stringOp,nL,sv,he]) (.bool _)
 case geq=>exact fin (v:=.bool (!Op.bytesLess a b)) (by simp [binOp,Op.stringOp,nL,sv]) (.bool _)
def WD{t:TypeId}{aE:dZ}(r:Row P t aE)(hk:aE.k = .ptr):∃e,r.desc = .pointer e:=by
 have:=r.hk
 rw [hk]at this;cases hd:r.desc<;>simp [hd,jo]at this;exact⟨_,rfl⟩
def WE{t:TypeId}{aE:dZ}(r:Row P t aE)(hk:aE.k = .l9):∃e,r.desc = .interface e:=by
 have:=r.hk
 rw [hk]at this;cases hd:r.desc<;>simp [hd,jo]at this;exact⟨_,rfl⟩
def WF{t:TypeId}{aE:dZ}(r:Row P t aE)(hk:aE.k = .aS):∃a b c,r.desc = .func a b c:=by
 have:=r.hk
 rw [hk]at this;cases hd:r.desc<;>simp [hd,jo]at this;exact⟨_,_,_,rfl⟩
def BG{t:TypeId}{aE:dZ}(r:Row P t aE)(hk:aE.k = .bool):r.desc = .bool:=by
 have:=r.hk
 rw [hk]at this;cases hd:r.desc<;>simp [hd,jo]at this;rfl
def JV{t:TypeId}{aE:dZ}(r:Row P t aE){gr sw:Value}{a b:D}{res:Bool}(ha:ce M β gr a)(hb:ce M β sw b)(ag:w1 aE.k b=true)(hn:isNil aE.k a=some res):
 (Op.equal t gr sw).run P w = .ok res w∧(∀op,(binOp op t gr sw)=match op with|.eql=>(do pure (.bool (←Op.equal t gr sw)))|.neq=>(do pure (.bool (!(←Op.equal t gr sw))))|_=>binOp op t gr sw):=by
 obtain⟨dep,hm⟩:∃d,Op.maxDepth=d+1:=⟨9999,rfl⟩;unfold w1 at ag;split at ag<;>try cases ag
 ·rename_i hk;cases lp hb
  obtain⟨e,hd⟩:=WD r hk;rw [hk]at hn;unfold isNil at hn;split at hn<;>simp_all
  ·cases lp ha
   refine⟨?_,λop=>by cases op<;>rfl⟩
   rw [Op.equal,hm,Op.equalIn];simp [r.run_underlying,hd]
  ·obtain⟨bF,_,rfl⟩:=mf ha;subst hn;refine⟨?_,λop=>by cases op<;>rfl⟩
   rw [Op.equal,hm,Op.equalIn];simp [r.run_underlying,hd]
  ·obtain⟨bF,off,val,rfl,_⟩:=xd ha;subst hn;refine⟨?_,λop=>by cases op<;>rfl⟩
   rw [Op.equal,hm,Op.equalIn];simp [r.run_underlying,hd]
 ·rename_i hk;cases lp hb
  obtain⟨e,hd⟩:=WE r hk;rw [hk]at hn;unfold isNil at hn;split at hn<;>simp_all
  ·cases lp ha
   refine⟨?_,λop=>by cases op<;>rfl⟩
   rw [Op.equal,hm,Op.equalIn];simp [r.run_underlying,hd]
  ·obtain⟨u,rfl,_⟩:=AW ha;subst hn;refine⟨?_,λop=>by cases op<;>rfl⟩
   rw [Op.equal,hm,Op.equalIn];simp [r.run_underlying,hd]
 ·rename_i hk;cases lp hb
  obtain⟨e1,e2,e3,hd⟩:=WF r hk;rw [hk]at hn;unfold isNil at hn;split at hn<;>simp_all
  ·cases lp ha
   refine⟨?_,λop=>by cases op<;>rfl⟩
   rw [Op.equal,hm,Op.equalIn];simp [r.run_underlying,hd]
  ·obtain⟨u,rfl,_⟩:=I2 ha;subst hn;refine⟨?_,λop=>by cases op<;>rfl⟩
   rw [Op.equal,hm,Op.equalIn];simp [r.run_underlying,hd]
end
section
variable {P:Program} {K:Ctx} {N:Nat} {M:Mem} {β:Nat→Option Nat} {st:aF} {g:cU} {tmps:Array Value} {w:World} {o:Oper} {f:jj} {p:Path} {tt:de} {b5:fI} {ops:List Oper}
structure Hyp(P:Program)(K:Ctx)(N:Nat)(M:Mem)(β:Nat→Option Nat)(g:cU)(tmps:Array Value)(w:World)(p:Path)(tt:de):Prop where
 bj:e0 P K N M β g tmps w
 dn:fa tmps p
 tt:eJ P tt=true
def WG(h:Hyp P K N M β g tmps w p tt){x:Operand}(aw:o.op = .move x)(hs:step1 b5 tt ops g p o=some (.go f)):Yields P K M β g f o tmps w:=by
 simp only [step1,aw]at hs;split at hs
 case h_2=>cases hs
 rename_i d hd
 repeat' (first|(split at hs)|(rw [Bool.cond_eq_ite]at hs))
 all_goals first
  |(cases hs;done)
  |(cases hs;exact I6 h.bj h.dn (.inl aw) hd (by assumption))
  |(cases hs;exact xh h.bj h.dn (.inl aw) hd)
def WH(h:Hyp P K N M β g tmps w p tt){x:Operand}(aw:o.op = .assign x)(hs:step1 b5 tt ops g p o=some (.go f)):Yields P K M β g f o tmps w:=by
 simp only [step1,aw]at hs;split at hs
 case h_2=>cases hs
 rename_i d hd;split at hs
 ·rename_i e t fh;rw [Bool.cond_eq_ite]at hs;split at hs<;>cases hs
  ·exact I6 h.bj h.dn (.inr aw) hd fh
  ·exact xh h.bj h.dn (.inr aw) hd
 ·split at hs
  ·rw [Bool.cond_eq_ite]at hs;split at hs<;>cases hs
   ·exact VL h.bj h.dn aw hd _
   ·exact xh h.bj h.dn (.inr aw) hd
  ·cases hs
 ·cases hs;exact xh h.bj h.dn (.inr aw) hd
def WI(h:Hyp P K N M β g tmps w p tt){c:Nat}{a b:Operand}(aw:o.op = .pick (.tmp c) a b)(hs:step1 b5 tt ops g p o=some (.go f)):Yields P K M β g f o tmps w:=by
 simp only [step1,aw]at hs;split at hs
 case h_2=>cases hs
 rename_i pb tW qb ab ah ay;cases hs;exact VM h.bj h.dn aw ab ah ay
def WJ(h:Hyp P K N M β g tmps w p tt){t:TypeId}(aw:o.op = .alloc t)(hs:step1 b5 tt ops g p o=some (.go f)):Yields P K M β g f o tmps w:=by
 simp only [step1,aw]at hs;split at hs
 case h_2=>cases hs
 rename_i id ff hid;split at hs
 case h_2=>cases hs
 rename_i z dQ;cases hs;exact VO h.bj h.tt aw dQ hid
def WK(h:Hyp P K N M β g tmps w p tt){t:TypeId}{x:Operand}(aw:o.op = .box t x)(hs:step1 b5 tt ops g p o=some (.go f)):Yields P K M β g f o tmps w:=by
 simp only [step1,aw]at hs;split at hs
 case h_2=>cases hs
 rename_i d id ff aE hd hid ag;rw [Bool.cond_eq_ite]at hs;split at hs<;>cases hs
 rename_i xz;simp only [Bool.or_eq_true,Bool.not_eq_true',not_or,Bool.not_eq_true,Bool.not_eq_false,Nat.beq_eq]at xz;exact VP h.bj h.dn aw hd xz.1.1 xz.1.2 h.tt ag xz.2 hid
def WL(h:Hyp P K N M β g tmps w p tt){t:TypeId}{parts:Array (Nat×Operand)}(aw:o.op = .build t parts)(hs:step1 b5 tt ops g p o=some (.go f)):Yields P K M β g f o tmps w:=by
 simp only [step1,aw]at hs;split at hs
 ·rename_i cl fg iE zero _ cp ag j';rw [Bool.cond_eq_ite]at hs;split at hs
  case isFalse=>cases hs
  rename_i qp;split at hs
  ·simp only [Option.map_eq_some_iff]at hs;obtain⟨d,⟨cs,dE,rfl⟩,hs⟩:=hs;cases hs;exact Jh h.bj h.dn h.tt ag rfl qp aw j' (λr=>r.VS) dE
  ·simp only [Option.map_eq_some_iff]at hs;obtain⟨d,⟨cs,dE,rfl⟩,hs⟩:=hs;cases hs;exact Jh h.bj h.dn h.tt ag rfl qp aw j' (λr=>r.Jg) dE
 ·rename_i n e fg iE zero _ cp ag j';split at hs
  case h_2=>cases hs
  rename_i ao WM JW z2 eI;simp only [Option.map_eq_some_iff]at hs;obtain⟨d,⟨cs,dE,rfl⟩,hs⟩:=hs;cases hs;exact VU h.bj h.dn h.tt ag rfl eI aw j' dE
 ·cases hs
def WN(h:Hyp P K N M β g tmps w p tt){t:TypeId}{len:Nat}{parts:Array (Nat×Operand)}(aw:o.op = .buildSlice t len parts)(hs:step1 b5 tt ops g p o=some (.go f))(cm:∀q,q∈f.a6→q):Yields P K M β g f o tmps w:=by
 simp only [step1,aw]at hs;split at hs
 case h_2=>cases hs
 rename_i e fg iE zero _ cp ag j';split at hs
 case h_2=>cases hs
 rename_i ao WM JW z2 eI;split at hs
 case h_2=>cases hs
 rename_i xs x rs hx d';rw [Bool.cond_eq_ite]at hs;split at hs
 case isFalse=>cases hs
 rename_i hc;simp only [Bool.and_eq_true,Nat.ble_eq,Nat.beq_eq]at hc;cases hs;exact VW h.bj h.dn h.tt ag rfl eI aw j' hx hc.2 hc.1.2 hc.1.1 (cm _ (List.mem_singleton.2 rfl))
def WO(h:Hyp P K N M β g tmps w p tt){t:TypeId}{a:Operand}(aw:o.op = .load t a)(hs:step1 b5 tt ops g p o=some (.go f)):Yields P K M β g f o tmps w:=by
 simp only [step1,aw]at hs;split at hs
 ·rename_i q off aE ha ag;split at hs
  case h_2=>cases hs
  rename_i cs aP;rw [Bool.cond_eq_ite]at hs;split at hs
  ·rename_i gq;rw [Bool.cond_eq_ite]at hs;split at hs
   case isFalse=>cases hs
   rename_i hle;split at hs
   ·rename_i rs d';rw [Bool.cond_eq_ite]at hs;split at hs
    case isFalse=>cases hs
    rename_i hm;cases hs;simp only [Bool.and_eq_true]at hm;exact V8 h.bj h.dn h.tt ag aw ha aP gq (by simpa using hle) hm.2
   ·cases hs;exact V0 h.bj h.dn h.tt ag aw ha aP gq (by simpa using hle)
  ·rename_i gq;split at hs
   case h_2=>cases hs
   rename_i e he;split at hs
   ·rename_i s rs fw d';rw [Bool.cond_eq_ite]at hs;split at hs<;>cases hs
    exact V2 h.bj h.dn h.tt ag aw ha aP (by simpa using gq) he fw
   ·cases hs;exact V1 h.bj h.dn h.tt ag aw ha aP (by simpa using gq) he
 ·rename_i x aE ha ag;rw [Bool.cond_eq_ite]at hs;split at hs
  case isFalse=>cases hs
  rename_i hc;simp only [Bool.and_eq_true,beq_iff_eq,Nat.beq_eq]at hc;cases hs;exact V3 h.bj h.dn h.tt ag aw ha hc.1 hc.2
 ·cases hs
def WP(h:Hyp P K N M β g tmps w p tt){t:TypeId}{a x:Operand}(aw:o.op = .store t a x)(hs:step1 b5 tt ops g p o=some (.go f)):Yields P K M β g f o tmps w:=by
 simp only [step1,aw]at hs;split at hs
 case h_2=>cases hs
 rename_i q off d aE ha hx ag;split at hs
 case h_2=>cases hs
 rename_i cs aP;rw [Bool.cond_eq_ite]at hs;split at hs
 case isFalse=>cases hs
 rename_i hc;simp only [Bool.and_eq_true,Nat.beq_eq,Nat.ble_eq,Bool.not_eq_true']at hc;obtain⟨⟨⟨⟨ir,ju⟩,_⟩,BH⟩,BI⟩:=hc;split at hs
 ·rename_i u s k n get fh;cases hs;simp only [l_,Option.bind_eq_some_iff]at fh;obtain⟨e,he,aO⟩:=fh;have dK:aE.size=1:=by rw [←ir];rfl
  exact Jp h.bj h.dn h.tt ag aw ha aP hx dK ju (l:=[u]) (h.bj.bj.hand he aO (.cell q off))
 ·split at hs
  ·cases hs;have kQ:=hx;simp only [rd]at kQ;split at kQ
   ·cases kQ;have dK:aE.size=1:=by rw [←ir];rfl
    exact Jp h.bj h.dn h.tt ag aw ha aP hx dK ju (l:=[]) (AQ _ _)
   ·cases kQ
  ·cases hs
 ·rename_i u s fh;split at hs
  ·rw [Bool.cond_eq_ite]at hs;split at hs
   case isFalse=>cases hs
   rename_i hm;cases hs;simp only [Bool.and_eq_true,List.all_eq_true,Nat.blt_eq]at hm;simp only [l_,Option.bind_eq_some_iff]at fh;obtain⟨e,he,aO⟩:=fh;exact V' h.bj h.dn h.tt ag aw ha aP hx BH BI ir ju hm.1 he aO hm.2
  ·cases hs;exact Jo h.bj h.dn h.tt ag aw ha aP hx BH BI ir ju _
 ·cases hs;exact Jo h.bj h.dn h.tt ag aw ha aP hx BH BI ir ju _
def WQ(h:Hyp P K N M β g tmps w p tt){x:Operand}(aw:o.op = .nilCheck x)(hs:step1 b5 tt ops g p o=some (.go f)):Yields P K M β g f o tmps w:=by
 simp only [step1,aw]at hs;split at hs
 ·rename_i q off hd;cases hs;have aj:=dz (ds:=[]) h.bj h.dn hd;obtain⟨b,_,az⟩:=mf aj;refine eK h.bj (v:=(⟨tmps,[]⟩:Act).eval x) ?_ aj;simp [execOp,aw,az]
 ·rename_i y hd;cases hs;have aj:=dz (ds:=[]) h.bj h.dn hd;obtain⟨b,off,val,az,_⟩:=xd aj;refine eK h.bj (v:=(⟨tmps,[]⟩:Act).eval x) ?_ aj;simp [execOp,aw,az]
 ·cases hs
def WR(h:Hyp P K N M β g tmps w p tt){op:UnOp}{t:TypeId}{x:Operand}(aw:o.op = .unOp op t x)(hs:step1 b5 tt ops g p o=some (.go f)):Yields P K M β g f o tmps w:=by
 simp only [step1,aw]at hs;split at hs
 case h_2=>cases hs
 rename_i a ha;simp only [Option.map_eq_some_iff]at hs;obtain⟨d,⟨mZ,su,rfl⟩,hs⟩:=hs;cases hs;have aj:=dz (ds:=[]) h.bj h.dn ha;unfold IR at su;split at su<;>cases su
 ·have:=qm aj
  refine eK h.bj (v:=.bool _) ?_ (.v _ _ (.bool _));simp [execOp,aw,this,Op.unary]
 ·have:=jZ aj
  refine eK h.bj (v:=.int _ _) ?_ (.v _ _ (.int _ _));simp [execOp,aw,this,Op.unary,Op.intArith]
def WS(h:Hyp P K N M β g tmps w p tt){s t:TypeId}{x:Operand}(aw:o.op = .convert s t x)(hs:step1 b5 tt ops g p o=some (.go f))(cm:∀q,q∈f.a6→q):Yields P K M β g f o tmps w:=by
 simp only [step1,aw]at hs;split at hs
 ·rename_i ed _ _ _ _ k _ _ _ _ fE n fb eI hd;cases hs;obtain⟨af⟩:=dR h.tt fb;obtain⟨aq⟩:=dR h.tt eI;have aj:=jZ (dz (ds:=[]) h.bj h.dn hd);refine eK h.bj (v:=.int k (k.wrap n)) ?_ (.v _ _ (.int _ _));simp only [execOp,aw,aj];refine hE _ ?_;simp [convert,af.run_underlying,aq.run_underlying,t_ af rfl,t_ aq rfl,Conv.intToInt]
 ·rename_i _ _ _ _ _ _ _ _ l fb eI hd;cases hs;obtain⟨af⟩:=dR h.tt fb;obtain⟨aq⟩:=dR h.tt eI;have aj:=ku (dz (ds:=[]) h.bj h.dn hd);refine eK h.bj (v:=.string ⟨⟨l⟩⟩) ?_ (.v _ _ (.str _));simp only [execOp,aw,aj];refine hE _ ?_;simp [convert,af.run_underlying,aq.run_underlying,nB af rfl,nB aq rfl]
 ·rename_i e _ _ _ _ _ _ _ _ n get fb eI hd;split at hs
  case h_2=>cases hs
  rename_i l rs WT d';cases hs;obtain⟨af⟩:=dR h.tt fb;obtain⟨aq⟩:=dR h.tt eI;obtain⟨aB⟩:=dR h.tt WT;obtain⟨hlen,hl⟩:=cm _ (List.mem_singleton.2 rfl);have aj:=dz (ds:=[]) h.bj h.dn hd;refine eK h.bj (v:=.string ⟨⟨l⟩⟩) ?_ (.v _ _ (.str _));simp only [execOp,aw];refine hE _ ?_;rcases ph aj with⟨hn|⟨a,hn⟩,az⟩|⟨b,off,cap,val,az,hc,hk,cP,ab,fi⟩
  ·have hl0:l=[]:=List.eq_nil_of_length_eq_zero (hlen.trans az);rw [hn,hl0];simp [convert,af.run_underlying,aq.run_underlying,aB.run_underlying,mU af rfl,nB aq rfl,t_ aB rfl,Conv.bytesToString];rfl
  ·have hl0:l=[]:=List.eq_nil_of_length_eq_zero (hlen.trans az);rw [hn,hl0];exact run_convert_bytes_back w s t e a 0 [] (by rw [af.hd,mU af rfl]) (by rw [aB.hd,t_ aB rfl]) (by rw [aq.hd,nB aq rfl]) (λj hj=>by simp at hj)
  ·rw [az,←hlen]
   have gH:∀j (hj:j<l.length),w.cell? ((⟨b,off,none⟩:Addr).add j)=some (.int .u8 (l[j].toNat:Int)):=by
    intro j hj;have BJ:j<n:=by omega
    have e1:=hl j BJ;have e2:=fi j 0 (.int .u8 ((l.getD j 0).toNat:Int)) BJ (by rw [e1];rfl)
    have e3:val j 0 = .int .u8 ((l.getD j 0).toNat:Int):=by generalize val j 0=u at e2 ⊢;cases e2;rfl
    have uv:=h.bj.bj.mem _ _ _ (cP j 0 BJ (by omega))
    rw [addr_add];have WU:off+j*1+0=off+j:=by omega
    rw [WU,e3]at uv;rw [uv];simp [List.getD,List.getElem?_eq_getElem hj]
   exact run_convert_bytes_back w s t e ⟨b,off,none⟩ cap l (by rw [af.hd,mU af rfl]) (by rw [aB.hd,t_ aB rfl]) (by rw [aq.hd,nB aq rfl]) gH
 ·cases hs
def WV(h:Hyp P K N M β g tmps w p tt){t:TypeId}{x:Operand}(aw:o.op = .makeInterface t x)(hs:step1 b5 tt ops g p o=some (.go f)):Yields P K M β g f o tmps w:=by
 simp only [step1,aw]at hs;split at hs
 case h_2=>cases hs
 rename_i y k fg iE z _ hd ag;obtain⟨r⟩:=dR h.tt ag;have aj:=dz (ds:=[]) h.bj h.dn hd
 have hc:P.concrete t=true∨k = .l9:=by
  have hk:=r.hk;cases JX:r.desc<;>simp [JX,jo]at hk
  all_goals first
   |exact .inr hk.symm
   |(left;simp [Program.concrete,r.hd,JX])
 split at hs
 ·cases hs
 ·rename_i hk;cases hs;rcases hc with hc|hc
  ·refine eK h.bj (v:=.iface t ((⟨tmps,[]⟩:Act).eval x)) ?_ (.v _ _ (.iface t _ _ (lp aj)));simp only [execOp,aw];exact hE _ (run_makeInterface w t _ hc)
  ·exact absurd hc hk
def WW(h:Hyp P K N M β g tmps w p tt){fn:FuncId}{first eO:Array Operand}(aw:o.op = .makeFunc (.func fn) first eO)(hs:step1 b5 tt ops g p o=some (.go f)):Yields P K M β g f o tmps w:=by
 simp only [step1,aw]at hs;rw [Bool.cond_eq_ite]at hs;split at hs
 case isFalse=>cases hs
 rename_i he;simp only [Option.map_eq_some_iff]at hs;obtain⟨ds,gy,hs⟩:=hs;cases hs;obtain⟨ab,ah⟩:=pi gy;have qz:first = #[]:=by simpa using he
 subst qz;refine eK h.bj (v:=.func (.func fn) #[] (eO.map (⟨tmps,[]⟩:Act).eval)) ?_ ?_
 ·simp [execOp,aw,Instr.makeFunc]
 ·have:eO.map (⟨tmps,[]⟩:Act).eval=⟨eO.toList.map (⟨tmps,[]⟩:Act).eval⟩:=by apply Array.ext';simp
  rw [this];refine .fn fn _ ds (by simp [ab]) λi v c az hc=>?_
  simp only [List.getElem?_map,Option.map_eq_some_iff]at az;obtain⟨y,b1,rfl⟩:=az;exact dz h.bj h.dn (ah i y c b1 hc)
def WX(h:Hyp P K N M β g tmps w p tt){x:Operand}{i:Nat}(aw:o.op = .extract x i)(hs:step1 b5 tt ops g p o=some (.go f)):Yields P K M β g f o tmps w:=by
 simp only [step1,aw]at hs;split at hs
 case h_2=>cases hs
 rename_i ds hd;simp only [Option.map_eq_some_iff]at hs;obtain⟨d,pq,hs⟩:=hs;cases hs;obtain⟨vs,az,hlen,aj⟩:=VF (dz (ds:=[]) h.bj h.dn hd);have hi:i<ds.length:=(List.getElem?_eq_some_iff.1 pq).1;have d9:vs[i]? = some vs[i]:=List.getElem?_eq_getElem (by omega)
 refine eK h.bj (v:=vs[i]) ?_ (aj i _ d d9 pq);simp only [execOp,aw,az];refine hE _ ?_;simp [Instr.extract,d9]
end
section
variable {P:Program} {K:Ctx} {N:Nat} {M:Mem} {β:Nat→Option Nat} {st:aF} {g:cU} {tmps:Array Value} {w:World} {o:Oper} {f:jj} {p:Path} {tt:de} {b5:fI} {ops:List Oper}
def nM{op:BinOp}{t t2:TypeId}{x y:Operand}(aw:o.op = .binOp op t x y t2){a b v:Value}(hx:(⟨tmps,[]⟩:Act).eval x=a)(b1:(⟨tmps,[]⟩:Act).eval y=b)
 (hg:(eqGuard op t x y a b).run P w = .ok () w) (h:(binOp op t a b).run P w = .ok v w):(execOp (Act.eval ⟨tmps,[]⟩) o).run P w = .ok (.value v) w:=by
 simp only [execOp,aw,hx,b1];refine hE _ ?_;simp only [Sem.run_bind,hg,Result.andThen_ok,h]
def qI{op:BinOp}{t:TypeId}{x y:Operand}{a b:Value}(h:∀cs ds,¬ (a = .agg cs∧b = .agg ds))(ah:a = .nilIface→b = .nilIface→isConst y=true):(eqGuard op t x y a b).run P w = .ok () w:=by
 unfold eqGuard;cases op<;>try rfl
 all_goals
  simp only
  cases a<;>cases b<;>first
   |rfl
   |(exact absurd ⟨rfl,rfl⟩ (h _ _))
   |(have:=ah rfl rfl;cases y<;>simp [isConst]at this;simp)
def WY(b0:eJ P tt=true){d:Nat}{gw:TypeId}{uw:List (Option jW)}{x y:V}{xs ys:List V}{gr oD:Value}{r:Bool}
 (he:hz ((look tt gw).map (·.k)::uw) (x::xs) (y::ys)=some r) (ux:cT M gr x) (uy:cT M oD y):∃c q,(Op.equalIn (d+1) gw gr oD).run P w = .ok c w∧hz uw xs ys=some q∧(c&&q)=r:=by
 cases ag:look tt gw with
 |none=>simp [ag,hz]at he
 |some aE=>
  obtain⟨row⟩:=dR b0 ag;have mq:=row.hd;simp only [ag,Option.map_some]at he;unfold hz at he;split at he<;>simp only [List.cons.injEq,reduceCtorEq]at *
  case h_2 ks kk k a l k' b m e1 e2 e3=>
   obtain⟨e1,rfl⟩:=e1;obtain⟨rfl,rfl⟩:=e2;obtain⟨rfl,rfl⟩:=e3;cases ux;cases uy
   rw [Bool.cond_eq_ite]at he;split at he
   case isFalse=>cases he
   rename_i hk;simp only [decide_eq_true_eq]at hk;subst hk;simp only [Option.map_eq_some_iff]at he;obtain⟨q,aP,aj⟩:=he;refine⟨decide (a=b),q,?_,aP,aj⟩
   have:∃hI,row.desc = .int hI:=by
    have:=row.hk
    rw [Option.some.inj e1]at this;cases hd:row.desc<;>simp [hd,jo]at this;exact⟨_,rfl⟩
   obtain⟨hI,hJ⟩:=this;rw [hJ]at mq;rw [run_equalIn_int w d gw k hI a b mq];rfl
  case h_3 ks a l b m e1 e2 e3=>
   obtain⟨e1,rfl⟩:=e1;obtain⟨rfl,rfl⟩:=e2;obtain⟨rfl,rfl⟩:=e3;cases ux;cases uy
   simp only [Option.map_eq_some_iff]at he;obtain⟨q,aP,aj⟩:=he;refine⟨decide (a=b),q,?_,aP,aj⟩
   have:row.desc = .string:=nB row (Option.some.inj e1)
   rw [this]at mq;rw [run_equalIn_string w d gw _ _ mq,xg,xg];by_cases kS:a=b<;>simp [kS]
  case h_4 ks a l b m e1 e2 e3=>
   obtain⟨e1,rfl⟩:=e1;obtain⟨rfl,rfl⟩:=e2;obtain⟨rfl,rfl⟩:=e3;cases ux;cases uy
   simp only [Option.map_eq_some_iff]at he;obtain⟨q,aP,aj⟩:=he;refine⟨(a == b),q,?_,aP,aj⟩
   have:row.desc = .bool:=BG row (Option.some.inj e1)
   rw [this]at mq;rw [run_equalIn_bool' w d gw _ _ mq]
def lu(P:Program)(cl:List Field):List (Nat×TypeId×Nat):=cl.map λf=>(f.offset,f.type,P.cellsOf f.type)
def xA:∀{ed ao:List (Option jW)} {xs ys:List V} {r:Bool},hz (ed++ao) xs ys=some r→
 ∃af aq,hz ed (xs.take ed.length) (ys.take ed.length)=some af∧hz ao (xs.drop ed.length) (ys.drop ed.length)=some aq∧(af&&aq)=r∧ed.length≤xs.length∧ed.length≤ys.length∧∀k,k∈ed→k.isSome=true
 |[],ao,xs,ys,r,h=>⟨true,r,by simp [hz],by simpa using h,rfl,Nat.zero_le _,Nat.zero_le _,λk hk=>by cases hk⟩
 |k::ed,ao,xs,ys,r,h=>by
  simp only [List.cons_append]at h;unfold hz at h;split at h<;>simp only [List.cons.injEq,reduceCtorEq]at *
  ·rename_i ks kk k' a l afO b m e1;obtain⟨rfl,rfl⟩:=e1;rw [Bool.cond_eq_ite]at h;split at h
   case isFalse=>cases h
   rename_i hk;simp only [Option.map_eq_some_iff]at h;obtain⟨q,aP,rfl⟩:=h;obtain⟨af,aq,ab,ah,ay,bl,bQ,df⟩:=xA aP;refine⟨decide (a=b)&&af,aq,?_,ah,by rw [Bool.and_assoc,ay],by simpa using bl,by simpa using bQ,λhI hJ=>?_⟩
   ·simp only [List.length_cons,List.take_succ_cons,hz,hk,cond_true,ab,Option.map_some]
   ·rcases List.mem_cons.1 hJ with rfl|hJ
    ·rfl
    ·exact df hI hJ
  ·rename_i ks a l b m e1;obtain⟨rfl,rfl⟩:=e1;simp only [Option.map_eq_some_iff]at h;obtain⟨q,aP,rfl⟩:=h;obtain⟨af,aq,ab,ah,ay,bl,bQ,df⟩:=xA aP;refine⟨decide (a=b)&&af,aq,?_,ah,by rw [Bool.and_assoc,ay],by simpa using bl,by simpa using bQ,λhI hJ=>?_⟩
   ·simp only [List.length_cons,List.take_succ_cons,hz,ab,Option.map_some]
   ·rcases List.mem_cons.1 hJ with rfl|hJ
    ·rfl
    ·exact df hI hJ
  ·rename_i ks a l b m e1;obtain⟨rfl,rfl⟩:=e1;simp only [Option.map_eq_some_iff]at h;obtain⟨q,aP,rfl⟩:=h;obtain⟨af,aq,ab,ah,ay,bl,bQ,df⟩:=xA aP;refine⟨(a == b)&&af,aq,?_,ah,by rw [Bool.and_assoc,ay],by simpa using bl,by simpa using bQ,λhI hJ=>?_⟩
   ·simp only [List.length_cons,List.take_succ_cons,hz,ab,Option.map_some]
   ·rcases List.mem_cons.1 hJ with rfl|hJ
    ·rfl
    ·exact df hI hJ
def pr(tt:de)(gw:TypeId):Nat→List (Option jW)
 | 0=>[(look tt gw).map (·.k)]
 |q+1=>match look tt gw with
  |some {k:=.bV gs,..}=>kp tt q gs
  |o=>[o.map (·.k)]
def xB(q:Nat)(f:Field)(cl:List Field):kp tt q (lu P (f::cl))=pr tt f.type q++kp tt q (lu P cl):=by
 cases q with
 |zero=>rfl
 |succ q=>
  simp only [kp,lu,List.map_cons,List.flatMap_cons,pr];rfl
def JY{t:TypeId}{aE:dZ}(r:Row P t aE){gs:Array Field}(h:P.underlying t=some (.struct gs)):aE.k = .bV (lu P gs.toList):=by
 have hd:r.desc = .struct gs:=Option.some.inj (r.hd.symm.trans h);have:=r.hk
 rw [hd]at this;simp [jo]at this;exact this.symm
def JZ{t:TypeId}{aE:dZ}(r:Row P t aE){gs:List (Nat×TypeId×Nat)}(h:aE.k = .bV gs):∃cl:Array Field,P.underlying t=some (.struct cl)∧gs=lu P cl.toList:=by
 have ab:=r.hk;rw [h]at ab;cases hd:r.desc<;>simp [hd,jo]at ab
 rename_i cl;refine⟨cl,?_,ab.symm⟩
 rw [r.hd,hd]
def J0(b0:eJ P tt=true){gw:TypeId}(h:∀gs,P.underlying gw≠some (.struct gs))(q:Nat):pr tt gw q=[(look tt gw).map (·.k)]:=by
 cases q with
 |zero=>rfl
 |succ q=>
  simp only [pr];split
  ·rename_i gs _ _ _ _ ag;obtain⟨row⟩:=dR b0 ag;obtain⟨cl,ab,_⟩:=JZ row rfl;exact absurd ab (h cl)
  ·rfl
def BK(b0:eJ P tt=true):∀(q:Nat) (cl:List Field),(∀k,k∈kp tt q (lu P cl)→k.isSome=true)→(kp tt q (lu P cl)).length=oy P q cl
 | 0,cl,_=>by simp [kp,lu,oy]
 |q+1,[],_=>by simp [kp,lu,oy]
 |q+1,f::cl,h=>by
  rw [xB]at h ⊢;have bD:=BK b0 (q+1) cl λk hk=>h k (List.mem_append_right _ hk)
  have hc:oy P (q+1) (f::cl)=(match P.underlying f.type with|some (.struct gs)=>oy P q gs.toList|_=>1)+oy P (q+1) cl:=by
   simp only [oy,List.map_cons,List.sum_cons];rfl
  rw [List.length_append,bD,hc]
  congr 1
  simp only [pr]at h ⊢;split
  ·rename_i gs _ _ _ _ ag;obtain⟨row⟩:=dR b0 ag;obtain⟨uz,ab,rfl⟩:=JZ row rfl;rw [ab];refine BK b0 q uz.toList λk hk=>h k (List.mem_append_left _ ?_)
   rw [ag];exact hk
  ·rename_i o mr;cases aw:look tt f.type with
   |none=>
    have:=h none (List.mem_append_left _ (by rw [aw];simp))
    cases this
   |some aE=>
    obtain⟨row⟩:=dR b0 aw;split
    ·rename_i gs hu;have:=JY row hu
     obtain⟨k,s,b,z,qo⟩:=aE;simp only at this
     subst this;exact absurd aw (mr _ _ _ _ _)
    ·rfl
def J1 (b0 : eJ P tt = true) {d : Nat} {f : Field} {cl : List Field} {i : Nat} {uw : List (Option jW)} {xs ys : List V} {vs us : List Value} {r : Bool} (ps : f.offset = i) (h9 : ¬ f.name = "_") (gq : (isAgg f.type).run P w = .ok false w)
 (he:hz ((look tt f.type).map (·.k)::uw) xs ys=some r)
 (az:∀(j:Nat) v x,vs[i+j]? = some v→xs[j]? = some x→cT M v x) (hu:∀(j:Nat) v x,us[i+j]? = some v→ys[j]? = some x→cT M v x) (nN:i+xs.length≤vs.length) (nE:i+ys.length≤us.length)
 (bD:∀(q:Bool),∀{uA uB:List V},hz uw uA uB=some q→(∀(j:Nat) v x,vs[i+1+j]? = some v→uA[j]? = some x→cT M v x)→(∀(j:Nat) v x,us[i+1+j]? = some v→uB[j]? = some x→cT M v x)→i+1+uA.length≤vs.length→i+1+uB.length≤us.length→(Op.eqFields (d+1) ⟨vs⟩ ⟨us⟩ cl).run P w = .ok q w):
 (Op.eqFields (d+1) ⟨vs⟩ ⟨us⟩ (f::cl)).run P w = .ok r w:=by
 cases xs with
 |nil=>simp [hz]at he
 |cons x xs=>
  cases ys with
  |nil=>simp [hz]at he
  |cons y ys=>
   simp only [List.length_cons]at nN nE;obtain⟨gr,d9⟩:∃gr,vs[i]? = some gr:=⟨_,List.getElem?_eq_getElem (by omega)⟩
   obtain⟨oD,J2⟩:∃oD,us[i]? = some oD:=⟨_,List.getElem?_eq_getElem (by omega)⟩
   have ux:=az 0 gr x d9 rfl;have uy:=hu 0 oD y J2 rfl
   have nG:∀{zs:List Value} {z:Value},zs[i]? = some z→(part f.type ⟨zs⟩ f.offset).run P w = .ok z w:=by
    intro zs z dQ;have:(⟨zs⟩:Array Value)[f.offset]? = some z:=by rw [ps];simpa using dQ
    simp only [part,Sem.run_bind,gq,Result.andThen_ok,this];rfl
   obtain⟨c,q,ab,ah,ay⟩:=WY (P:=P) (w:=w) (M:=M) b0 (d:=d) he ux uy;have bl:=bD q ah (λj v z ab ah=>az (j+1) v z (by rw [←ab];congr 1;omega) (by simpa using ah)) (λj v z ab ah=>hu (j+1) v z (by rw [←ab];congr 1;omega) (by simpa using ah)) (by omega) (by omega)
   simp only [Op.eqFields];rw [if_pos h9];simp only [Sem.run_bind,nG d9,nG J2,Result.andThen_ok,ab];cases c
   ·simp [←ay]
   ·simp [←ay,bl]
def WZ(b0:eJ P tt=true):∀(q:Nat) {d:Nat} {cl:List Field} {i:Nat} {xs ys:List V} {vs us:List Value} {r:Bool},ql P q i cl=true→hz (kp tt q (lu P cl)) xs ys=some r→
 (∀(j:Nat) v x,vs[i+j]? = some v→xs[j]? = some x→cT M v x)→(∀(j:Nat) v x,us[i+j]? = some v→ys[j]? = some x→cT M v x)→i+xs.length≤vs.length→i+ys.length≤us.length→
 (Op.eqFields (d+q+1) ⟨vs⟩ ⟨us⟩ cl).run P w = .ok r w:=by
 intro q;induction q with
 |zero=>
  intro d cl;induction cl with
  |nil=>intro i xs ys vs us r _ he _ _ _ _;cases xs<;>cases ys<;>simp [kp,lu,hz]at he;subst he;simp [Op.eqFields]
  |cons f cl bD=>
   intro i xs ys vs us r b2 he az hu nN nE;simp only [ql,sf,Bool.and_eq_true,Nat.beq_eq,Bool.not_eq_true',decide_eq_false_iff_not]at b2;obtain⟨⟨ps,h9⟩,fZ⟩:=b2
   have sx:(∀gs,P.underlying f.type≠some (.struct gs))∧ql P 0 (i+1) cl=true∧(isAgg f.type).run P w = .ok false w:=by
    simp only [isAgg,Sem.run_bind];split at fZ
    ·rename_i k hk;refine⟨λgs h=>(by rw [hk]at h;cases h),fZ,?_⟩;rw [Go.run_underlying hk];rfl
    ·rename_i hk;refine⟨λgs h=>(by rw [hk]at h;cases h),fZ,?_⟩;rw [Go.run_underlying hk];rfl
    ·rename_i hk;refine⟨λgs h=>(by rw [hk]at h;cases h),fZ,?_⟩;rw [Go.run_underlying hk];rfl
    ·simp at fZ
    ·cases fZ
   exact J1 b0 ps h9 sx.2.2 (by rw [xB,J0 b0 sx.1]at he;exact he) az hu nN nE λq' uA uB mX mm BL ab ah=>bD sx.2.1 mX mm BL ab ah
 |succ q W0=>
  intro d cl;induction cl with
  |nil=>intro i xs ys vs us r _ he _ _ _ _;cases xs<;>cases ys<;>simp [kp,lu,hz]at he;subst he;simp [Op.eqFields]
  |cons f cl bD=>
   intro i xs ys vs us r b2 he az hu nN nE;have uC:=b2;simp only [ql,sf,Bool.and_eq_true,Nat.beq_eq,Bool.not_eq_true',decide_eq_false_iff_not]at b2;obtain⟨⟨ps,h9⟩,fZ⟩:=b2;by_cases ev:∃gs,P.underlying f.type=some (.struct gs)
   ·obtain⟨gs,sy⟩:=ev;rw [sy]at fZ;simp only [Bool.and_eq_true,Bool.not_eq_true',Nat.beq_eq]at fZ;obtain⟨⟨⟨W1,W2⟩,W3⟩,J3⟩:=fZ;rw [xB]at he;obtain⟨af,aq,e1,e2,e3,g_,kb,qG⟩:=xA he
    have iH:∃aE,look tt f.type=some aE:=by
     cases ag:look tt f.type with
     |none=>have:=qG none (by simp [pr,ag]);cases this
     |some aE=>exact⟨aE,rfl⟩
    obtain⟨aE,xC⟩:=iH;obtain⟨row⟩:=dR b0 xC;have hk:=JY row sy
    have qC:pr tt f.type (q+1)=kp tt q (lu P gs.toList):=by
     obtain⟨k,s,b,z,qo⟩:=aE;simp only at hk
     subst hk;simp only [pr,xC]
    rw [qC]at e1 e2 g_ kb qG;have hn:=BK b0 q gs.toList qG;rw [hn,←W2]at e1 e2 g_ kb;generalize cw:P.cellsOf f.type=n at e1 e2 g_ kb
    obtain⟨info,xj⟩:=info_of_underlying sy
    have nG:∀zs:List Value,(part f.type ⟨zs⟩ f.offset).run P w = .ok (.agg ⟨(zs.drop i).take n⟩) w:=by
     intro zs
     have:(⟨zs⟩:Array Value).extract i (i+n)=⟨(zs.drop i).take n⟩:=by
      apply Array.ext';rw [Array.toList_extract];simp [List.extract]
     simp only [part,isAgg,Sem.run_bind,run_underlying sy,run_sizeOf w xj,Result.andThen_ok,Sem.run_pure,ps,cw];simp [this,run_sizeOf w xj,cw]
    have hD:∀{zs:List Value} {cs:List V},(∀(j:Nat) v x,zs[i+j]? = some v→cs[j]? = some x→cT M v x)→∀(j:Nat) v x,((zs.drop i).take n)[0+j]? = some v→(cs.take n)[j]? = some x→cT M v x:=by
     intro zs cs h j v x ab ah;rw [Nat.zero_add,List.getElem?_take]at ab;rw [List.getElem?_take]at ah;split at ab
     ·rename_i hj;rw [if_pos hj]at ah;rw [List.getElem?_drop]at ab;exact h j v x ab ah
     ·cases ab
    have pj:P.fieldsOf f.type=gs:=by simp [Program.fieldsOf,sy]
    have hin:(Op.equalIn (d+(q+1)+1) f.type (.agg ⟨(vs.drop i).take n⟩) (.agg ⟨(us.drop i).take n⟩)).run P w = .ok af w:=by
     rw [run_equalIn_agg w (d+(q+1)) f.type _ _ (by rw [pj];exact sy) W1,pj]
     exact W0 (d:=d) (i:=0) W3 e1 (hD az) (hD hu) (by simp;omega) (by simp;omega)
    have J4:∀{zs:List Value} {cs:List V},(∀(j:Nat) v x,zs[i+j]? = some v→cs[j]? = some x→cT M v x)→∀(j:Nat) v x,zs[i+n+j]? = some v→(cs.drop n)[j]? = some x→cT M v x:=by
     intro zs cs h j v x ab ah;rw [List.getElem?_drop]at ah;exact h (n+j) v x (by rw [←Nat.add_assoc];exact ab) ah
    rw [cw]at J3;have iq:=bD (i:=i+n) J3 e2 (J4 az) (J4 hu) (by simp;omega) (by simp;omega)
    simp only [Op.eqFields];rw [if_pos h9];simp only [Sem.run_bind,nG,Result.andThen_ok,hin];cases af
    ·simp [←e3]
    ·simp [←e3,iq]
   ·have sx:ql P (q+1) (i+1) cl=true∧(isAgg f.type).run P w = .ok false w:=by
     simp only [isAgg,Sem.run_bind];split at fZ
     ·rename_i k hk;refine⟨fZ,?_⟩;rw [Go.run_underlying hk];rfl
     ·rename_i hk;refine⟨fZ,?_⟩;rw [Go.run_underlying hk];rfl
     ·rename_i hk;refine⟨fZ,?_⟩;rw [Go.run_underlying hk];rfl
     ·rename_i gs hk;exact absurd ⟨gs,hk⟩ ev
     ·cases fZ
    exact J1 b0 ps h9 sx.2 (by rw [xB,J0 b0 (λgs h=>ev ⟨gs,h⟩)]at he;exact he) az hu nN nE λq' uA uB mX mm BL ab ah=>bD sx.1 mX mm BL ab ah
def J5(b0:eJ P tt=true){t:TypeId}{cl:List (Nat×TypeId×Nat)}{fg iE:Nat}{z:List V}{qo:List (Nat×TypeId)}(ag:look tt t=some {k:=.bV cl,size:=fg,bytes:=iE,zero:=z,h2:=qo})(he:AT P t=true){xs ys:List V}{r:Bool}(aj:hz (kp tt 4 cl) xs ys=some r)
 {gr oD:Value} (az:cT M gr (.agg xs)) (hu:cT M oD (.agg ys)):∃vs us,gr = .agg ⟨vs⟩∧oD = .agg ⟨us⟩∧(Op.equalIn 10000 t (.agg ⟨vs⟩) (.agg ⟨us⟩)).run P w = .ok r w∧∀op a b,(eqGuard op t a b (.agg ⟨vs⟩) (.agg ⟨us⟩)).run P w = .ok () w:=by
 obtain⟨row⟩:=dR b0 ag;cases az with
 |agg vs _ hn ab fi=>
  cases hu with
  |agg us _ xb kM W4=>
   refine⟨vs,us,rfl,rfl,?_⟩
   unfold AT at he;split at he
   case h_2=>cases he
   rename_i uz mq;simp only [Bool.and_eq_true,Bool.not_eq_true']at he;obtain⟨⟨ah,ay⟩,bl⟩:=he;have uC:P.fieldsOf t=uz:=by simp [Program.fieldsOf,mq]
   have BM:row.desc = .struct uz:=Option.some.inj (row.hd.symm.trans mq)
   have qp:cl=uz.toList.map λf=>(f.offset,f.type,P.cellsOf f.type):=by
    have:=row.hk
    rw [BM]at this;simp [jo]at this;exact this.symm
   refine⟨?_,λop a b=>run_eqGuard_agg w op t a b _ _ ay⟩
   rw [run_equalIn_agg w 9999 t _ _ (by rw [uC];exact mq) ah,uC]
   refine WZ b0 4 (d:=9994) (i:=0) (xs:=xs) (ys:=ys) bl (by rw [qp]at aj;exact aj) (λj v x bQ df=>fi j v x (by simpa using bQ) df) (λj v x bQ df=>W4 j v x (by simpa using bQ) df) (by omega) (by omega)
def W5(h:Hyp P K N M β g tmps w p tt){op:BinOp}{t t2:TypeId}{x y:Operand}(aw:o.op = .binOp op t x y t2)(hs:step1 (gg P) tt ops g p o=some (.go f))(cm:∀q,q∈f.a6→q):Yields P K M β g f o tmps w:=by
 simp only [step1,aw]at hs;split at hs
 case h_3=>cases hs
 case h_1=>
  rename_i xs ys ha hb;have m3:=lp (dz (ds:=[]) h.bj h.dn ha);have mt:=lp (dz (ds:=[]) h.bj h.dn hb);split at hs
  case h_2=>cases hs
  rename_i cl fg iE z _ ag;rw [Bool.cond_eq_ite]at hs;split at hs
  case isFalse=>cases hs
  rename_i he;split at hs
  ·rename_i r aj;cases hs;obtain⟨vs,us,e1,e2,ab,ah⟩:=J5 (w:=w) (M:=M) h.tt ag he aj m3 mt;exact eK h.bj (nM aw e1 e2 (ah _ _ _) (by rw [run_eql_struct,ab];rfl)) (.v _ _ (.bool _))
  ·rename_i r aj;cases hs;obtain⟨vs,us,e1,e2,ab,ah⟩:=J5 (w:=w) (M:=M) h.tt ag he aj m3 mt;exact eK h.bj (nM aw e1 e2 (ah _ _ _) (by rw [run_neq_struct,ab];rfl)) (.v _ _ (.bool _))
  ·cases hs
 rename_i a b ha hb;simp only [Option.map_eq_some_iff]at hs;obtain⟨⟨z,a6⟩,dQ,hs⟩:=hs;cases hs;have m3:=dz (ds:=[]) h.bj h.dn ha;have mt:=dz (ds:=[]) h.bj h.dn hb;unfold IQ at dQ;split at dQ
 ·rename_i ed m ao n;have e1:=jZ m3;have e2:=jZ mt;split at dQ
  ·rename_i z0 hsh;cases dQ;obtain⟨v,az,aj⟩:=WB (P:=P) (w:=w) (M:=M) (k':=ao) hsh cm t;exact eK h.bj (nM aw e1 e2 (qI (by simp) (by simp)) az) (.v _ _ aj)
  rw [Bool.cond_eq_ite]at dQ;split at dQ
  case isFalse=>cases dQ
  rename_i hk;simp only [decide_eq_true_eq]at hk;subst hk;obtain⟨v,az,aj⟩:=WA (P:=P) (w:=w) (M:=M) dQ cm t;exact eK h.bj (nM aw e1 e2 (qI (by simp) (by simp)) az) (.v _ _ aj)
 ·have e1:=ku m3;have e2:=ku mt;obtain⟨v,az,aj⟩:=WC (P:=P) (w:=w) (M:=M) dQ cm t;exact eK h.bj (nM aw e1 e2 (qI (by simp) (by simp)) az) (.v _ _ aj)
 ·rename_i cb mn;have e1:=qm m3;have e2:=qm mt;obtain⟨dep,hm⟩:∃d,Op.maxDepth=d+1:=⟨9999,rfl⟩;cases ag:look tt t with
  |none=>rw [ag]at dQ;simp at dQ
  |some aE=>
   rw [ag]at dQ;obtain⟨r⟩:=dR h.tt ag;split at dQ<;>cases dQ
   ·rename_i hk;simp at hk
    refine eK h.bj (v:=.bool (cb == mn)) (nM aw e1 e2 (qI (by simp) (by simp)) ?_) (.v _ _ (.bool _))
    simp only [binOp,Sem.run_bind];rw [Op.equal,hm,Op.equalIn];simp [r.run_underlying,BG r hk]
   ·rename_i hk;simp at hk
    refine eK h.bj (v:=.bool (!(cb == mn))) (nM aw e1 e2 (qI (by simp) (by simp)) ?_) (.v _ _ (.bool _))
    simp only [binOp,Sem.run_bind];rw [Op.equal,hm,Op.equalIn];simp [r.run_underlying,BG r hk]
 ·cases ag:look tt t with
  |none=>rw [ag]at dQ;simp at dQ
  |some aE=>
   rw [ag]at dQ;simp only [Option.map_some]at dQ;obtain⟨r⟩:=dR h.tt ag;rw [Bool.cond_eq_ite]at dQ;split at dQ
   case isFalse=>cases dQ
   rename_i hc;simp only [Bool.and_eq_true]at hc
   have J6:(eqGuard op t x y ((⟨tmps,[]⟩:Act).eval x) ((⟨tmps,[]⟩:Act).eval y)).run P w = .ok () w:=by
    refine qI ?_ (λ_ _=>hc.2)
    rintro cs ds ⟨_,bH⟩
    rw [bH]at mt;have BN:=hc.1;unfold w1 at BN;split at BN<;>first|(cases lp mt;done)|(cases BN;done)
   split at dQ<;>cases dQ
   ·rename_i res hn;obtain⟨ab,ah⟩:=JV (w:=w) r m3 mt hc.1 hn;refine eK h.bj (v:=.bool res) (nM aw rfl rfl J6 ?_) (.v _ _ (.bool _));rw [ah .eql];simp [ab]
   ·rename_i res hn;obtain⟨ab,ah⟩:=JV (w:=w) r m3 mt hc.1 hn;refine eK h.bj (v:=.bool (!res)) (nM aw rfl rfl J6 ?_) (.v _ _ (.bool _));rw [ah .neq];simp [ab]
def W6(h:Hyp P K N M β g tmps w p tt){s:TypeId}{x:Operand}{i:Nat}(aw:o.op = .fieldAddr s x i)(hs:step1 b5 tt ops g p o=some (.go f)):Yields P K M β g f o tmps w:=by
 simp only [step1,aw]at hs;split at hs
 ·rename_i q off cl fg iE z _ hd ag;obtain⟨r⟩:=dR h.tt ag;split at hs
  case h_2=>cases hs
  rename_i cF gw sz b2;rw [Bool.cond_eq_ite]at hs;split at hs
  case isFalse=>cases hs
  rename_i hc;cases hs;obtain⟨b,hb,az⟩:=mf (dz (ds:=[]) h.bj h.dn hd);refine eK h.bj (v:=.pointer (some ⟨b,off+cF,none⟩)) ?_ (.ptr _ _ _ hb);simp only [execOp,aw,az];exact hE _ (I4 r rfl b2 (by simpa using hc) b off)
 ·rename_i cs cl fg iE z _ hd ag;obtain⟨r⟩:=dR h.tt ag;split at hs
  case h_2=>cases hs
  rename_i cF gw sz b2;split at hs
  case h_2=>cases hs
  rename_i sk xD;rw [Bool.cond_eq_ite]at hs;split at hs
  case isFalse=>cases hs
  rename_i hc;simp only [Bool.and_eq_true,Nat.ble_eq]at hc;obtain⟨b,off,val,az,cP,ab,aj⟩:=xd (dz (ds:=[]) h.bj h.dn hd)
  have ec:(execOp (Act.eval ⟨tmps,[]⟩) o).run P w = .ok (.value (.pointer (some ⟨b,off+cF,none⟩))) w:=by
   simp only [execOp,aw,az];exact hE _ (I4 r rfl b2 hc.1 b off)
  simp only [V.cells]at cP ab aj;rw [Bool.cond_eq_ite]at hs;split at hs
  ·cases hs;have hlen:((cs.drop cF).take sz).length=sz:=by simp;omega
   refine eK h.bj ec (.eA b (off+cF) _ (λj=>val (cF+j)) (λj hj=>?_) (λj hj=>?_) (λj c hj=>?_))
   ·simp only [V.cells,hlen]at hj;rw [Nat.add_assoc];exact cP _ (by omega)
   ·simp only [V.cells,hlen]at hj;exact ab _ (by omega)
   ·simp only [V.cells]at hj;rw [List.getElem?_take]at hj;split at hj
    ·rw [List.getElem?_drop]at hj;exact aj _ c hj
    ·cases hj
  ·rw [Bool.cond_eq_ite]at hs;split at hs
   case isFalse=>cases hs
   rename_i dK;split at hs
   case h_2=>cases hs
   rename_i c ir;rw [Bool.cond_eq_ite]at hs;split at hs
   ·cases hs
   ·rename_i W7;cases hs;have j_:=sj (x:=c) (by simpa using W7)
    refine eK h.bj ec (.eA b (off+cF) c (λj=>val (cF+j)) (λj hj=>?_) (λj hj=>?_) (λj gp hj=>?_))
    ·rw [j_]at hj;rw [Nat.add_assoc];exact cP _ (by have:=(List.getElem?_eq_some_iff.1 ir).1;simp at hj;omega)
    ·rw [j_]at hj;exact ab _ (by have:=(List.getElem?_eq_some_iff.1 ir).1;simp at hj;omega)
    ·rw [j_]at hj;cases j with
     |zero=>simp at hj;subst hj;exact aj _ _ ir
     |succ j=>simp at hj
 ·cases hs
def W8(h:Hyp P K N M β g tmps w p tt){s:TypeId}{x:Operand}{i:Nat}(aw:o.op = .field s x i)(hs:step1 b5 tt ops g p o=some (.go f)):Yields P K M β g f o tmps w:=by
 simp only [step1,aw]at hs;split at hs
 case h_3=>cases hs
 case h_2=>
  rename_i cs cl fg iE z _ hd ag;obtain⟨r⟩:=dR h.tt ag;split at hs
  case h_2=>cases hs
  rename_i cF gw sz b2;split at hs
  case h_2=>cases hs
  rename_i sk c xD ir;obtain⟨BO⟩:=dR h.tt xD;rw [Bool.cond_eq_ite]at hs;split at hs
  ·cases hs
  rename_i hc;simp only [Bool.or_eq_true,not_or,Bool.not_eq_true,Bool.not_eq_true',Bool.not_eq_false,Nat.beq_eq]at hc;cases hs;have jQ:=dz (ds:=[]) h.bj h.dn hd;generalize W9:(⟨tmps,[]⟩:Act).eval x=gr at jQ
  cases jQ with
  |agg vs _ hn ab aj=>
   have cJ:cF<cs.length:=(List.getElem?_eq_some_iff.1 ir).1;have d9:vs[cF]? = some vs[cF]:=List.getElem?_eq_getElem (by omega)
   obtain⟨ha,hb⟩:=I5 (w:=w) r rfl b2 BO vs (by omega)
   refine eK h.bj (v:=vs[cF]) ?_ (aj _ _ c d9 ir);simp only [execOp,aw,W9];exact hE _ (hb hc.1.1 _ d9)
 rename_i cs cl fg iE z _ hd ag;obtain⟨r⟩:=dR h.tt ag;split at hs
 case h_2=>cases hs
 rename_i cF gw sz b2;split at hs
 case h_2=>cases hs
 rename_i sk xD;obtain⟨BO⟩:=dR h.tt xD;rw [Bool.cond_eq_ite]at hs;split at hs
 case isFalse=>cases hs
 rename_i hc;simp only [Nat.ble_eq]at hc;obtain⟨vs,az,hlen,ab,aj⟩:=VE (dz (ds:=[]) h.bj h.dn hd);obtain⟨ha,hb⟩:=I5 (w:=w) r rfl b2 BO vs (by omega)
 rw [Bool.cond_eq_ite]at hs;split at hs
 ·rename_i gq;cases hs;refine eK h.bj (v:=.agg ⟨(vs.drop cF).take sz⟩) ?_ (.v _ _ (.agg _ _ (by simp;omega) (λv az=>ab v (List.mem_of_mem_drop (List.mem_of_mem_take az))) (λj v c az ip=>?_)))
  ·simp only [execOp,aw,az];exact hE _ (ha gq)
  ·rw [List.getElem?_take]at az ip;split at az
   ·rename_i hj;rw [if_pos hj,List.getElem?_drop]at ip;rw [List.getElem?_drop]at az;exact aj _ v c az ip
   ·cases az
 ·rename_i gq;split at hs
  case h_2=>cases hs
  rename_i c ir;cases hs;have cJ:cF<cs.length:=(List.getElem?_eq_some_iff.1 ir).1;have d9:vs[cF]? = some vs[cF]:=List.getElem?_eq_getElem (by omega)
  refine eK h.bj (v:=vs[cF]) ?_ (.v _ _ (aj _ _ c d9 ir));simp only [execOp,aw,az];exact hE _ (hb (by simpa using gq) _ d9)
def W'{x y:V}(az:f6 x y){k b off:Nat}{val:Nat→Value}(hk:x.cells.length=k)(cP:∀q,q<k→M b (off+q)=some (val q))(ab:∀q,q<k→(val q).oneCell'=true)
 (aj:∀(q:Nat) c,x.cells[q]? = some c→cT M (val q) c):ce M β (.pointer (some ⟨b,off,none⟩)) (.eA y):=by
 subst hk;have b1:=az M _ (I3 ab aj);cases hx:x.isAgg with
 |true=>
  rw [hx]at b1;simp only [cond_true]at b1;cases b1 with
  |agg vs cs hn kM eH=>
   have hlen:cs.length=x.cells.length:=by simpa using hn.symm
   refine .eA b off _ val (λj hj=>cP j (by simp only [V.cells]at hj;omega)) (λj hj=>ab j (by simp only [V.cells]at hj;omega)) (λj c hj=>?_)
   simp only [V.cells]at hj;have qD:j<x.cells.length:=by have:=(List.getElem?_eq_some_iff.1 hj).1;omega
   exact eH j (val j) c (by simp [qD]) hj
  |any _ kM=>simp [Value.oneCell']at kM
 |false=>
  rw [hx]at b1;simp only [cond_false]at b1;have sA:=sj hx;have fL:=ab 0 (by rw [sA];simp)
  have W_:y.isAgg=false:=by
   cases y<;>first|rfl|skip
   exfalso
   generalize val 0=u at b1 fL
   cases b1;simp [Value.oneCell']at fL
  have BP:=sj W_;refine .eA b off y val (λj hj=>cP j (by rw [sA];rw [BP]at hj;exact hj)) (λj hj=>ab j (by rw [sA];rw [BP]at hj;exact hj)) (λj c hj=>?_)
  rw [BP]at hj;cases j with
  |zero=>simp at hj;subst hj;exact b1
  |succ j=>simp at hj
def Xa(h:Hyp P K N M β g tmps w p tt){t:TypeId}{x i:Operand}(aw:o.op = .indexAddr t x i)(hs:step1 b5 tt ops g p o=some (.go f))(cm:∀q,q∈f.a6→q):Yields P K M β g f o tmps w:=by
 simp only [step1,aw]at hs;split at hs
 case h_2=>cases hs
 rename_i k n get kk j e fg iE z _ hx hi ag;obtain⟨r⟩:=dR h.tt ag;split at hs
 case h_2=>cases hs
 rename_i ao size JW z2 eI;obtain⟨dq⟩:=dR h.tt eI;rw [Bool.cond_eq_ite]at hs;split at hs
 case isFalse=>cases hs
 rename_i hc;simp only [Bool.and_eq_true,Nat.beq_eq,Nat.ble_eq]at hc;obtain⟨rfl,afP⟩:=hc
 have qJ:∃(y:V) (rs:List eT) (a6:List Prop),f={e:=some {d:=.eA y},rs,a6}∧f6 (get j.toNat) y∧aV j n=true:=by
  split at hs
  ·rename_i y rs d';cases hs;exact⟨_,_,_,rfl,cm _ (by simp),cm (aV j n=true) (by simp)⟩
  ·cases hs;exact⟨_,_,_,rfl,λ_ _ h=>h,cm (aV j n=true) (by simp)⟩
  ·cases hs
 obtain⟨y,rs,a6,rfl,cI,fj⟩:=qJ;have fj:=JR fj;have BQ:=jZ (dz (ds:=[]) h.bj h.dn hi);rcases ph (dz (ds:=[]) h.bj h.dn hx) with⟨_,sq⟩|⟨b,off,cap,val,az,_,hk,cP,ab,aj⟩
 ·omega
 ·have cJ:j.toNat<n:=by omega
  have b1:ce M β (.pointer (some ⟨b,off+j.toNat*k,none⟩)) (.eA y):=
   W' cI (hk _ cJ) (λq aP=>cP _ q cJ aP) (λq aP=>ab _ q cJ aP) (λq c aP=>aj _ q c cJ aP)
  refine eK h.bj (v:=.pointer (some ⟨b,off+j.toNat*k,none⟩)) ?_ b1;simp only [execOp,aw,az,BQ];exact hE _ (VI r rfl dq fj.1 fj.2)
def Xb(h:Hyp P K N M β g tmps w p tt){t:TypeId}{x i:Operand}(aw:o.op = .index t x i)(hs:step1 b5 tt ops g p o=some (.go f))(cm:∀q,q∈f.a6→q):Yields P K M β g f o tmps w:=by
 simp only [step1,aw]at hs;split at hs
 case h_2=>cases hs
 rename_i l kk j fg iE z _ hx hi ag;obtain⟨r⟩:=dR h.tt ag;cases hs;have hb:=JR (cm (aV j l.length=true) (by simp))
 have ex:=ku (dz (ds:=[]) h.bj h.dn hx);have BQ:=jZ (dz (ds:=[]) h.bj h.dn hi);refine eK h.bj (v:=.int .u8 (l.getD j.toNat 0).toNat) ?_ (.v _ _ (.int _ _));simp only [execOp,aw,ex,BQ];exact hE _ (VJ r rfl hb.1 hb.2)
def Xc{k n m:Nat}{get:Nat→V}{a:Nat}{b off cap:Nat}
 {val:Nat→Nat→Value} (hk:∀i,i<n→(get i).cells.length=k) (cP:∀i j,i<n→j<k→M b (off+i*k+j)=some (val i j)) (ab:∀i j,i<n→j<k→(val i j).oneCell'=true)
 (aj:∀(i j:Nat) c,i<n→(get i).cells[j]? = some c→cT M (val i j) c) (hm:a+m≤n) (hc:m≤cap):
 cT M (.slice (some ⟨b,off+a*k,none⟩) m cap) (.bz k m λi=>get (a+i)):=by
 refine .bz b (off+a*k) k m cap _ (λi j=>val (a+i) j) hc (λi hi=>hk _ (by omega)) (λi j hi hj=>?_) (λi j hi hj=>ab _ _ (by omega) hj) (λi j c hi j_=>aj _ _ _ (by omega) j_)
 have:=cP (a+i) j (by omega) hj
 rw [Nat.add_mul]at this
 rwa [show off+a*k+i*k+j=off+(a*k+i*k)+j by omega]
def xE{t e:TypeId}{aE b7:dZ}(r:Row P t aE)(hk:aE.k = .bz e)(dq:Row P e b7){base:Option Addr}{n cap:Nat}{lo hi:Option Value}{a b:Nat}
 (iu:lo=none∧a=0∨∃k,lo=some (.int k a)) (hS:hi=none∧b=n∨∃k,hi=some (.int k b)) (kS:a≤b) (nO:b≤n) (kw:n≤cap):
 (Instr.sliceAt t (.slice base n cap) lo hi none).run P w = .ok (.slice (if cap=a then base else base.map (·.add (a*b7.size))) (b-a) (cap-a)) w:=by
 have hu:=r.run_underlying w;rw [mU r hk]at hu;have xF:b≤cap:=by omega
 rcases iu with⟨rfl,rfl⟩|⟨ed,rfl⟩<;>rcases hS with⟨rfl,rfl⟩|⟨ao,rfl⟩
 ·simp [Instr.sliceAt,hu,Instr.slice,Instr.sliceBounds,dq.run_sizeOf]
 ·simp [Instr.sliceAt,hu,Instr.slice,Instr.sliceBounds,Instr.sliceBound,asIntOf,dq.run_sizeOf,xF]
 ·simp [Instr.sliceAt,hu,Instr.slice,Instr.sliceBounds,Instr.sliceBound,asIntOf,dq.run_sizeOf,kS]
 ·simp [Instr.sliceAt,hu,Instr.slice,Instr.sliceBounds,Instr.sliceBound,asIntOf,dq.run_sizeOf,xF,kS]
end
section
variable {P:Program} {K:Ctx} {N:Nat} {M:Mem} {β:Nat→Option Nat} {st:aF} {g:cU} {tmps:Array Value} {w:World} {o:Oper} {f:jj} {p:Path} {tt:de} {b5:fI} {ops:List Oper}
def oE{t:TypeId}{x:Operand}{lo hi mb:Option Operand}(aw:o.op = .slice t x lo hi mb){v u:Value}(hx:(⟨tmps,[]⟩:Act).eval x=v){a b:Option Value}(ha:lo.map (⟨tmps,[]⟩:Act).eval=a)(hb:hi.map (⟨tmps,[]⟩:Act).eval=b){c:Option Value}(hm:mb.map (⟨tmps,[]⟩:Act).eval=c)
 (h:(Instr.sliceAt t v a b c).run P w = .ok u w):(execOp (Act.eval ⟨tmps,[]⟩) o).run P w = .ok (.value u) w:=by
 simp only [execOp,aw,hx,ha,hb,hm];exact hE _ h
def xG{t:TypeId}{aE:dZ}(r:Row P t aE)(hk:aE.k = .str){l:ahs}{lo hi:Option Value}{a b:Nat}
 (iu:lo=none∧a=0∨∃k,lo=some (.int k a)) (hS:hi=none∧b=l.length∨∃k,hi=some (.int k b)) (kS:a≤b) (nO:b≤l.length):
 (Instr.sliceAt t (.string ⟨⟨l⟩⟩) lo hi none).run P w = .ok (.string ⟨⟨(l.take b).drop a⟩⟩) w:=by
 have hu:=r.run_underlying w;rw [nB r hk]at hu;have hs:(⟨⟨l⟩⟩:ByteArray).size=l.length:=rfl
 have hx:(⟨⟨l⟩⟩:ByteArray).extract a b=⟨⟨(l.take b).drop a⟩⟩:=by
  have:=ByteArray.extract_mk l a b
  rw [List.drop_take];exact this
 rcases iu with⟨rfl,rfl⟩|⟨ed,rfl⟩<;>rcases hS with⟨rfl,rfl⟩|⟨ao,rfl⟩
 ·simp [Instr.sliceAt,hu,Instr.slice,Instr.sliceBounds]
 ·simp [Instr.sliceAt,hu,Instr.slice,Instr.sliceBounds,Instr.sliceBound,asIntOf,nO,hs,hx]
 ·simp [Instr.sliceAt,hu,Instr.slice,Instr.sliceBounds,Instr.sliceBound,asIntOf,kS,hs,hx]
 ·simp [Instr.sliceAt,hu,Instr.slice,Instr.sliceBounds,Instr.sliceBound,asIntOf,nO,kS,hs,hx]
def uD{v:Value}{k n:Nat}{get:Nat→V}(az:ce M β v (.v (.bz k n get))){a b:Nat}(kS:a≤b)(nO:b≤n){base:Option Addr}{cap:Nat}(qK:v = .slice base n cap)(kw:n≤cap):
 cT M (.slice (if cap=a then base else base.map (·.add (a*k))) (b-a) (cap-a)) (.bz k (b-a) λi=>get (a+i)):=by
 rcases ph az with⟨ab|⟨a0,ab⟩,ah⟩|⟨mp,off,JA,val,ab,hc,hk,cP,kM,aj⟩
 ·rw [qK]at ab;cases ab;have:b=0:=by omega
  subst this;have:a=0:=by omega
  subst this;exact .jJ _ _
 ·rw [qK]at ab;cases ab;have:b=0:=by omega
  subst this;have:a=0:=by omega
  subst this;exact .l' _ _ _
 ·rw [qK]at ab;cases ab;by_cases J7:cap=a
  ·rw [if_pos J7];have:b-a=0:=by omega
   rw [this];exact .bz mp off k 0 _ _ (λ_ _=>undef) (Nat.zero_le _) (by simp) (by simp) (by simp) (by simp)
  ·rw [if_neg J7];simp only [Option.map_some,addr_add];exact Xc hk cP kM aj (by omega) (by omega)
def Xd(h:Hyp P K N M β g tmps w p tt){t:TypeId}{x:Operand}{lo hi mb:Option Operand}(aw:o.op = .slice t x lo hi mb)(hs:step1 b5 tt ops g p o=some (.go f))(cm:∀q,q∈f.a6→q):Yields P K M β g f o tmps w:=by
 have e_:∀{y:Option Operand} {kk:IntKind} {n:Int},y.map (λy=>rd g.env g.bN p tt o.type y)=some (some (.v (.int kk n)))→y.map (⟨tmps,[]⟩:Act).eval=some (.int kk n):=by
  intro y kk n b1;cases y with
  |none=>simp at b1
  |some y=>
   simp at b1
   simp [jZ (dz (ds:=[]) h.bj h.dn b1)]
 have pt:∀{y:Option Operand},y.map (λy=>rd g.env g.bN p tt o.type y)=none→y.map (⟨tmps,[]⟩:Act).eval=none:=by
  intro y b1;simp at b1;simp [b1]
 simp only [step1,aw]at hs;split at hs
 ·rename_i fg iE z _ ag;obtain⟨r⟩:=dR h.tt ag;split at hs
  ·rename_i l hx iu hS;cases hs;have ex:=ku (dz (ds:=[]) h.bj h.dn hx);have:=xG (w:=w) r rfl (l:=l) (lo:=none) (hi:=none) (a:=0) (b:=l.length) (.inl ⟨rfl,rfl⟩) (.inl ⟨rfl,rfl⟩) (by omega) (by omega)
   simp at this
   exact eK h.bj (oE aw ex (pt iu) (pt hS) rfl this) (.v _ _ (.str _))
  ·rename_i l ed a hx iu hS;cases hs;have ex:=ku (dz (ds:=[]) h.bj h.dn hx);have hb:=pp (cm (gm a l.length=true) (by simp))
   obtain⟨dr,rfl⟩:=Int.eq_ofNat_of_zero_le hb.1;have:=xG (w:=w) r rfl (l:=l) (lo:=some (.int ed dr)) (hi:=none) (a:=dr) (b:=l.length) (.inr ⟨_,rfl⟩) (.inl ⟨rfl,rfl⟩) (by omega) (by omega)
   simp at this
   exact eK h.bj (oE aw ex (e_ iu) (pt hS) rfl this) (.v _ _ (.str _))
  ·rename_i l ao b hx iu hS;cases hs;have ex:=ku (dz (ds:=[]) h.bj h.dn hx);have hb:=pp (cm (gm b l.length=true) (by simp))
   obtain⟨bF,rfl⟩:=Int.eq_ofNat_of_zero_le hb.1;have:=xG (w:=w) r rfl (l:=l) (lo:=none) (hi:=some (.int ao bF)) (a:=0) (b:=bF) (.inl ⟨rfl,rfl⟩) (.inr ⟨_,rfl⟩) (by omega) (by omega)
   simp at this
   exact eK h.bj (oE aw ex (pt iu) (e_ hS) rfl this) (.v _ _ (.str _))
  ·rename_i l ed a ao b hx iu hS;cases hs;have ex:=ku (dz (ds:=[]) h.bj h.dn hx);have hb:=JS (cm (nw a b l.length=true) (by simp))
   obtain⟨dr,rfl⟩:=Int.eq_ofNat_of_zero_le hb.1;obtain⟨bF,rfl⟩:=Int.eq_ofNat_of_zero_le (a:=b) (by omega)
   have:=xG (w:=w) r rfl (l:=l) (lo:=some (.int ed dr)) (hi:=some (.int ao bF)) (a:=dr) (b:=bF) (.inr ⟨_,rfl⟩) (.inr ⟨_,rfl⟩) (by omega) (by omega)
   exact eK h.bj (oE aw ex (e_ iu) (e_ hS) rfl this) (.v _ _ (.str _))
  ·cases hs
 ·rename_i e fg iE z _ ag;obtain⟨r⟩:=dR h.tt ag;split at hs
  ·rename_i ed size uE iI k n get ao a eI hx iu hS;obtain⟨dq⟩:=dR h.tt eI;rw [Bool.cond_eq_ite]at hs;split at hs
   case isFalse=>cases hs
   rename_i gA;simp only [Nat.beq_eq]at gA;subst gA
   have qJ:∃(y:V) (rs:List eT) (a6:List Prop),f={e:=some {d:=.v y},rs,a6}∧f6 (.bz k (n-a.toNat) λi=>get (a.toNat+i)) y∧gm a n=true:=by
    split at hs
    ·rename_i y rs d';cases hs;exact⟨_,_,_,rfl,cm _ (by simp),cm (gm a n=true) (by simp)⟩
    ·cases hs;exact⟨_,_,_,rfl,λ_ _ h=>h,cm (gm a n=true) (by simp)⟩
    ·cases hs
   obtain⟨y,rs,a6,rfl,az,hb⟩:=qJ;have hb:=pp hb;obtain⟨dr,rfl⟩:=Int.eq_ofNat_of_zero_le hb.1;have jq:=dz (ds:=[]) h.bj h.dn hx;obtain⟨base,cap,ex,kw⟩:=qn jq;have:=xE (w:=w) r rfl dq (base:=base) (n:=n) (cap:=cap) (lo:=some (.int ao dr)) (hi:=none) (a:=dr) (b:=n) (.inr ⟨_,rfl⟩) (.inl ⟨rfl,rfl⟩) (by omega) (by omega) kw
   refine eK h.bj (oE aw ex (e_ iu) (pt hS) rfl this) (.v _ _ (az _ _ ?_));have:=uD jq (a:=dr) (b:=n) (by omega) (by omega) ex kw
   simpa using this
  ·rename_i ed size uE iI k n get ao b eI hx iu hS;obtain⟨dq⟩:=dR h.tt eI;rw [Bool.cond_eq_ite]at hs;split at hs
   case isFalse=>cases hs
   rename_i gA;simp only [Nat.beq_eq]at gA;subst gA
   have qJ:∃(y:V) (rs:List eT) (a6:List Prop),f={e:=some {d:=.v y},rs,a6}∧f6 (.bz k b.toNat get) y∧gm b n=true:=by
    split at hs
    ·rename_i y rs d';cases hs;exact⟨_,_,_,rfl,cm _ (by simp),cm (gm b n=true) (by simp)⟩
    ·cases hs;exact⟨_,_,_,rfl,λ_ _ h=>h,cm (gm b n=true) (by simp)⟩
    ·cases hs
   obtain⟨y,rs,a6,rfl,az,hb⟩:=qJ;have hb:=pp hb;obtain⟨bF,rfl⟩:=Int.eq_ofNat_of_zero_le hb.1;have jq:=dz (ds:=[]) h.bj h.dn hx;obtain⟨base,cap,ex,kw⟩:=qn jq;have:=xE (w:=w) r rfl dq (base:=base) (n:=n) (cap:=cap) (lo:=none) (hi:=some (.int ao bF)) (a:=0) (b:=bF) (.inl ⟨rfl,rfl⟩) (.inr ⟨_,rfl⟩) (by omega) (by omega) kw
   refine eK h.bj (oE aw ex (pt iu) (e_ hS) rfl this) (.v _ _ (az _ _ ?_));have:=uD jq (a:=0) (b:=bF) (by omega) (by omega) ex kw
   simpa using this
  ·rename_i ed size uE iI k n get ao a fE b eI hx iu hS;obtain⟨dq⟩:=dR h.tt eI;rw [Bool.cond_eq_ite]at hs;split at hs
   case isFalse=>cases hs
   rename_i gA;simp only [Nat.beq_eq]at gA;subst gA
   have qJ:∃(y:V) (rs:List eT) (a6:List Prop),f={e:=some {d:=.v y},rs,a6}∧f6 (.bz k (b.toNat-a.toNat) λi=>get (a.toNat+i)) y∧nw a b n=true:=by
    split at hs
    ·rename_i y rs d';cases hs;exact⟨_,_,_,rfl,cm _ (by simp),cm (nw a b n=true) (by simp)⟩
    ·cases hs;exact⟨_,_,_,rfl,λ_ _ h=>h,cm (nw a b n=true) (by simp)⟩
    ·cases hs
   obtain⟨y,rs,a6,rfl,az,hb⟩:=qJ;have hb:=JS hb;obtain⟨dr,rfl⟩:=Int.eq_ofNat_of_zero_le hb.1;obtain⟨bF,rfl⟩:=Int.eq_ofNat_of_zero_le (a:=b) (by omega)
   have jq:=dz (ds:=[]) h.bj h.dn hx;obtain⟨base,cap,ex,kw⟩:=qn jq;have:=xE (w:=w) r rfl dq (base:=base) (n:=n) (cap:=cap) (lo:=some (.int ao dr)) (hi:=some (.int fE bF)) (a:=dr) (b:=bF) (.inr ⟨_,rfl⟩) (.inr ⟨_,rfl⟩) (by omega) (by omega) kw
   refine eK h.bj (oE aw ex (e_ iu) (e_ hS) rfl this) (.v _ _ (az _ _ ?_));have:=uD jq (a:=dr) (b:=bF) (by omega) (by omega) ex kw
   simpa using this
  ·rename_i ed size uE iI k n get eI hx iu hS;obtain⟨dq⟩:=dR h.tt eI;rw [Bool.cond_eq_ite]at hs;split at hs
   case isFalse=>cases hs
   rename_i gA;simp only [Nat.beq_eq]at gA;subst gA;cases hs;have jq:=dz (ds:=[]) h.bj h.dn hx;obtain⟨base,cap,ex,kw⟩:=qn jq;have:=xE (w:=w) r rfl dq (base:=base) (n:=n) (cap:=cap) (lo:=none) (hi:=none) (a:=0) (b:=n) (.inl ⟨rfl,rfl⟩) (.inl ⟨rfl,rfl⟩) (by omega) (by omega) kw
   refine eK h.bj (oE aw ex (pt iu) (pt hS) rfl this) (.v _ _ ?_);have:=uD jq (a:=0) (b:=n) (by omega) (by omega) ex kw
   simpa using this
  ·cases hs
 ·rename_i m e fg iE z _ ag;obtain⟨r⟩:=dR h.tt ag;split at hs
  case h_2=>cases hs
  rename_i size uE iI k n get ao b fE c eI hx hS hm;obtain⟨dq⟩:=dR h.tt eI;rw [Bool.cond_eq_ite]at hs;split at hs
  case isFalse=>cases hs
  rename_i gA;simp only [Nat.beq_eq]at gA;subst gA;cases hs;have xF:=cm (b=c) (by simp)
  subst xF;have hb:=pp (cm (gm b n=true) (by simp))
  obtain⟨bF,rfl⟩:=Int.eq_ofNat_of_zero_le hb.1;have jq:=dz (ds:=[]) h.bj h.dn hx;obtain⟨base,cap,ex,kw⟩:=qn jq;have nO:bF≤n:=by omega
  have hu:=r.run_underlying w;rw [mU r rfl]at hu
  have ec:(Instr.sliceAt t (.slice base n cap) none (some (.int ao bF)) (some (.int fE bF))).run P w = .ok (.slice (if bF=0 then base else base.map (·.add (0*k))) bF bF) w:=by
   have ab:bF≤cap:=by omega
   simp [Instr.sliceAt,hu,Instr.slice,Instr.sliceBounds,Instr.sliceBound,asIntOf,dq.run_sizeOf,ab]
  have Xe:(if bF=0 then base else base.map (·.add (0*k)))=base:=by
   split
   ·rfl
   ·cases base with
    |none=>rfl
    |some a=>simp [Addr.add]
  rw [Xe]at ec;have em:(some m).map (⟨tmps,[]⟩:Act).eval=some (.int fE bF):=e_ (y:=some m) hm;refine eK h.bj (oE aw ex rfl (e_ hS) em ec) (.full base k _ get ?_);have J8:=uD jq (a:=0) (b:=bF) (by omega) nO ex kw
  simp only [Nat.sub_zero]at J8 ⊢;have J9:cT M (.slice (if cap=0 then base else base.map (·.add (0*k))) bF cap) (.bz k bF get):=by simpa using J8
  have fj:(if cap=0 then base else base.map (·.add (0*k)))=base:=by
   split
   ·rfl
   ·cases base with
    |none=>rfl
    |some a=>simp [Addr.add]
  rw [fj]at J9;cases J9 with
  |jJ=>exact .jJ _ _
  |l' a=>exact .l' _ _ _
  |bz qb off k n cap get val hc hk cP ab h=>exact .bz qb off k _ _ get val (Nat.le_refl _) hk cP ab h
 ·cases hs
def J'{c:Call}(aw:o.op = .call c)(hc:c.callee = .builtin .len){a:Operand}(fA:c.args.toList=[a]){t:TypeId}(fZ:c.argTypes.toList[0]? = some t){gr v:Value}(ha:(⟨tmps,[]⟩:Act).eval a=gr)
 (h:∀ty,(Builtin.len_ #[t] ty #[gr]).run P w = .ok v w):(execOp (Act.eval ⟨tmps,[]⟩) o).run P w = .ok (.value v) w:=by
 have qx:c.args = #[a]:=by apply Array.ext';simpa using fA
 have Bo:∀ty,(Builtin.len_ c.argTypes ty #[gr]).run P w = .ok v w:=by
  intro ty;have h0:c.argTypes[0]? = some t:=by simpa using fZ
  have:=h ty
  simp only [Builtin.len_,h0]at this ⊢;exact this
 simp only [execOp,aw,resolve,hc,qx,Sem.run_bind,Sem.run_pure,Result.andThen_ok,invoke,builtin,List.map_toArray,List.map_cons,List.map_nil,ha];simp [Bo]
def J_{F:Nat→Option Nat}{l cr:List D}(h:jk F l=some cr):cr.length=l.length:=(r_ h).1.symm
def Xf {c : Call} (aw : o.op = .call c) {x : Operand} (hc : c.callee = .value x) {fn : FuncId} {vs : List Value} (hx : (⟨tmps, []⟩ : Act).eval x = .func (.func fn) #[] ⟨vs⟩) {fd : Func} (b2 : P.funcs[fn]? = some fd) (hb : fd.body.isSome = true) (hn : fd.name ≠ "runtime.NumGoroutine") :
 (execOp (Act.eval ⟨tmps,[]⟩) o).run P w = .ok (.enter fn ⟨c.args.toList.map (⟨tmps,[]⟩:Act).eval++vs⟩) w:=by
 have nO:fd.body≠none:=by intro bu;rw [bu]at hb;cases hb
 simp [execOp,aw,resolve,hc,hx,Deferred.ofValue,invoke,callFunc,b2,nO,hn]
def Ka{F:TypeId→Operand→Option D}:∀{xs:List Operand} {ts:List TypeId} {ds:List D},jI F xs ts=some ds→ds.length=xs.length∧∀(i:Nat) x d,xs[i]? = some x→ds[i]? = some d→∃t,F t x=some d
 |[],ts,ds,h=>by simp [jI]at h;subst h;simp
 |x::xs,[],ds,h=>by simp [jI]at h
 |x::xs,t::ts,ds,h=>by
  simp only [jI]at h;split at h
  case h_2=>cases h
  rename_i d Xg hd gy;cases h;obtain⟨ab,ah⟩:=Ka gy;refine⟨by simp [ab],λi y e b1 he=>?_⟩
  cases i with
  |zero=>simp at b1 he;subst b1;subst he;exact⟨t,hd⟩
  |succ i=>simp at b1 he;exact ah i y e b1 he
mutual
def Kb{ρ:List Nat}:∀(d:D) {dH:D},dW (idx ρ) d=some dH→dW (λj=>ρ[j]?) dH=some d
 |.v x,dH,h=>by simp [dW]at h;subst h;simp [dW]
 |.ptr r off,dH,h=>by
  simp only [dW,Option.map_eq_some_iff]at h;obtain⟨j,hj,rfl⟩:=h;simp [dW,xr hj]
 |.ca r off u,dH,h=>by
  simp only [dW,Option.map_eq_some_iff]at h;obtain⟨j,hj,rfl⟩:=h;simp [dW,xr hj]
 |.eA x,dH,h=>by simp [dW]at h;subst h;simp [dW]
 |.full k n get,dH,h=>by simp [dW]at h;subst h;simp [dW]
 |.fn g eO,dH,h=>by
  simp only [dW,Option.map_eq_some_iff]at h;obtain⟨l,ag,rfl⟩:=h;simp [dW,xH eO ag]
 |.agg cs,dH,h=>by
  simp only [dW,Option.map_eq_some_iff]at h;obtain⟨l,ag,rfl⟩:=h;simp [dW,xH cs ag]
 |.b_ cs,dH,h=>by
  simp only [dW,Option.map_eq_some_iff]at h;obtain⟨l,ag,rfl⟩:=h;simp [dW,xH cs ag]
def xH{ρ:List Nat}:∀(l:List D) {cr:List D},jk (idx ρ) l=some cr→jk (λj=>ρ[j]?) cr=some l
 |[],cr,h=>by simp [jk]at h;subst h;simp [jk]
 |d::l,cr,h=>by
  simp only [jk]at h;split at h
  case h_2=>cases h
  rename_i d1 g_ hd ag;cases h;simp [jk,Kb d hd,xH l ag]
end
def Kc{ρ:List Nat}:∀{b bF:List aR},kK (idx ρ) b=some bF→kK (λj=>ρ[j]?) bF=some b
 |[],bF,h=>by simp [kK]at h;subst h;simp [kK]
 |e::l,bF,h=>by
  simp only [kK]at h;split at h
  case h_2=>cases h
  rename_i e1 g_ he ag;cases h;simp only [w2,Option.map_eq_some_iff]at he;obtain⟨d,hd,rfl⟩:=he;simp [kK,w2,Kb _ hd,Kc ag]
def Kd{ρ:List Nat}:∀{bs mY:List (List aR)},ij (idx ρ) bs=some mY→ij (λj=>ρ[j]?) mY=some bs
 |[],mY,h=>by simp [ij]at h;subst h;simp [ij]
 |b::l,mY,h=>by
  simp only [ij]at h;split at h
  case h_2=>cases h
  rename_i cb g_ hb ag;cases h;simp [ij,Kc hb,Kd ag]
def Xh{st:aF}(h:bB P K M β st tmps w){ρ:List Nat}{bs H1:List (List aR)}(hn:kL ρ=true)(i8:boxes st.H ρ=some bs)(ka:ij (idx ρ) bs=some H1)
 {os:List Nat} {out:Out} {v:Value} {w':World} {M':Mem} {β':Nat→Option Nat} (hH:bB P (iG M β st tmps w ρ os) M' β' {env:=gx out,H:=cH 0 H1,aT:=ρ.length} #[v] w'):
 M.le M'∧bB P K M' β {st with env:=fT os st.env} tmps w'∧
 (∀d own,out = .ret d own→∀dH,dW (λj=>ρ[j]?) d=some dH→ce M' β v dH∧∀T l0,own=some T→kq P K M' β {st with env:=fT os st.env} tmps w' l0 v T)∧
 (∀x,out = .bb x→cT M' v x):=by
 obtain⟨cI,fj⟩:=qB i8;have fb:H1.length=ρ.length:=by rw [(ss ka).1,cI]
 obtain⟨ab,ah,ay,bl⟩:=BB h hn i8 (Kd ka) fb hH
 have iH:∀r,look (jl ρ bs++st.H) r=look st.H r:=by
  intro r;obtain⟨bQ,df⟩:=Bu (H:=st.H) (ρ:=ρ) (bs:=bs) cI hn r;by_cases hj:∃(j:Nat),ρ[j]? = some r
  ·obtain⟨j,hj⟩:=hj;rw [bQ j hj,(fj j r hj).1]
  ·exact df λj bu=>hj ⟨j,bu⟩
 have eQ:∀l,({env:=fT os st.env,H:=jl ρ bs++st.H,aT:=st.aT}:aF).at l=({st with env:=fT os st.env}:aF).at l:=by
  intro l;cases l with
  |slot s=>rfl
  |cell r i=>simp only [aF.at,iH]
 refine⟨ab,ah.sub rfl (λl e ag=>⟨e,by rw [eQ];exact ag,rfl,λ_ h=>h⟩) (λr cs aj=>⟨cs,by rw [←aj];exact iH r,rfl⟩),λd own hd dH iC=>?_,bl⟩
 obtain⟨bQ,df⟩:=ay d own hd dH iC;refine⟨bQ,λT l0 aO=>?_⟩
 obtain⟨fK,hR,sm⟩:=df T l0 aO;exact⟨fK,λl e T' b ag=>hR l e T' b (by rw [eQ];exact ag),λb r cs hb aj=>sm b r cs hb (by rw [←aj];exact iH r)⟩
def Ke(P:Program)(K:Ctx)(M:Mem)(β:Nat→Option Nat)(g:cU)(s:lk)(o:Oper)(tmps:Array Value)(w:World):Prop:=
 match s with
 |.go f=>(∀q,q∈f.a6→q)→Yields P K M β g f o tmps w
 |.bb x hs a6=>(∀q,q∈a6→q)→Wz P K M β g x hs o tmps w
def Kf{os:List Nat}{env:List (Nat×aR)}{s:Nat}{e:aR}(h:look env s=some e):∃bI,look (fT os env) s=some bI∧bI.d=e.d:=by
 rw [kO,h];split
 ·exact⟨_,rfl,rfl⟩
 ·exact⟨_,rfl,rfl⟩
def BR{g:cU}(h:e0 P K N M β g tmps w){xs:List Operand}{ts:List TypeId}:∀{os:List Nat} {hd:List (Nat×Option Nat×TypeId)},handed tt g xs ts os=some hd→∀{vs:List Value},
 (∀(i:Nat) t,xs[i]? = some (.tmp t)→vs[i]? = some (tmps.getD t undef))→(∀(i:Nat),xs[i]? = some (.const (.slice none 0 0))→vs[i]? = some (.slice none 0 0))→
 Handed {env:=g.env,H:=g.H,aT:=g.aT} tmps vs hd
 |[],hd,bu,vs,_,_=>by
  simp [handed]at bu;subst bu;exact⟨by simp,by simp,by simp⟩
 |i::os,hd,bu,vs,ab,ah=>by
  simp only [handed]at bu;split at bu
  ·rename_i t l hx ag;have bD:=BR h ag ab ah;split at bu
   case h_2=>cases bu
   rename_i d e he;rw [Bool.cond_eq_ite]at bu;split at bu
   case isFalse=>cases bu
   rename_i hc;simp only [Bool.and_eq_true,List.all_eq_true,Bool.not_eq_true']at hc;cases bu;refine⟨λkr h4 T hm=>?_,λkr T hm=>?_,λkr qE h4 T T' hm iv=>?_⟩
   ·rcases List.mem_cons.1 hm with hm|hm
    ·cases hm;exact⟨_,he,rfl,ab i t hx⟩
    ·exact bD.some kr h4 T hm
   ·rcases List.mem_cons.1 hm with hm|hm
    ·cases hm
    ·exact bD.none kr T hm
   ·rcases List.mem_cons.1 hm with hm|hm<;>rcases List.mem_cons.1 iv with iv|iv
    ·cases hm;cases iv;rfl
    ·cases hm;have:=(hc.2 _ iv).1
     simp at this
    ·cases iv;have:=(hc.2 _ hm).1
     simp at this
    ·exact bD.inj kr qE h4 T T' hm iv
  ·rename_i l hx ag;have bD:=BR h ag ab ah;split at bu
   case h_2=>cases bu
   rename_i e fg iE z _ he;rw [Bool.cond_eq_ite]at bu;split at bu
   case isFalse=>cases bu
   cases bu;refine⟨λkr h4 T hm=>?_,λkr T hm=>?_,λkr qE h4 T T' hm iv=>?_⟩
   ·rcases List.mem_cons.1 hm with hm|hm
    ·cases hm
    ·exact bD.some kr h4 T hm
   ·rcases List.mem_cons.1 hm with hm|hm
    ·cases hm;exact ah i hx
    ·exact bD.none kr T hm
   ·rcases List.mem_cons.1 hm with hm|hm<;>rcases List.mem_cons.1 iv with iv|iv
    ·cases hm
    ·cases hm
    ·cases iv
    ·exact bD.inj kr qE h4 T T' hm iv
  ·cases bu
def Xi(h:Hyp P K N M β g tmps w p tt){c:Call}(aw:o.op = .call c){x:Operand}(hc:c.callee = .value x){fn:FuncId}{eO ds:List D}(hx:rd g.env g.bN p tt o.type x=some (.fn fn eO))
 (gy:jI (rd g.env g.bN p tt) c.args.toList c.argTypes.toList=some ds) {s:lk} (hs:r7 (gg P) tt g p c.args.toList c.argTypes.toList fn (ds++eO)=some s):
 Ke P K M β g s o tmps w:=by
 obtain⟨vs,az,hlen,aj⟩:=I2 (dz (ds:=[]) h.bj h.dn hx);obtain⟨fJ,i6⟩:=Ka gy
 have fA:∀(i:Nat) v d,(c.args.toList.map (⟨tmps,[]⟩:Act).eval++vs)[i]? = some v→(ds++eO)[i]? = some d→ce M β v d:=by
  intro i v d d9 pq;by_cases hi:i<c.args.toList.length
  ·rw [List.getElem?_append_left (by simpa using hi),List.getElem?_map,Option.map_eq_some_iff]at d9
   obtain⟨y,b1,rfl⟩:=d9;rw [List.getElem?_append_left (by omega)]at pq
   obtain⟨ty,fZ⟩:=i6 i y d b1 pq;exact dz h.bj h.dn fZ
  ·rw [List.getElem?_append_right (by simp;simp at hi;omega)]at d9
   rw [List.getElem?_append_right (by omega)]at pq
   refine aj _ v d d9 ?_;rw [fJ]at pq;simpa using pq
 have Kg:(c.args.toList.map (⟨tmps,[]⟩:Act).eval++vs).length=(ds++eO).length:=by simp at fJ ⊢;omega
 unfold r7 at hs
 dsimp only at hs
 generalize jO:ma g.H 2 (dedup ((ds++eO).flatMap refs))=ρ at hs
 split at hs
 case h_2=>cases hs
 rename_i out cn os rs d';split at hs
 case h_2=>cases hs
 rename_i h3 H1 hd Kh ka qC;rw [Option.bind_eq_some_iff]at ka;obtain⟨bs,i8,ka⟩:=ka;rw [Bool.cond_eq_ite]at hs;split at hs
 ·cases hs
 rename_i Ki
 have hn:kL ρ=true:=by
  have:(!kL ρ || !(List.isEmpty p||List.isEmpty os))=false:=by simpa using Ki
  simp only [Bool.or_eq_false_iff,Bool.not_eq_false']at this;exact this.1
 have eb:=BR h.bj qC (vs:=c.args.toList.map (⟨tmps,[]⟩:Act).eval++vs) (λi t cc=>by
  rw [List.getElem?_append_left (by simpa using(List.getElem?_eq_some_iff.1 cc).1),List.getElem?_map,cc];rfl) (λi cc=>by
  rw [List.getElem?_append_left (by simpa using(List.getElem?_eq_some_iff.1 cc).1),List.getElem?_map,cc];rfl)
 have dE:=JI (st:={env:=g.env,H:=g.H,aT:=g.aT}) h.bj.bj hn i8 ka Kg fA Kh eb;have fb:H1.length=ρ.length:=by rw [(ss ka).1,(qB i8).1]
 -- xl jM contract Xj, afQ jM boxes behind it
 have key:∀{qL:List (List aR)},fP P fn h3 (pn hd) H1 out qL→(execOp (Act.eval ⟨tmps,[]⟩) o).run P w = .ok (.enter fn ⟨c.args.toList.map (⟨tmps,[]⟩:Act).eval++vs⟩) w∧
  Calls P fn ⟨c.args.toList.map (⟨tmps,[]⟩:Act).eval++vs⟩ w λe w'=>∃v M' β',e=nH out v∧
   bB P (iG M β {env:=g.env,H:=g.H,aT:=g.aT} tmps w ρ (nK hd)) M' β' {env:=gx out,H:=cH 0 qL,aT:=ρ.length} #[v] w':=by
  intro qL Xk;obtain⟨⟨fd,kv,BS,h9⟩,Xl⟩:=Xk;refine⟨Xf aw hc az kv BS h9,(Xl _ w _ M _ (by rw [Kg,J_ Kh]) dE (λr b hb=>hb)).mono ?_⟩
  rintro e w' ⟨o',H',v,M',β',⟨rfl,rfl⟩,he,cD⟩
  rw [fb]at cD;exact⟨v,M',β',he,cD⟩
 -- jM boxes as afR afS, named afT and back
 have back:∀{qL Xm:List (List aR)},ij (λj=>ρ[j]?) qL=some Xm→qL.length=ρ.length→∀{v:Value} {w':World} {M':Mem} {β':Nat→Option Nat},
  bB P (iG M β {env:=g.env,H:=g.H,aT:=g.aT} tmps w ρ (nK hd)) M' β' {env:=gx out,H:=cH 0 qL,aT:=ρ.length} #[v] w'→_:=
  λhx ag _ _ _ _ hp=>BB (st:={env:=g.env,H:=g.H,aT:=g.aT}) h.bj.bj hn i8 hx ag hp
 have Kj:∀{v:Value} {w':World} {M':Mem} {β':Nat→Option Nat},
  bB P (iG M β {env:=g.env,H:=g.H,aT:=g.aT} tmps w ρ (nK hd)) M' β' {env:=gx out,H:=cH 0 H1,aT:=ρ.length} #[v] w'→
  M.le M'∧bB P K M' β {env:=fT (nK hd) g.env,H:=g.H,aT:=g.aT} tmps w'∧
  (∀d own,out = .ret d own→∀dH,dW (λj=>ρ[j]?) d=some dH→ce M' β v dH∧∀T l0,own=some T→kq P K M' β {env:=fT (nK hd) g.env,H:=g.H,aT:=g.aT} tmps w' l0 v T)∧
  (∀x,out = .bb x→cT M' v x):=by
  intro v w' M' β' hp;exact Xh (st:={env:=g.env,H:=g.H,aT:=g.aT}) h.bj.bj hn i8 ka hp
 cases out with
 |ret d own=>
  cases cn with
  |none=>
   simp only [Option.map_eq_some_iff]at hs;obtain⟨dH,iC,rfl⟩:=hs;intro cm;obtain⟨ab,ah⟩:=key (cm _ (List.mem_singleton.2 rfl));refine .inr (.inr ⟨fn,_,ab,ah.mono ?_⟩)
   rintro e w' ⟨v,M',β',he,hp⟩
   obtain⟨cP,cD,BT,_⟩:=Kj hp;refine⟨v,he,M',β,cP,λ_ _ h=>h,λ_ _ h=>.inl h,cD,λe1 mW=>?_⟩
   cases mW;exact BT d own rfl dH iC
  |some cn=>
   dsimp only at hs
   split at hs
   case h_2=>cases hs
   rename_i dH g' iC qH;rw [Bool.cond_eq_ite]at hs;split at hs
   case isFalse=>cases hs
   rename_i ag;cases hs;intro cm;obtain⟨ab,ah⟩:=key (cm _ (List.mem_singleton.2 rfl));refine .inr (.inr ⟨fn,_,ab,ah.mono ?_⟩)
   rintro e w' ⟨v,M',β',he,hp⟩
   obtain⟨cP,cD,BT,_⟩:=back qH (by simpa using ag) hp
   refine⟨v,he,M',β,cP,λ_ _ h=>h,λ_ _ h=>.inl h,cD,λe1 mW=>?_⟩
   cases mW;exact BT d own rfl dH iC
 |bb x=>
  cases cn with
  |none=>
   cases hs;intro cm;obtain⟨ab,ah⟩:=key (cm _ (List.mem_singleton.2 rfl));refine .inr ⟨fn,_,ab,ah.mono ?_⟩
   rintro e w' ⟨v,M',β',he,hp⟩
   obtain⟨cP,cD,_,BU⟩:=Kj hp;exact⟨v,M',he,BU x rfl,cD.mQ λs e he=>Kf he⟩
  |some cn=>
   dsimp only at hs
   split at hs
   case h_2=>cases hs
   rename_i g' qH;rw [Bool.cond_eq_ite]at hs;split at hs
   case isFalse=>cases hs
   rename_i ag;cases hs;intro cm;obtain⟨ab,ah⟩:=key (cm _ (List.mem_singleton.2 rfl));refine .inr ⟨fn,_,ab,ah.mono ?_⟩
   rintro e w' ⟨v,M',β',he,hp⟩
   obtain⟨cP,cD,_,BU⟩:=back qH (by simpa using ag) hp
   exact⟨v,M',he,BU x rfl,cD.mQ λs e he=>Kf he⟩
end
section
variable {P:Program} {K:Ctx} {N:Nat} {M:Mem} {β:Nat→Option Nat} {st:aF} {g:cU} {tmps:Array Value} {w:World} {o:Oper} {f:jj} {p:Path} {tt:de} {ops:List Oper}
def Kk(h:Hyp P K N M β g tmps w p tt){c:Call}(aw:o.op = .call c)(hc:c.callee = .builtin .len){d:D}(hd:mapM' (λy=>rd g.env g.bN p tt o.type y) c.args.toList=some [d]){aE:dZ}
 (ag:(c.argTypes.toList[0]?).bind (look tt)=some aE) {n:Nat} (hk:(∃l,d = .v (.str l)∧aE.k = .str∧n=l.length)∨(∃k get e,d = .v (.bz k n get)∧aE.k = .bz e)):
 Yields P K M β g {e:=some {d:=.v (.int .i64 n)},rs:=g.rs} o tmps w:=by
 obtain⟨fJ,i6⟩:=pi hd;rw [Option.bind_eq_some_iff]at ag;obtain⟨t,cc,ag⟩:=ag;obtain⟨r⟩:=dR h.tt ag
 obtain⟨a,ha⟩:∃a,c.args.toList=[a]:=by
  cases ho:c.args.toList with
  |nil=>rw [ho]at fJ;simp at fJ
  |cons a l=>
   rw [ho]at fJ;simp at fJ
   exact⟨a,by rw [fJ]⟩
 have m3:=dz (ds:=[]) h.bj h.dn (i6 0 a d (by rw [ha];rfl) rfl)
 rcases hk with⟨l,rfl,hk,rfl⟩|⟨k,get,e,rfl,hk⟩
 ·have nL:=ku m3;refine eK h.bj (J' aw hc ha cc nL (λty=>?_)) (.v _ _ (.int _ _))
  have hs:(⟨⟨l⟩⟩:ByteArray).size=l.length:=rfl;simp [Builtin.len_,r.run_underlying,nB r hk,goInt,hs]
 ·obtain⟨base,cap,nL,_⟩:=qn m3;refine eK h.bj (J' aw hc ha cc nL (λty=>?_)) (.v _ _ (.int _ _))
  simp [Builtin.len_,r.run_underlying,mU r hk,goInt]
def Xn(h:Hyp P K N M β g tmps w p tt){c:Call}(aw:o.op = .call c)(hc:c.callee = .builtin .min){k:IntKind}{a b:Int}(hd:mapM' (λy=>rd g.env g.bN p tt o.type y) c.args.toList=some [.v (.int k a),.v (.int k b)]):
 Yields P K M β g {e:=some {d:=.v (.int k (bif decide (b<a)then b else a))},rs:=g.rs} o tmps w:=by
 obtain⟨fJ,i6⟩:=pi hd
 obtain⟨x,y,kt⟩:∃x y,c.args.toList=[x,y]:=by
  cases ho:c.args.toList with
  |nil=>rw [ho]at fJ;simp at fJ
  |cons x l=>
   cases l with
   |nil=>rw [ho]at fJ;simp at fJ
   |cons y l=>
    rw [ho]at fJ;simp at fJ
    exact⟨x,y,by rw [fJ]⟩
 have ex:=jZ (dz (ds:=[]) h.bj h.dn (i6 0 x _ (by rw [kt];rfl) rfl))
 have BV:=jZ (dz (ds:=[]) h.bj h.dn (i6 1 y _ (by rw [kt];rfl) rfl))
 have qx:c.args = #[x,y]:=by apply Array.ext';simpa using kt
 refine eK h.bj (v:=.int k (bif decide (b<a)then b else a)) ?_ (.v _ _ (.int _ _))
 simp only [execOp,aw,resolve,hc,qx,Sem.run_bind,Sem.run_pure,Result.andThen_ok,invoke,builtin,List.map_toArray,List.map_cons,List.map_nil,ex,BV];by_cases kS:b<a<;>simp [Builtin.min_,Builtin.min2,kS]
def Xo(h:Hyp P K N M β g tmps w p tt){c:Call}(aw:o.op = .call c)(hc:c.callee = .builtin .max){k:IntKind}{a b:Int}(hd:mapM' (λy=>rd g.env g.bN p tt o.type y) c.args.toList=some [.v (.int k a),.v (.int k b)]):
 Yields P K M β g {e:=some {d:=.v (.int k (bif decide (a<b)then b else a))},rs:=g.rs} o tmps w:=by
 obtain⟨fJ,i6⟩:=pi hd
 obtain⟨x,y,kt⟩:∃x y,c.args.toList=[x,y]:=by
  cases ho:c.args.toList with
  |nil=>rw [ho]at fJ;simp at fJ
  |cons x l=>
   cases l with
   |nil=>rw [ho]at fJ;simp at fJ
   |cons y l=>
    rw [ho]at fJ;simp at fJ
    exact⟨x,y,by rw [fJ]⟩
 have ex:=jZ (dz (ds:=[]) h.bj h.dn (i6 0 x _ (by rw [kt];rfl) rfl))
 have BV:=jZ (dz (ds:=[]) h.bj h.dn (i6 1 y _ (by rw [kt];rfl) rfl))
 have qx:c.args = #[x,y]:=by apply Array.ext';simpa using kt
 refine eK h.bj (v:=.int k (bif decide (a<b)then b else a)) ?_ (.v _ _ (.int _ _))
 simp only [execOp,aw,resolve,hc,qx,Sem.run_bind,Sem.run_pure,Result.andThen_ok,invoke,builtin,List.map_toArray,List.map_cons,List.map_nil,ex,BV];by_cases kS:a<b<;>simp [Builtin.max_,Builtin.max2,kS]
def Xp(h:Hyp P K N M β g tmps w p tt){b5:fI}{x:Operand}{s t:TypeId}{ok:Bool}(aw:o.op = .typeAssert x s t ok)(hs:step1 b5 tt ops g p o=some (.go f)):Yields P K M β g f o tmps w:=by
 simp only [step1,aw]at hs;split at hs
 case h_2=>cases hs
 rename_i h4 y k fg iE z _ hx ag;obtain⟨r⟩:=dR h.tt ag;have aj:=dz (ds:=[]) h.bj h.dn hx;obtain⟨u,az,hu⟩:=AW aj;have Kl:k ≠ .l9:=by rintro rfl;simp at hs
 have BM:∀i,r.desc ≠ .interface i:=by
  intro i hd;have:=r.hk
  rw [hd]at this;simp [jo]at this;exact Kl this.symm
 have fw:(bif Nat.beq h4 t then(some (lk.go {e:=some {d:=(bif ok then .b_ [.v y,.v (.bool true)]else .v y)},rs:=g.rs}))else none)=some (.go f):=by
  cases k<;>first|exact(Kl rfl).elim|exact hs
 rw [Bool.cond_eq_ite]at fw;split at fw
 case isFalse=>cases fw
 rename_i hb;have bH:h4=t:=by simpa using hb
 subst bH;cases fw
 have ec:(Instr.typeAssert (.iface h4 u) s h4 ok).run P w = .ok (bif ok then .tuple #[u,.bool true]else u) w:=by
  unfold Instr.typeAssert;simp only [Sem.run_bind,r.run_underlying,Result.andThen_ok];cases hd:r.desc<;>first|exact(BM _ hd).elim|(cases ok<;>simp)
 refine eK h.bj (v:=bif ok then .tuple #[u,.bool true]else u) ?_ ?_
 ·simp only [execOp,aw,az];exact hE _ ec
 ·cases ok
  ·exact .v _ _ hu
  ·refine .b_ [u,.bool true] _ rfl λi v c az hc=>?_
   match i with
   | 0=>simp at az hc;subst az;subst hc;exact .v _ _ hu
   | 1=>simp at az hc;subst az;subst hc;exact .v _ _ (.bool _)
   |i+2=>simp at az
def Km(h:Hyp P K N M β g tmps w p tt){s:lk}(hs:step1 (gg P) tt ops g p o=some s):Ke P K M β g s o tmps w:=by
 cases aw:o.op with
 |move x=>cases s with
  |go f=>exact λ_=>WG h aw hs
  |bb x fw a6=>simp only [step1,aw]at hs;repeat' (first |(split at hs) |(rw [Bool.cond_eq_ite]at hs) |(cases hs;done))
 |assign x=>cases s with
  |go f=>exact λ_=>WH h aw hs
  |bb x fw a6=>simp only [step1,aw]at hs;repeat' (first |(split at hs) |(rw [Bool.cond_eq_ite]at hs) |(cases hs;done))
 |pick c a b=>
  cases c with
  |tmp c=>cases s with
   |go f=>exact λ_=>WI h aw hs
   |bb x fw a6=>simp only [step1,aw]at hs;repeat' (first |(split at hs) |(simp at hs;done))
  |_=>simp [step1,aw]at hs
 |alloc t=>cases s with
  |go f=>exact λ_=>WJ h aw hs
  |bb x fw a6=>simp only [step1,aw]at hs;repeat' (first |(split at hs) |(cases hs;done))
 |box t x=>cases s with
  |go f=>exact λ_=>WK h aw hs
  |bb x fw a6=>simp only [step1,aw]at hs;repeat' (first |(split at hs) |(rw [Bool.cond_eq_ite]at hs) |(cases hs;done))
 |build t parts=>cases s with
  |go f=>exact λ_=>WL h aw hs
  |bb x fw a6=>simp only [step1,aw]at hs;repeat' (first |(split at hs) |(rw [Bool.cond_eq_ite]at hs) |(simp at hs;done) |(cases hs;done))
 |buildSlice t len parts=>cases s with
  |go f=>exact λcm=>WN h aw hs cm
  |bb x fw a6=>simp only [step1,aw]at hs;repeat' (first |(split at hs) |(rw [Bool.cond_eq_ite]at hs) |(cases hs;done))
 |load t a=>cases s with
  |go f=>exact λ_=>WO h aw hs
  |bb x fw a6=>simp only [step1,aw]at hs;repeat' (first |(split at hs) |(rw [Bool.cond_eq_ite]at hs) |(simp at hs;done) |(cases hs;done))
 |store t a x=>cases s with
  |go f=>exact λ_=>WP h aw hs
  |bb x fw a6=>simp only [step1,aw]at hs;repeat' (first |(split at hs) |(rw [Bool.cond_eq_ite]at hs) |(cases hs;done))
 |nilCheck x=>cases s with
  |go f=>exact λ_=>WQ h aw hs
  |bb x fw a6=>simp only [step1,aw]at hs;repeat' (first |(split at hs) |(simp at hs;done))
 |binOp op t x y t2=>cases s with
  |go f=>exact λcm=>W5 h aw hs cm
  |bb x fw a6=>simp only [step1,aw]at hs;repeat' (first |(split at hs) |(rw [Bool.cond_eq_ite]at hs) |(simp at hs;done))
 |unOp op t x=>cases s with
  |go f=>exact λ_=>WR h aw hs
  |bb x fw a6=>simp only [step1,aw]at hs;repeat' (first |(split at hs) |(simp at hs;done))
 |convert a b x=>cases s with
  |go f=>exact λcm=>WS h aw hs cm
  |bb x fw a6=>simp only [step1,aw]at hs;repeat' (first |(split at hs) |(simp at hs;done))
 |makeInterface t x=>cases s with
  |go f=>exact λ_=>WV h aw hs
  |bb x fw a6=>simp only [step1,aw]at hs;repeat' (first |(split at hs) |(simp at hs;done))
 |makeFunc fn first eO=>
  cases fn with
  |func fn=>cases s with
   |go f=>exact λ_=>WW h aw hs
   |bb x fw a6=>simp only [step1,aw]at hs;rw [Bool.cond_eq_ite]at hs;split at hs<;>simp at hs
  |_=>simp [step1,aw]at hs
 |slice t x lo hi mb=>cases s with
  |go f=>exact λcm=>Xd h aw hs cm
  |bb x fw a6=>simp only [step1,aw]at hs;repeat' (first |(split at hs) |(rw [Bool.cond_eq_ite]at hs) |(simp at hs;done))
 |fieldAddr a x i=>cases s with
  |go f=>exact λ_=>W6 h aw hs
  |bb x fw a6=>simp only [step1,aw]at hs;repeat' (first |(split at hs) |(rw [Bool.cond_eq_ite]at hs) |(simp at hs;done))
 |field a x i=>cases s with
  |go f=>exact λ_=>W8 h aw hs
  |bb x fw a6=>simp only [step1,aw]at hs;repeat' (first |(split at hs) |(rw [Bool.cond_eq_ite]at hs) |(simp at hs;done))
 |indexAddr t x i=>cases s with
  |go f=>exact λcm=>Xa h aw hs cm
  |bb x fw a6=>simp only [step1,aw]at hs;repeat' (first |(split at hs) |(rw [Bool.cond_eq_ite]at hs) |(simp at hs;done))
 |index t x i=>cases s with
  |go f=>exact λcm=>Xb h aw hs cm
  |bb x fw a6=>simp only [step1,aw]at hs;repeat' (first |(split at hs) |(simp at hs;done))
 |typeAssert x a t ok=>cases s with
  |go f=>exact λ_=>Xp h aw hs
  |bb x fw a6=>simp only [step1,aw]at hs;repeat' (first |(split at hs) |(rw [Bool.cond_eq_ite]at hs) |(simp at hs;done) |(cases hs;done))
 |extract x i=>cases s with
  |go f=>exact λ_=>WX h aw hs
  |bb x fw a6=>simp only [step1,aw]at hs;repeat' (first |(split at hs) |(simp at hs;done))
 |call c=>
  simp only [step1,aw]at hs;split at hs
  ·rename_i x mu;split at hs
   case h_2=>cases hs
   rename_i fn eO ds hx gy;exact Xi h aw mu hx gy hs
  ·rename_i mu;split at hs
   ·rename_i l _ _ _ _ hd ag;cases hs;exact λ_=>Kk h aw mu hd ag (.inl ⟨l,rfl,rfl,rfl⟩)
   ·rename_i k n get _ _ _ _ _ hd ag;cases hs;exact λ_=>Kk h aw mu hd ag (.inr ⟨k,get,_,rfl,rfl⟩)
   ·cases hs
  ·rename_i mu;split at hs
   case h_2=>cases hs
   rename_i t x e afU uE iI _ t2 fA fb eI;split at hs
   case h_3=>cases hs
   case h_2=>
    rename_i b7 k n get d2 y rs hle oF i6 d';rw [Bool.cond_eq_ite]at hs;split at hs
    case isFalse=>cases hs
    rename_i hc;simp only [Bool.and_eq_true,Nat.beq_eq,Nat.ble_eq]at hc;obtain⟨⟨⟨rfl,Xq⟩,xI⟩,qM⟩:=hc;rw [Option.bind_eq_some_iff]at fb eI;obtain⟨Xr,xJ,fb⟩:=fb;obtain⟨BW,mj,eI⟩:=eI;have iq:=dz (ds:=[]) h.bj h.dn i6;split at hs
    case h_2=>cases hs
    rename_i ao m jX e2 nP;rw [Bool.cond_eq_ite]at hs;split at hs
    case isFalse=>cases hs
    rename_i gA;simp only [Bool.and_eq_true,Nat.beq_eq,Nat.ble_eq]at gA;obtain⟨rfl,hm⟩:=gA;cases hs;intro cm;obtain⟨news,ml,js⟩:=JE h.bj.bj h.tt eI nP iq;exact We h.bj h.dn h.tt fb rfl hle aw mu fA xJ mj oF xI hm ml js (BF (cm (room (n+m) b7.bytes=true) (by simp))) (cm (f6 _ y) (by simp))
   rename_i b7 k n get d2 afV aZ y rs hle oF i6 qu d';rw [Bool.cond_eq_ite]at hs;split at hs
   case isFalse=>cases hs
   rename_i hc;simp only [Bool.and_eq_true,Nat.beq_eq,Nat.ble_eq]at hc;obtain⟨⟨⟨⟨rfl,rfl⟩,Xq⟩,xI⟩,qM⟩:=hc;rw [Option.bind_eq_some_iff]at fb eI;obtain⟨Xr,xJ,fb⟩:=fb;obtain⟨BW,mj,eI⟩:=eI;have iq:=dz (ds:=[]) h.bj h.dn i6;split at hs
   ·rename_i ao m jX e2 nP;rw [Bool.cond_eq_ite]at hs;split at hs
    case isFalse=>cases hs
    rename_i gA;simp only [Nat.beq_eq]at gA;subst gA;cases hs;intro cm;obtain⟨news,ml,js⟩:=JE h.bj.bj h.tt eI nP iq;exact Jy h.bj h.dn h.tt fb rfl hle aw mu fA xJ mj oF qu rfl xI ml js (BF (cm (room (n+m) b7.bytes=true) (by simp))) (cm (f6 _ y) (by simp))
   ·rename_i l nP;rw [Bool.cond_eq_ite]at hs;split at hs
    case isFalse=>cases hs
    rename_i gA;simp only [Nat.beq_eq]at gA;cases hs;intro cm;have BX:=ku iq;obtain⟨news,ml,js⟩:=Wi (P:=P) (w:=w) h.tt eI nP l M;rw [←BX,←gA]at ml;rw [←gA]at js;exact Jy h.bj h.dn h.tt fb rfl hle aw mu fA xJ mj oF qu rfl xI ml js (BF (cm (room (n+l.length) b7.bytes=true) (by simp))) (cm (f6 _ y) (by simp))
   ·cases hs
  ·rename_i mu;split at hs
   ·rename_i k a ao b hd;rw [Bool.cond_eq_ite]at hs;split at hs
    case isFalse=>cases hs
    rename_i hk;have nQ:k=ao:=by simpa using hk
    subst nQ;cases hs;exact λ_=>Xn h aw mu hd
   ·cases hs
  ·rename_i mu;split at hs
   ·rename_i k a ao b hd;rw [Bool.cond_eq_ite]at hs;split at hs
    case isFalse=>cases hs
    rename_i hk;have nQ:k=ao:=by simpa using hk
    subst nQ;cases hs;exact λ_=>Xo h aw mu hd
   ·cases hs
  ·cases hs
 |panic x=>cases s with
  |go f=>simp only [step1,aw]at hs;repeat' (first |(split at hs) |(simp at hs;done))
  |bb y fw a6=>
   simp only [step1,aw]at hs;split at hs
   case h_2=>cases hs
   rename_i t z hd;cases hs;intro _;have aj:=dz (ds:=[]) h.bj h.dn hd;obtain⟨u,az,hu⟩:=AW aj;refine .inl ⟨.iface t u,?_,.iface t u z hu,rfl⟩;simp [execOp,aw,az,Instr.panic]
 |_=>simp [step1,aw]at hs
end
inductive b8 where
 |normal
 |exit (id:Nat)
 |ret
 |bb (x:V)
def nR(P:Program)(K:Ctx)(N:Nat)(eB:b8)(st:aF)(e:Exit)(a:Act)(w:World):Prop:=
 match eB with
 |.normal=>e = .normal∧a.defers=K.ds∧a.tmps.size=N∧∃M β,bB P K M β st a.tmps w
 |.exit id=>e = .exit id∧a.defers=K.ds∧a.tmps.size=N∧∃M β,bB P K M β st a.tmps w
 |.ret=>e = .ret∧a.defers=K.ds∧a.tmps.size=N∧∃M β,bB P K M β st a.tmps w
 |.bb x=>∃v,e = .panic [{v,recovered:=false}]∧a.defers=K.ds∧∃M β,cT M v x∧bB P K M β st a.tmps w
section
variable {P:Program} {K:Ctx} {N:Nat} {M:Mem} {β:Nat→Option Nat} {st:aF} {g eP:cU} {tmps:Array Value} {w:World} {o:Oper} {f:jj} {p:Path} {tt:de} {ops:List Oper}
def bB.uF(h:bB P K M β st tmps w)(dI:Array Value):bB P K M β {env:=[],H:=st.H,aT:=st.aT} dI w:=by
 have ab:bB P K M β {env:=[],H:=st.H,aT:=st.aT} tmps w:=h.sub rfl (λl e ag=>by
  cases l with
  |slot s=>simp [aF.at,look]at ag
  |cell r i=>exact⟨e,ag,rfl,λ_ h=>h⟩) (λr cs aj=>⟨cs,aj,rfl⟩)
 have az:∀l e,({env:=[],H:=st.H,aT:=st.aT}:aF).at l=some e→bZ dI w β l=bZ tmps w β l:=by
  intro l e ag;cases l with
  |slot s=>simp [aF.at,look]at ag
  |cell r i=>rfl
 constructor
 ·intro l e ag;rw [az l e ag];exact ab.ew l e ag
 ·intro l e T ag aO;rw [az l e ag];exact ab.own l e T ag aO
 ·intro l cr e aZ T T' b ag aO cx dy hb bH;rw [az l e ag]at hb;rw [az cr aZ cx]at bH;exact ab.uniq l cr e aZ T T' b ag aO cx dy hb bH
 ·intro l e T b r cs ag aO hb aj;rw [az l e ag]at hb;exact ab.unbox l e T b r cs ag aO hb aj
 ·exact ab.box
 ·exact ab.inj
 ·exact ab.lt
 ·exact ab.mem
 ·exact ab.m0
 ·exact ab.frame
 ·exact ab.gN
 ·exact ab.hB
 ·exact ab.gn
def uG(h:e0 P K N M β g tmps w):∀{p:Path} {q:Prop},fa tmps p→under g p q→q
 |[],_,_,aP=>aP
 |(t,mp)::p,q,hp,aP=>by
  have cc:tmps.getD t undef = .bool mp:=hp (t,mp) (by simp)
  have xK:fa tmps p:=λx hx=>hp x (by simp [hx])
  simp only [under]at aP;split at aP
  ·rename_i b hb;refine uG h xK (aP ?_);unfold tT at hb;split at hb
   ·rename_i q' bF hc;cases hb;by_cases hq:fa tmps q'
    ·have:=qm ((h.cond t _ _ hc).1 hq)
     rw [cc]at this;cases this;rfl
    ·have:=(h.cond t _ _ hc).2 hq
     rw [cc]at this;cases this
   ·cases hb
   ·split at hb
    ·rename_i bF own he;cases hb;have:=qm (h.bj.ew (.slot t) _ he)
     simp only [bZ]at this;rw [cc]at this;cases this;rfl
    ·cases hb
  ·exact uG h xK aP
def Kn(h:e0 P K N M β g tmps w){opsA:Array Oper}(kT:opsA.toList=ops)(hp:mR ops g o=some p):Region.wanted o (yielded opsA tmps)=true↔fa tmps p:=by
 unfold mR at hp;split at hp
 ·rename_i hg;cases hp;simp [Region.wanted,hg,fa]
 ·rename_i j mp hg;split at hp
  case h_2=>cases hp
  rename_i t cc
  have b1:yielded opsA tmps j=some mp↔tmps.getD t undef = .bool mp:=by
   unfold yielded;have:opsA[j]? = ops[j]? := by rw [←kT];simp
   rw [this,cc];simp only [Option.bind_some,Array.getD_eq_getD_getElem?];cases bu:tmps[t]? with
   |none=>simp [undef]
   |some v=>cases v<;>simp
  have hw:Region.wanted o (yielded opsA tmps)=true↔tmps.getD t undef = .bool mp:=by
   rw [←b1];simp [Region.wanted,hg]
  split at hp
  ·rename_i q b hc;cases hp;rw [hw];constructor
   ·intro uH x hx;rcases List.mem_append.1 hx with hx|hx
    ·by_cases hq:fa tmps q
     ·exact hq x hx
     ·have:=(h.cond t _ _ hc).2 hq
      rw [uH]at this;cases this
    ·simp at hx;subst hx;exact uH
   ·intro hq;exact hq (t,mp) (by simp)
  ·cases hp
  ·split at hp
   ·cases hp;rw [hw];exact⟨λh x hx=>by simp at hx;subst hx;exact h,λh=>h (t,mp) (by simp)⟩
   ·cases hp
def BY{t:Nat}{v:Value}{q:Path}(aP:∀x,x∈q→x.1≠t):fa (tmps.setIfInBounds t v) q↔fa tmps q:=by
 unfold fa;constructor<;>intro h x hx
 ·have:=h x hx
  rwa [Array.getD_eq_getD_getElem?,Array.getElem?_setIfInBounds_ne (Ne.symm (aP x hx)),←Array.getD_eq_getD_getElem?]at this
 ·have:=h x hx
  rwa [Array.getD_eq_getD_getElem?,Array.getElem?_setIfInBounds_ne (Ne.symm (aP x hx)),←Array.getD_eq_getD_getElem?]
def Xs{t s:Nat}{v:Value}(h:s≠t):(tmps.setIfInBounds t v).getD s undef=tmps.getD s undef:=by
 rw [Array.getD_eq_getD_getElem?,Array.getElem?_setIfInBounds_ne (Ne.symm h),←Array.getD_eq_getD_getElem?]
def Xt{bN:List (Nat×Path×D)}{t:Nat}(h:r' bN t=true){s:Nat}{q:Path}{d:D}(hc:look bN s=some (q,d))(hs:s≠t):∀x,x∈q→x.1≠t:=by
 unfold r' at h;rw [List.all_eq_true]at h;have:=h _ (ox hc)
 simp only [Bool.or_eq_true,Nat.beq_eq,List.all_eq_true,Bool.not_eq_true']at this;rcases this with ab|ab
 ·exact absurd ab hs
 ·intro x hx e;have:=ab x hx
  rw [e]at this;simp at this
def BZ(h:∀t q d,look g.bN t=some (q,d)→(fa tmps q→ce M β (tmps.getD t undef) d)∧(¬ fa tmps q→tmps.getD t undef=undef)){t:Nat}{v:Value}(b2:r' g.bN t=true){M':Mem}{β':Nat→Option Nat}
 (cP:M.le M') (gb:∀r b,β r=some b→β' r=some b):
 ∀s q d,look (del g.bN t) s=some (q,d)→(fa (tmps.setIfInBounds t v) q→ce M' β' ((tmps.setIfInBounds t v).getD s undef) d)∧(¬ fa (tmps.setIfInBounds t v) q→(tmps.setIfInBounds t v).getD s undef=undef):=by
 intro s q d hc;rw [nz]at hc;by_cases hs:t=s
 ·simp [hs]at hc
 ·rw [if_neg hs]at hc;rw [BY (Xt b2 hc (Ne.symm hs)),Xs (Ne.symm hs)];exact⟨λhq=>(((h s q d hc).1 hq).mono cP).AI gb,(h s q d hc).2⟩
def sB(ds:List Deferred):Act.eval ⟨tmps,ds⟩=Act.eval ⟨tmps,[]⟩:=by
 funext x;cases x<;>rfl
def Ko{α:Type}:∀(a b:List (Nat×α)) (q:Nat),look (a++b) q=none→look a q=none∧look b q=none
 |[],b,q,h=>⟨rfl,h⟩
 |(j,x)::a,b,q,h=>by
  simp only [List.cons_append,dd]at h ⊢;by_cases hj:j=q
  ·simp [hj]at h
  ·simp only [hj,if_false]at h ⊢;exact Ko a b q h
def e0.B0(h:e0 P K N M β g tmps w){β':Nat→Option Nat}{hs:List (Nat×List aR)}(qN:∀r b,β' r=some b→β r=some b∨(look hs r).isSome=true):
 ∀s id,look g.ids s=some id→look (hs++g.H) id=none→∀b,β' id≠some b:=by
 intro s id hid ag b hb;obtain⟨ab,ah⟩:=Ko _ _ _ ag;rcases qN id b hb with ay|ay
 ·exact h.fresh s id hid ah b ay
 ·rw [ab]at ay;cases ay
def uI(h:e0 P K N M β g tmps w)(b0:eJ P tt=true){opsA:Array Oper}(kT:opsA.toList=ops)(hs:ik (gg P) tt N ops g o=some (.go eP))(cm:∀q,q∈eP.a6→q){Q:Exit→Act→World→Prop}{next:Act→World→Prop}
 (qO:∀dI w' M' β',e0 P K N M' β' eP dI w'→next ⟨dI,K.ds⟩ w'):
 if Region.wanted o (yielded opsA tmps)then o.wp P ⟨tmps,K.ds⟩ w next Q∨(o.asks P ⟨tmps,K.ds⟩ w∧LetsOut Q)else next ((⟨tmps,K.ds⟩:Act).put o.dst undef) w:=by
 unfold ik at hs;split at hs
 case h_1=>cases hs
 rename_i p hp;have hw:=Kn h kT hp;split at hs
 ·cases hs
 ·rw [Bool.cond_eq_ite]at hs;split at hs<;>cases hs
 rename_i f b2
 dsimp only at hs
 by_cases hq:fa tmps p
 ·rw [if_pos (
   hw.2 hq)]
  refine .inl ?_;have gz:=Km (g:=g) (ops:=ops) ⟨h,hq,b0⟩ b2
  -- xl follows once jM value is there
  have main:(∀q,q∈f.a6→q)∧∀v w',hh P K M β g f tmps v w'→next ((⟨tmps,K.ds⟩:Act).put o.dst v) w':=by
   split at hs
   ·rename_i qP;rw [Bool.cond_eq_ite]at hs;split at hs
    case isFalse=>cases hs
    rename_i qM;have uJ:p=[]:=by simpa using qM
    subst uJ;cases hs;refine⟨λq aP=>uG h hq (cm _ (List.mem_append_left _ (List.mem_map.2 ⟨q,aP,rfl⟩))),?_⟩
    rintro v w' ⟨M',β',cP,gb,qN,cD,_⟩
    rw [qP];exact qO tmps w' M' β' ⟨cD,h.size,h.B0 qN,λs q d hc=>⟨λhq=>(((h.cond s q d hc).1 hq).mono cP).AI gb,(h.cond s q d hc).2⟩⟩
   ·rename_i t qP;rw [Bool.cond_eq_ite]at hs;split at hs
    case isFalse=>cases hs
    rename_i hc;simp only [Bool.and_eq_true,Nat.blt_eq]at hc;have cJ:t<tmps.size:=by rw [h.size];exact hc.1
    rcases p with _|⟨x,B1⟩<;>dsimp only at hs
    ·cases hs;refine⟨λq aP=>uG h hq (cm _ (List.mem_append_left _ (List.mem_map.2 ⟨q,aP,rfl⟩))),?_⟩
     rintro v w' ⟨M',β',cP,gb,qN,cD,gz⟩
     rw [qP];refine qO _ w' M' β' ⟨?_,by simpa using h.size,h.B0 qN,BZ h.cond hc.2 cP gb⟩
     cases he:f.e with
     |none=>exact cD.drop
     |some e=>
      obtain⟨ab,ah⟩:=gz e he;exact cD.put cJ ab (λT aO=>ah T _ aO)
    ·split at hs
     ·rename_i e he qQ mh;rw [Bool.cond_eq_ite]at hs;split at hs
      case isFalse=>cases hs
      rename_i ju;simp only [Bool.and_eq_true,List.all_eq_true,Nat.beq_eq,Bool.not_eq_true']at ju;cases hs;refine⟨λq aP=>uG h hq (cm _ (List.mem_append_left _ (List.mem_map.2 ⟨q,aP,rfl⟩))),?_⟩
      rintro v w' ⟨M',β',cP,gb,qN,cD,gz⟩
      rw [qP];obtain⟨ab,_⟩:=gz e he
      have iF:∀y,y∈x::B1→y.1≠t:=λy b1 e=>by
       have:=ju.1 y b1
       rw [e]at this;simp at this
      refine qO _ w' M' β' ⟨?_,by simpa using h.size,by have:=h.B0 qN;rw [qQ]at this;exact this,λs q d dE=>?_⟩
      ·have:after g f={env:=g.env,H:=g.H,aT:=g.aT}:=by unfold after;rw [mh,qQ,ju.2];rfl
       rw [this]at cD;exact cD.drop
      ·rw [dd]at dE;by_cases jn:t=s
       ·rw [if_pos jn]at dE;cases dE;subst jn;rw [BY iF];refine⟨λ_=>?_,λhn=>absurd hq hn⟩
        have:(tmps.setIfInBounds t v).getD t undef=v:=by simp [cJ]
        rw [this];exact ab
       ·rw [if_neg jn]at dE;exact BZ h.cond hc.2 cP gb s q d dE
     ·cases hs
  obtain⟨Xu,hH⟩:=main;rcases gz Xu with⟨v,w',ec,lv⟩|⟨he,w',ec,lv⟩|⟨fn,vs,ec,qR⟩
  ·unfold Oper.wp;rw [sB,ec];exact hH v w' lv
  ·unfold Oper.wp;rw [sB,ec];exact hH undef w' lv
  ·unfold Oper.wp;rw [sB,ec];refine qR.mono ?_
   rintro e w' ⟨v,rfl,lv⟩
   exact hH v w' lv
 ·have Xv:Region.wanted o (yielded opsA tmps)=false:=by
   rw [Bool.eq_false_iff];exact λbu=>hq (hw.1 bu)
  rw [Xv];simp only [Bool.false_eq_true,if_false];split at hs
  ·rename_i qP;rw [Bool.cond_eq_ite]at hs;split at hs
   case isFalse=>cases hs
   rename_i qM;have uJ:p=[]:=by simpa using qM
   subst uJ;exact absurd (λx hx=>by cases hx) hq
  ·rename_i t qP;rw [Bool.cond_eq_ite]at hs;split at hs
   case isFalse=>cases hs
   rename_i hc;simp only [Bool.and_eq_true,Nat.blt_eq]at hc;rcases p with _|⟨x,B1⟩<;>dsimp only at hs
   ·exact absurd (λx hx=>by cases hx) hq
   ·split at hs
    ·rename_i e he qQ mh;rw [Bool.cond_eq_ite]at hs;split at hs
     case isFalse=>cases hs
     rename_i ju;simp only [Bool.and_eq_true,List.all_eq_true,Nat.beq_eq,Bool.not_eq_true']at ju;cases hs;rw [qP]
     have iF:∀y,y∈x::B1→y.1≠t:=λy b1 e=>by
      have:=ju.1 y b1
      rw [e]at this;simp at this
     refine qO _ w M β ⟨h.bj.drop,by simpa using h.size,h.fresh,λs q d dE=>?_⟩
     rw [dd]at dE;by_cases jn:t=s
     ·rw [if_pos jn]at dE;cases dE;subst jn;rw [BY iF];refine⟨λbu=>absurd bu hq,λ_=>?_⟩
      have cJ:t<tmps.size:=by rw [h.size];exact hc.1
      simp [cJ]
     ·rw [if_neg jn]at dE;exact BZ h.cond hc.2 (Mem.le_refl _) (λ_ _ h=>h) s q d dE
    ·cases hs
end
section
variable {P:Program} {K:Ctx} {N E:Nat} {M:Mem} {β:Nat→Option Nat} {st:aF} {g eP:cU} {tmps:Array Value} {w:World} {o:Oper} {f:jj} {p:Path} {tt:de} {ops:List Oper}
def Kp(h:e0 P K N M β g tmps w)(b0:eJ P tt=true){opsA:Array Oper}(kT:opsA.toList=ops){x:V}{st:aF}{a6:List Prop}(hs:ik (gg P) tt N ops g o=some (.bb x st a6))(cm:∀q,q∈a6→q){Q:Exit→Act→World→Prop}{next:Act→World→Prop}
 (qO:∀e dr w',nR P K N (.bb x) st e dr w'→Q e dr w'):
 if Region.wanted o (yielded opsA tmps)then o.wp P ⟨tmps,K.ds⟩ w next Q∨(o.asks P ⟨tmps,K.ds⟩ w∧LetsOut Q)else next ((⟨tmps,K.ds⟩:Act).put o.dst undef) w:=by
 unfold ik at hs;split at hs
 case h_1=>cases hs
 rename_i p hp;have hw:=Kn h kT hp;split at hs
 ·cases hs
 ·rename_i y fw pu ev;rw [Bool.cond_eq_ite]at hs;split at hs
  case isFalse=>cases hs
  rename_i qM;have uJ:p=[]:=by simpa using qM
  subst uJ;cases hs;have hq:fa tmps []:=λx hx=>by cases hx
  rw [if_pos (hw.2 hq)];refine .inl ?_;have gz:=Km (g:=g) (ops:=ops) ⟨h,hq,b0⟩ ev;rcases gz (λq aP=>cm q (List.mem_append_left _ aP)) with⟨v,ec,aj,rfl⟩|⟨fn,vs,ec,qR⟩
  ·unfold Oper.wp;rw [sB,ec];exact qO _ _ _ ⟨v,rfl,rfl,M,β,aj,h.bj.mQ λs e he=>⟨e,he,rfl⟩⟩
  ·unfold Oper.wp;rw [sB,ec];refine qR.mono ?_
   rintro e w' ⟨v,M',rfl,aj,cD⟩
   exact qO _ _ _ ⟨v,rfl,rfl,M',β,aj,cD⟩
 ·dsimp only at hs
  repeat' (first|(split at hs)|(rw [Bool.cond_eq_ite]at hs)|(cases hs;done))
def Xw{b5:fI}(hs:ik b5 tt N ops g o=some (.go eP)):∀q,q∈g.a6→q∈eP.a6:=by
 intro q aP;unfold ik at hs;split at hs
 case h_1=>cases hs
 split at hs
 ·cases hs
 ·rw [Bool.cond_eq_ite]at hs;split at hs<;>cases hs
 ·dsimp only at hs
  repeat' (first|(split at hs)|(rw [Bool.cond_eq_ite]at hs)|(cases hs;exact List.mem_append_right _ aP)|(cases hs;done))
def Xx{b5:fI}{x:V}{st:aF}{a6:List Prop}(hs:ik b5 tt N ops g o=some (.bb x st a6)):∀q,q∈g.a6→q∈a6:=by
 intro q aP;unfold ik at hs;split at hs
 case h_1=>cases hs
 split at hs
 ·cases hs
 ·rw [Bool.cond_eq_ite]at hs;split at hs<;>cases hs;exact List.mem_append_right _ aP
 ·dsimp only at hs
  repeat' (first|(split at hs)|(rw [Bool.cond_eq_ite]at hs)|(cases hs;done))
def Kq:pc→List Prop
 |.go g=>g.a6
 |.bb _ _ a6=>a6
def Kr{b5:fI}:∀{l:List Oper} {g:cU} {fin:pc},pd b5 tt N ops l g=some fin→∀q,q∈g.a6→q∈Kq fin
 |[],g,fin,h,q,aP=>by simp [pd]at h;subst h;exact aP
 |o::l,g,fin,h,q,aP=>by
  simp only [pd]at h;split at h
  ·rename_i eP hs;exact Kr h q (Xw hs q aP)
  ·cases fin with
   |go eP=>exact absurd h (by intro bu;rename_i dF;exact dF _ bu)
   |bb x st a6=>exact Xx h q aP
def B2(b0:eJ P tt=true){opsA:Array Oper}(kT:opsA.toList=ops){Q:Exit→Act→World→Prop}{fin:pc}(i':∀q,q∈Kq fin→q)
 (dG:match fin with
  |.go eP=>∀dI w' M' β',e0 P K N M' β' eP dI w'→Q .normal ⟨dI,K.ds⟩ w'
  |.bb x st _=>∀e dr w',nR P K N (.bb x) st e dr w'→Q e dr w'):
 ∀(l:List Oper) (k:Nat) (g:cU) (tmps:Array Value) (w:World) (M:Mem) (β:Nat→Option Nat),(∀j,l[j]? = ops[k+j]?)→e0 P K N M β g tmps w→pd (gg P) tt N ops l g=some fin→
  wpOps P opsA Q (List.range' k l.length) ⟨tmps,K.ds⟩ w
 |[],k,g,tmps,w,M,β,_,h,aj=>by
  simp [pd]at aj;subst aj;exact dG tmps w M β h
 |o::l,k,g,tmps,w,M,β,ag,h,aj=>by
  have hk:opsA[k]? = some o:=by
   have:=ag 0
   simp at this
   rw [←Array.getElem?_toList,kT];exact this.symm
  simp only [List.length_cons,List.range'_succ,wpOps,hk];simp only [pd]at aj;split at aj
  ·rename_i eP hs;refine uI h b0 kT hs (λq aP=>i' q (Kr aj q aP)) (λdI w' M' β' c8=>?_)
   exact B2 b0 kT i' dG l (k+1) eP dI w' M' β' (λj=>by have:=ag (j+1);simpa [Nat.add_assoc,Nat.add_comm 1 j]using this) c8 aj
  ·cases fin with
   |go eP=>exact absurd aj (by intro bu;rename_i dF;exact dF _ bu)
   |bb x st a6=>exact Kp h b0 kT aj i' (λe dr w' ch=>dG e dr w' ch)
def a7(P:Program)(N E:Nat)(c:Code)(Q:b8→aF→Prop)(st:aF):Prop:=
 ∀(K:Ctx),(∀r b,K.h5 r=some b→r<E)→∀(a:Act) (w:World),nR P K N .normal st .normal a w→c.wp P (λe dr w'=>∃eB bG,nR P K N eB bG e dr w'∧Q eB bG) a w
def a7.mono{c:Code}{Q Ks:b8→aF→Prop}(h:a7 P N E c Q st)(aP:∀eB bG,Q eB bG→Ks eB bG):a7 P N E c Ks st:=
 λK dJ a w hs=>wp_mono (h K dJ a w hs) λ_ _ _ ⟨eB,bG,ab,ah⟩=>⟨eB,bG,ab,aP _ _ ah⟩
@[reducible] def b8.then (next : aF → Prop) (Q : b8 → aF → Prop) : b8 → aF → Prop
 |.normal,st=>next st
 |e,st=>Q e st
@[reducible] def b8.inBlock (id : Nat) (Q : b8 → aF → Prop) : b8 → aF → Prop
 |.exit i,st=>if i=id then Q .normal st else Q (.exit i) st
 |e,st=>Q e st
def a7.seq{x y:Code}{Q:b8→aF→Prop}(h:a7 P N E x (b8.then (a7 P N E y Q) Q) st):a7 P N E (.seq x y) Q st:=by
 intro K dJ a w hs;refine wp_seq (wp_mono (h K dJ a w hs) ?_)
 rintro e dr w' ⟨eB,bG,ab,ah⟩
 cases eB with
 |normal=>
  obtain⟨rfl,ay⟩:=ab;exact ah K dJ dr w' ⟨rfl,ay⟩
 |exit i=>obtain⟨rfl,ay⟩:=ab;exact⟨.exit i,bG,⟨rfl,ay⟩,ah⟩
 |ret=>obtain⟨rfl,ay⟩:=ab;exact⟨.ret,bG,⟨rfl,ay⟩,ah⟩
 |bb x=>obtain⟨v,rfl,ay⟩:=ab;exact⟨.bb x,bG,⟨v,rfl,ay⟩,ah⟩
def a7.skip{Q:b8→aF→Prop}(h:Q .normal st):a7 P N E .skip Q st:=λ_ _ _ _ hs=>wp_skip ⟨.normal,st,hs,h⟩
def a7.label{l:Nat}{Q:b8→aF→Prop}(h:Q .normal st):a7 P N E (.label l) Q st:=λ_ _ _ _ hs=>wp_label ⟨.normal,st,hs,h⟩
def a7.exit{id:Nat}{Q:b8→aF→Prop}(h:Q (.exit id) st):a7 P N E (.exit id) Q st:=λ_ _ _ _ hs=>wp_exit ⟨.exit id,st,⟨rfl,hs.2⟩,h⟩
def a7.ret{Q:b8→aF→Prop}(h:Q .ret st):a7 P N E .ret Q st:=λ_ _ _ _ hs=>wp_ret ⟨.ret,st,⟨rfl,hs.2⟩,h⟩
def a7.block{id:Nat}{c:Code}{Q:b8→aF→Prop}(h:a7 P N E c (b8.inBlock id Q) st):a7 P N E (.block id c) Q st:=by
 intro K dJ a w hs;refine wp_block (wp_mono (h K dJ a w hs) ?_)
 rintro e dr w' ⟨eB,bG,ab,ah⟩
 cases eB with
 |normal=>obtain⟨rfl,ay⟩:=ab;exact⟨.normal,bG,⟨rfl,ay⟩,ah⟩
 |exit i=>
  obtain⟨rfl,ay⟩:=ab;by_cases hi:i=id
  ·simp only [b8.inBlock,hi,if_true]at ah;simp only [Exit.inBlock,hi,if_true];exact⟨.normal,bG,⟨rfl,ay⟩,ah⟩
  ·simp only [b8.inBlock,hi,if_false]at ah;simp only [Exit.inBlock,hi,if_false];exact⟨.exit i,bG,⟨rfl,ay⟩,ah⟩
 |ret=>obtain⟨rfl,ay⟩:=ab;exact⟨.ret,bG,⟨rfl,ay⟩,ah⟩
 |bb x=>obtain⟨v,rfl,ay⟩:=ab;exact⟨.bb x,bG,⟨v,rfl,ay⟩,ah⟩
def a7.cond{c:Nat}{x y:Code}{Q:b8→aF→Prop}(b:Bool)(own:Option TypeId)(hc:look st.env c=some ⟨.v (.bool b),own⟩)(cc:b=true→a7 P N E x Q st)(b2:b=false→a7 P N E y Q st):a7 P N E (.cond (.tmp c) x y) Q st:=by
 intro K dJ a w hs;obtain⟨_,_,_,M,β,cD⟩:=id hs;have az:a.eval (.tmp c) = .bool b:=qm (cD.ew (.slot c) _ hc);exact wp_cond_split az (λhb=>cc hb K dJ a w hs) (λhb=>b2 hb K dJ a w hs)
def a7.loop{c:Code}{Q:b8→aF→Prop}{σ:Type}(I:Nat→σ→aF→Prop)(Kt:∀n s st,I n s st→∃m,n=m+1∧a7 P N E c (b8.then (λbG=>∃ow,I m ow bG) Q) st)
 {n:Nat} {s:σ} {st:aF} (h0:I n s st):a7 P N E (.loop c) Q st:=by
 intro K dJ a w hs b k cs
 have key:∀n s st a w,I n s st→nR P K N .normal st .normal a w→
  ∃e dr w',(∃eB bG,nR P K N eB bG e dr w'∧Q eB bG)∧Arrives P (lone (b.at a (.code c :: .inLoop c::k)) cs w) b k cs e dr w':=by
  intro n;induction n with
  |zero=>
   intro s st a w B3 _;obtain⟨m,hm,_⟩:=Kt 0 s st B3;omega
  |succ n bD=>
   intro s st a w B3 hs;obtain⟨m,hm,BS⟩:=Kt (n+1) s st B3;have:m=n:=by omega
   subst this;obtain⟨e,xL,xM,⟨eB,bG,ab,ah⟩,sC⟩:=BS K dJ a w hs b (.inLoop c::k) cs;cases eB with
   |normal=>
    obtain⟨rfl,ay⟩:=ab;obtain⟨ow,Xy⟩:=ah;obtain⟨Xz,XA,XB,XC,XD⟩:=bD ow bG xL xM Xy ⟨rfl,ay⟩;exact⟨Xz,XA,XB,XC,.of_steps (Steps.trans sC (.one step_inLoop)) XD⟩
   |exit i=>obtain⟨rfl,ay⟩:=ab;exact⟨_,xL,xM,⟨.exit i,bG,⟨rfl,ay⟩,ah⟩,.pass (x:=.inLoop c) rfl (λ_ _=>.inl (by simp)) sC⟩
   |ret=>obtain⟨rfl,ay⟩:=ab;exact⟨_,xL,xM,⟨.ret,bG,⟨rfl,ay⟩,ah⟩,.pass (x:=.inLoop c) rfl (λ_ _=>.inl (by simp)) sC⟩
   |bb x=>obtain⟨v,rfl,ay⟩:=ab;exact⟨_,xL,xM,⟨.bb x,bG,⟨v,rfl,ay⟩,ah⟩,.pass (x:=.inLoop c) rfl (λ_ _=>.inl (by simp)) sC⟩
 obtain⟨e,dr,w',aP,sC⟩:=key n s st a w h0 hs;exact⟨e,dr,w',aP,.of_steps (.one step_loop) sC⟩
end
def sD(tt:de)(st:aF):ResultVar→Option D
 |.tmp t=>(look st.env t).map (·.d)
 |.cell a t=>match look st.env a,look tt t with
  |some ⟨.ptr r off,_⟩,some aE=>match look st.H r with
   |some cs=>bif aE.k.isAgg then(bif Nat.ble (off+aE.size) cs.length then some (ko (((cs.drop off).take aE.size).map (·.d)))else none) else(cs[off]?).map (·.d)
   |none=>none
  |_,_=>none
def Ku(tt:de)(st:aF):List ResultVar→Option (D×Option TypeId)
 |[.tmp t]=>(look st.env t).map λe=>(e.d,e.own)
 |[x]=>(sD tt st x).map (·,none)
 |xs=>(mapM' (sD tt st) xs).map λds=>(.b_ ds,none)
def leave(tt:de)(E:Nat)(rs:List ResultVar)(st:aF):Option (Out×List (List aR)):=
 match Ku tt st rs,boxes st.H (List.range E) with
 |some (d,own),some H'=>bif below E d&&H'.all (oq E)then some (.ret d own,H')else none
 |_,_=>none
def xN(E:Nat)(H:List (Nat×List aR)):Option (List (List aR)):=
 match boxes H (List.range E) with
 |some H'=>bif H'.all (oq E)then some H' else none
 |none=>none
def oG(tt:de)(E c:Nat):List ResultVar→aF→Option (Out×List (List aR))
 |[.cell a t],st=>match look st.env a,look tt t with
  |some ⟨.ptr r off,_⟩,some aE=>match look st.H r,boxes st.H (List.range E) with
   |some cs,some H'=>
    bif (((((aE.k.isAgg&&Nat.ble (off+aE.size) cs.length)&&o_ (marks c) (marksOf 0 ((cs.drop off).take aE.size)))&&Nat.ble E r)&&below E (ko (((cs.drop off).take aE.size).map (·.d))))&&H'.all (oq E)) then
     some (.ret (ko (((cs.drop off).take aE.size).map (·.d))) (some c),H')else none
   |_,_=>none
  |_,_=>none
 |_,_=>none
def lw(H:List (List aR)):List (List aR):=H.map λb=>b.map λe=>{d:=e.d}
def oH(tt:de)(E:Nat)(rs:List ResultVar)(R:Out→List (List aR)→Prop):b8→aF→Prop
 |.normal,st=>∃o H',(leave tt E rs st=some (o,H')∨∃c,oG tt E c rs st=some (o,H'))∧R o H'
 |.ret,st=>∃o H',(leave tt E rs st=some (o,H')∨∃c,oG tt E c rs st=some (o,H'))∧R o H'
 |.bb x,st=>∃H',xN E st.H=some H'∧R (.bb x) (lw H')
 |.exit _,_=>False
section
variable {P:Program} {K:Ctx} {N E:Nat} {M:Mem} {β:Nat→Option Nat} {st:aF} {tmps:Array Value} {w:World} {tt:de}
def sE(tmps:Array Value):ResultVar→Sem Value
 |.tmp t=>pure (tmps.getD t undef)
 |.cell a t=>do loadVar t (←asAddr (tmps.getD a undef))
def Kv(h:bB P K M β st tmps w)(b0:eJ P tt=true){x:ResultVar}{d:D}(hx:sD tt st x=some d):
 ∃v,(sE tmps x).run P w = .ok v w∧ce M β v d:=by
 cases x with
 |tmp t=>
  simp only [sD,Option.map_eq_some_iff]at hx;obtain⟨e,he,rfl⟩:=hx;exact⟨_,rfl,h.ew (.slot t) e he⟩
 |cell a t=>
  simp only [sD]at hx;split at hx
  case h_2=>cases hx
  rename_i r off own aE ha ag;obtain⟨row⟩:=dR b0 ag;split at hx
  case h_2=>cases hx
  rename_i cs aj;obtain⟨b,hb,az⟩:=mf (h.ew (.slot a) _ ha);simp only [bZ]at az;obtain⟨bF,vs,T,bH,bu,hlen,_,_,fL,iX⟩:=h.box r cs aj;rw [hb]at bH;cases bH
  have Kw:∀{u:Value},(Instr.loadAt t (.pointer (some ⟨b,off,none⟩))).run P w = .ok u w→(do loadVar t (←asAddr (tmps.getD a undef)):Sem Value).run P w = .ok u w:=by
   intro u hu;rw [az];simpa [Instr.loadAt,Instr.sureAddr,asAddr]using hu
  rw [Bool.cond_eq_ite]at hx;split at hx
  ·rename_i gq;rw [Bool.cond_eq_ite]at hx;split at hx
   case isFalse=>cases hx
   rename_i hle;simp only [Nat.ble_eq]at hle;cases hx;refine⟨_,Kw (xe (P:=P) row (off:=off) bu (by omega) gq),?_⟩
   refine si (by simp;omega) (λv az=>fL v (List.mem_of_mem_drop (List.mem_of_mem_take az))) (λi v c az hc=>?_)
   rw [List.getElem?_map,Option.map_eq_some_iff]at hc;obtain⟨e,he,rfl⟩:=hc;rw [List.getElem?_take]at az he;split at az
   ·rename_i hi;rw [if_pos hi,List.getElem?_drop]at he;rw [List.getElem?_drop]at az;have:=h.ew (.cell r (off+i)) e (by simp [aF.at,aj,he])
    simpa [bZ,hb,cell_of_heap bu,az]using this
   ·cases az
  ·rename_i gq;simp only [Option.map_eq_some_iff]at hx;obtain⟨e,he,rfl⟩:=hx;obtain⟨mn,JC,mT,v,fj,JD,d9,bY⟩:=AN h aj he;rw [hb]at fj;cases fj;refine⟨v,Kw (AX (P:=P) row (by rw [cell_of_heap JD,d9]) (by simpa using gq)),?_⟩
   have:=h.ew (.cell r off) e (by simp [aF.at,aj,he])
   rwa [bY]at this
def Kx(h:bB P K M β st tmps w)(b0:eJ P tt=true):∀{xs:List ResultVar} {ds:List D},mapM' (sD tt st) xs=some ds→
 ∃vs:List Value,(xs.mapM (sE tmps)).run P w = .ok vs w∧vs.length=ds.length∧
  ∀(i:Nat) v d,vs[i]? = some v→ds[i]? = some d→ce M β v d
 |[],ds,hx=>by simp [mapM']at hx;subst hx;exact⟨[],rfl,rfl,by simp⟩
 |x::xs,ds,hx=>by
  simp only [mapM']at hx;split at hx
  case h_2=>cases hx
  rename_i d Xg hd gy;cases hx;obtain⟨v,az,fi⟩:=Kv h b0 hd;obtain⟨vs,kP,ag,aj⟩:=Kx h b0 gy;refine⟨v::vs,?_,by simp [ag],λi u c hu hc=>?_⟩
  ·simp only [List.mapM_cons,Sem.run_bind,az,Result.andThen_ok,kP,Sem.run_pure]
  ·cases i with
   |zero=>simp at hu hc;subst hu;subst hc;exact fi
   |succ i=>simp at hu hc;exact aj i u c hu hc
def XE{H:List (Nat×List aR)}{E:Nat}{H':List (List aR)}(h:boxes H (List.range E)=some H'):H'.length=E∧∀r,r<E→look H r=H'[r]? ∧ (H'[r]?).isSome=true:=by
 obtain⟨ab,ah⟩:=qB h;exact⟨by simpa using ab,λr aj=>ah r r (by simp [aj])⟩
def bB.leave(h:bB P K M β st tmps w){H':List (List aR)}(qS:boxes st.H (List.range E)=some H')(Ky:H'.all (oq E)=true)(dJ:∀r b,K.h5 r=some b→r<E){v:Value}{d:D}{own:Option TypeId}
 (az:ce M β v d) (hd:below E d=true) (fh:∀T,own=some T→∃l,kq P K M β {env:=fT l st.env,H:=st.H,aT:=st.aT} tmps w (.slot 0) v T∧True):
 ∃ β',bB P K M β' {env:=[(0,{d,own})],H:=cH 0 H',aT:=E} #[v] w:=by
 obtain⟨ag,jP⟩:=XE qS;have ab:=h.uF #[undef]
 have iH:∀r cs,look (cH 0 H') r=some cs→r<E∧look st.H r=some cs:=by
  intro r cs aj;rw [kR]at aj;have cJ:r<E:=by have:=(List.getElem?_eq_some_iff.1 aj).1;omega
  exact⟨cJ,by rw [(jP r cJ).1];exact aj⟩
 have hle:E≤st.aT∨E=0:=by
  by_cases h0:E=0
  ·exact .inr h0
  ·obtain⟨ah,ay⟩:=jP (E-1) (by omega)
   obtain⟨cs,dE⟩:=Option.isSome_iff_exists.1 ay;rw [dE]at ah;obtain⟨b,_,_,hb,_⟩:=h.box _ cs ah;have:=h.lt _ b hb
   exact .inl (by omega)
 have ah:bB P K M β {env:=[],H:=cH 0 H',aT:=st.aT} #[undef] w:=by
  refine ab.sub rfl (λl e ag=>?_) (λr cs aj=>⟨cs,(iH r cs aj).2,rfl⟩)
  cases l with
  |slot s=>simp [aF.at,look]at ag
  |cell r i=>
   simp only [aF.at]at ag ⊢;cases aj:look (cH 0 H') r with
   |none=>simp [aj]at ag
   |some cs=>simp [aj]at ag;exact⟨e,by simp [(iH r cs aj).2,ag],rfl,λ_ h=>h⟩
 -- jM slot
 have ay:bB P K M β {env:=[(0,{d,own})],H:=cH 0 H',aT:=st.aT} #[v] w:=by
  have XF:=ah.put (t:=0) (v:=v) (e:={d,own}) (by simp) az (λT aO=>?_)
  ·simpa using XF
  ·obtain⟨l,hn,_⟩:=fh T aO;refine⟨hn.own,λg_ e T' b fb dy _ hb bH=>?_,λb r cs hb aj=>hn.unbox b r cs hb (iH r cs aj).2⟩
   cases g_ with
   |slot s=>simp [aF.at,look]at fb
   |cell r i=>
    simp only [aF.at]at fb;cases aj:look (cH 0 H') r with
    |none=>simp [aj]at fb
    |some cs=>
     simp [aj]at fb;exact hn.apart (.cell r i) e T' b (by simp [aF.at,(iH r cs aj).2,fb]) dy (by simp) hb bH
 refine⟨λr=>if r<E then β r else none,?_⟩
 have bY:∀l e,({env:=[(0,{d,own})],H:=cH 0 H',aT:=st.aT}:aF).at l=some e→bZ #[v] w (λr=>if r<E then β r else none) l=bZ #[v] w β l:=by
  intro l e ag;cases l with
  |slot s=>rfl
  |cell r i=>
   simp only [aF.at]at ag;cases aj:look (cH 0 H') r with
   |none=>simp [aj]at ag
   |some cs=>simp [bZ,(iH r cs aj).1]
 have me:∀l e,({env:=[(0,{d,own})],H:=cH 0 H',aT:=st.aT}:aF).at l=some e→below E e.d=true:=by
  intro l e ag;cases l with
  |slot s=>
   simp only [aF.at,dd]at ag;split at ag
   ·cases ag;exact hd
   ·simp [look]at ag
  |cell r i=>
   simp only [aF.at]at ag;cases aj:look (cH 0 H') r with
   |none=>simp [aj]at ag
   |some cs=>
    simp [aj]at ag;rw [kR]at aj;rw [List.all_eq_true]at Ky;exact AS (Ky cs (List.mem_of_getElem? aj)) ag
 constructor
 ·intro l e ag;rw [bY l e ag];exact(ay.ew l e ag).IV (λr aj=>by simp [aj]) (me l e ag)
 ·intro l e T ag aO;rw [bY l e ag];exact ay.own l e T ag aO
 ·intro l cr e aZ T T' b ag aO cx dy hb bH;rw [bY l e ag]at hb;rw [bY cr aZ cx]at bH;exact ay.uniq l cr e aZ T T' b ag aO cx dy hb bH
 ·intro l e T b r cs ag aO hb aj;rw [bY l e ag]at hb;have:=ay.unbox l e T b r cs ag aO hb aj
  simpa [(iH r cs aj).1]using this
 ·intro r cs aj;obtain⟨b,vs,T,bl,bQ⟩:=ay.box r cs aj;exact⟨b,vs,T,by simpa [(iH r cs aj).1]using bl,bQ⟩
 ·intro r ct b cs cs' aj eH hb bH;exact ay.inj r ct b cs cs' aj eH (by simpa [(iH r cs aj).1]using hb) (by simpa [(iH ct cs' eH).1]using bH)
 ·intro r b hb;by_cases cJ:r<E
  ·exact cJ
  ·simp [cJ]at hb
 ·exact ay.mem
 ·exact ay.m0
 ·exact ay.frame
 ·intro r b hb;simp [dJ r b hb,ay.gN r b hb]
 ·exact ay.hB
 ·exact ay.gn
def bB.era{env:List (Nat×aR)}{H:List (List aR)}{n:Nat}(h:bB P K M β {env:=env,H:=cH 0 H,aT:=n} tmps w):bB P K M β {env:=env,H:=cH 0 (lw H),aT:=n} tmps w:=by
 refine h.sub rfl (λl e ag=>?_) (λr cs aj=>?_)
 ·cases l with
  |slot s=>exact⟨e,ag,rfl,λ_ h=>h⟩
  |cell r i=>
   simp only [aF.at,kR,lw,List.getElem?_map]at ag ⊢;cases hb:H[r]? with
   |none=>simp [hb]at ag
   |some b=>
    simp only [hb,Option.map_some,Option.bind_some,List.getElem?_map,Option.map_eq_some_iff]at ag;obtain⟨bI,h0,rfl⟩:=ag;exact⟨bI,by simpa using h0,rfl,λT aO=>by cases aO⟩
 ·simp only [kR,lw,List.getElem?_map,Option.map_eq_some_iff]at aj ⊢;obtain⟨b,hb,rfl⟩:=aj;exact⟨b,hb,by simp⟩
def xO{fn:Func}{E:Nat}{dI:Array Value}{w':World}{bG:aF}{M':Mem}{β':Nat→Option Nat}{o:Out}{H':List (List aR)}(b0:eJ P tt=true)(dJ:∀r b,K.h5 r=some b→r<E)(hs:bB P K M' β' bG dI w')
 (ag:Ab.leave tt E fn.results.toList bG=some (o,H')):
 ∃v,(results fn dI).run P w' = .ok v w'∧∃h8 M' β',Ending.returned v=nH o h8∧bB P K M' β' {env:=gx o,H:=cH 0 H',aT:=E} #[h8] w':=by
 unfold Ab.leave at ag;split at ag
 case h_2=>cases ag
 rename_i d own H1 gz qS;rw [Bool.cond_eq_ite]at ag;split at ag
 case isFalse=>cases ag
 rename_i hc;simp only [Bool.and_eq_true]at hc;cases ag
 -- jM value of jM results
 have bY:∃v,(results fn dI).run P w' = .ok v w'∧ce M' β' v d∧∀T,own=some T→∃l,kq P K M' β' {env:=fT l bG.env,H:=bG.H,aT:=bG.aT} dI w' (.slot 0) v T∧True:=by
  have hm:∀{vs:List Value},(fn.results.toList.mapM (sE dI)).run P w' = .ok vs w'→
   (results fn dI).run P w' = .ok (if h:vs.length=1 then vs[0]else .tuple ⟨vs⟩) w':=by
   intro vs kP
   have gz:results fn dI=(do let vs ←fn.results.mapM (sE dI);pure (if h:vs.size=1 then vs[0]else .tuple vs)):=by
    unfold results
    congr 2
   rw [gz,show fn.results=⟨fn.results.toList⟩from rfl,List.mapM_toArray]
   simp only [Sem.run_bind,Sem.run_map,kP,Result.andThen_ok,Sem.run_pure];simp
  unfold Ku at gz;split at gz
  ·rename_i t cc;simp only [Option.map_eq_some_iff,Prod.mk.injEq]at gz;obtain⟨e,he,rfl,rfl⟩:=gz;have hC:=hs.ew (.slot t) e he;refine⟨dI.getD t undef,?_,hC,λT aO=>⟨[t],hs.hand he aO (.slot 0),trivial⟩⟩
   have:=hm (vs:=[dI.getD t undef]) (by rw [cc];rfl)
   simpa using this
  ·rename_i x dF hx;simp only [Option.map_eq_some_iff,Prod.mk.injEq]at gz;obtain⟨dH,iC,rfl,rfl⟩:=gz;obtain⟨v,az,fi⟩:=Kv hs b0 iC;refine⟨v,?_,fi,by simp⟩
   have:=hm (vs:=[v]) (by rw [hx];simp only [List.mapM_cons,List.mapM_nil,Sem.run_bind,az,Result.andThen_ok,Sem.run_pure])
   simpa using this
  ·simp only [Option.map_eq_some_iff,Prod.mk.injEq]at gz;obtain⟨ds,gy,rfl,rfl⟩:=gz;obtain⟨vs',kP,ag,fi⟩:=Kx hs b0 gy;refine⟨.tuple ⟨vs'⟩,?_,.b_ vs' ds ag fi,by simp⟩
   have dF:vs'.length≠1:=by
    rename_i ab ah;rw [ag,(pi gy).1];intro bu;obtain⟨x,hx⟩:=List.length_eq_one_iff.1 bu;exact ah x hx
   have:=hm kP
   simpa [dF]using this
 obtain⟨v,ec,fi,fh⟩:=bY;obtain⟨uK,i'⟩:=hs.leave qS hc.2 dJ fi hc.1 fh;exact⟨v,ec,v,M',uK,rfl,i'⟩
def Kz{H:List (Nat×List aR)}{r:Nat}{cs:List aR}:∀{l:List Nat},(∀x,x∈l→x≠r)→boxes ((r,cs)::H) l=boxes H l
 |[],_=>rfl
 |x::l,h=>by
  have bD:=Kz (H:=H) (cs:=cs) (l:=l) λy b1=>h y (by simp [b1])
  have hx:=h x (by simp)
  simp only [boxes,bD,dd,if_neg (Ne.symm hx)]
def KA{fn:Func}{E:Nat}{dI:Array Value}{w':World}{bG:aF}{M':Mem}{β':Nat→Option Nat}{o:Out}{H':List (List aR)}(b0:eJ P tt=true)(dJ:∀r b,K.h5 r=some b→r<E)(hs:bB P K M' β' bG dI w')
 {c:Nat} (ag:Ab.oG tt E c fn.results.toList bG=some (o,H')):
 ∃v,(results fn dI).run P w' = .ok v w'∧∃h8 M' β',Ending.returned v=nH o h8∧bB P K M' β' {env:=gx o,H:=cH 0 H',aT:=E} #[h8] w':=by
 unfold Ab.oG at ag;split at ag
 case h_2=>cases ag
 rename_i a t cc;split at ag
 case h_2=>cases ag
 rename_i r off dM aE ha XG;split at ag
 case h_2=>cases ag
 rename_i cs H1 aj qS;rw [Bool.cond_eq_ite]at ag;split at ag
 case isFalse=>cases ag
 rename_i hc;simp only [Bool.and_eq_true,Nat.ble_eq]at hc;obtain⟨⟨⟨⟨⟨gq,hle⟩,hm⟩,afW⟩,XH⟩,mi⟩:=hc;cases ag;obtain⟨row⟩:=dR b0 XG;obtain⟨b,hb,az⟩:=mf (hs.ew (.slot a) _ ha);simp only [bZ]at az;obtain⟨bF,vs,T,bH,bu,hlen,_,_,fL,iX⟩:=hs.box r cs aj;rw [hb]at bH;cases bH;have nF:=Bi hm;have i7:((cs.drop off).take aE.size).length=aE.size:=by simp;omega
 have jp:=lq cs off (((cs.drop off).take aE.size).map λe=>({d:=e.d}:aR)) (by rw [List.length_map,i7];exact hle)
 have nG:∀j,j<aE.size→((cs.drop off).take aE.size)[j]? = cs[off+j]? := λj hj=>by rw [List.getElem?_take,if_pos hj,List.getElem?_drop]
 obtain⟨hD,XI⟩:=hs.Jq (T:=c) (size:=aE.size) (off:=off) aj hb bu fL hlen (cs':=setAt cs off (((cs.drop off).take aE.size).map λe=>{d:=e.d})) (λx hx=>by
  rw [nF]at hx;obtain⟨_,e,ah,ay⟩:=ue _ 0 x hx;rw [Nat.sub_zero]at ah;have cJ:x.1<aE.size:=by rw [←i7];exact(List.getElem?_eq_some_iff.1 ah).1
  exact⟨cJ,e,by rw [←nG x.1 cJ];exact ah,ay⟩) jp.1 (λj aZ hj=>by
  rw [jp.2]at hj;rw [List.length_map,i7]at hj;by_cases hi:off≤j∧j<off+aE.size
  ·rw [if_pos hi,List.getElem?_map,Option.map_eq_some_iff]at hj;obtain⟨bI,ab,rfl⟩:=hj;rw [nG _ (by omega),show off+(j-off)=j by omega]at ab
   exact⟨bI,ab,rfl,λU gt=>by cases gt⟩
  ·rw [if_neg hi]at hj;refine⟨aZ,hj,rfl,λU gt=>⟨gt,λx hx V9=>?_⟩⟩
   rw [nF]at hx;obtain⟨_,e,ah,_⟩:=ue _ 0 x hx;rw [Nat.sub_zero]at ah;have cJ:x.1<aE.size:=by rw [←i7];exact(List.getElem?_eq_some_iff.1 ah).1
   omega) (.slot 0)
 have ec:(sE dI (.cell a t)).run P w' = .ok (.agg ⟨(vs.drop off).take aE.size⟩) w':=by
  have hu:=xe (P:=P) (w:=w') row (off:=off) bu (by omega) gq
  show(do loadVar t (←asAddr (dI.getD a undef)):Sem Value).run P w'=_
  rw [az];simpa [Instr.loadAt,Instr.sureAddr,asAddr]using hu
 have fi:ce M' β' (.agg ⟨(vs.drop off).take aE.size⟩) (ko (((cs.drop off).take aE.size).map (·.d))):=by
  refine si (by simp;omega) (λv az=>fL v (List.mem_of_mem_drop (List.mem_of_mem_take az))) (λi v c az hc=>?_)
  rw [List.getElem?_map,Option.map_eq_some_iff]at hc;obtain⟨e,he,rfl⟩:=hc;rw [List.getElem?_take]at az he;split at az
  ·rename_i hi;rw [if_pos hi,List.getElem?_drop]at he;rw [List.getElem?_drop]at az;have:=hs.ew (.cell r (off+i)) e (by simp [aF.at,aj,he])
   simpa [bZ,hb,cell_of_heap bu,az]using this
  ·cases az
 have gz:(results fn dI).run P w' = .ok (.agg ⟨(vs.drop off).take aE.size⟩) w':=by
  have gz:results fn dI=(do let vs ←fn.results.mapM (sE dI);pure (if h:vs.size=1 then vs[0]else .tuple vs)):=by
   unfold results
   congr 2
  rw [gz,show fn.results=⟨fn.results.toList⟩from rfl,List.mapM_toArray,cc]
  simp only [List.mapM_cons,List.mapM_nil,Sem.run_bind,Sem.run_map,ec,Result.andThen_ok,Sem.run_pure];simp
 obtain⟨oz,i'⟩:=hD.leave (H':=H') (own:=some c) (by
  rw [Kz (λx hx=>by have:=List.mem_range.1 hx;omega)];exact qS) mi dJ fi XH (λT aO=>by cases aO;exact⟨[],XI,trivial⟩)
 exact⟨_,gz,_,M',oz,rfl,i'⟩
def KB{fn:Func}{E:Nat}{dI:Array Value}{w':World}{bG:aF}{M':Mem}{β':Nat→Option Nat}{o:Out}{H':List (List aR)}(b0:eJ P tt=true)(dJ:∀r b,K.h5 r=some b→r<E)(hs:bB P K M' β' bG dI w')
 (ag:Ab.leave tt E fn.results.toList bG=some (o,H')∨∃c,Ab.oG tt E c fn.results.toList bG=some (o,H')):
 ∃v,(results fn dI).run P w' = .ok v w'∧∃h8 M' β',Ending.returned v=nH o h8∧bB P K M' β' {env:=gx o,H:=cH 0 H',aT:=E} #[h8] w':=
 ag.elim (xO b0 dJ hs) fun⟨_,h⟩=>KA b0 dJ hs h
def bB.qT{P:Program}{K:Ctx}{M:Mem}{β:Nat→Option Nat}{st:aF}{tmps:Array Value}{w:World}(h:bB P K M β st tmps w)(ds:List Deferred):bB P {K with ds:=ds} M β st tmps w:=
 ⟨h.ew,h.own,h.uniq,h.unbox,h.box,h.inj,h.lt,h.mem,h.m0,h.frame,h.gN,h.hB,h.gn⟩
def B4{args:List D}{dM:List (Nat×TypeId)}{H:List (List aR)}{vs:List Value}{n:Nat}(hlen:vs.length=args.length)(cD:bB P K M β {env:=gu args dM,H:=cH 0 H,aT:=H.length} ⟨vs⟩ w):
 bB P K M β {env:=gu args dM,H:=cH 0 H,aT:=H.length} ((⟨vs⟩:Array Value)++Array.replicate n undef) w:=by
 have az:∀l e,({env:=gu args dM,H:=cH 0 H,aT:=H.length}:aF).at l=some e→bZ ((⟨vs⟩:Array Value)++Array.replicate (n) undef) w β l=bZ ⟨vs⟩ w β l:=by
  intro l e ag;cases l with
  |slot s=>
   simp only [aF.at,gu,kR,uk,Option.map_eq_some_iff]at ag;obtain⟨d,hd,_⟩:=ag;have hs:s<vs.length:=by have:=(List.getElem?_eq_some_iff.1 hd).1;omega
   simp only [bZ,Array.getD_eq_getD_getElem?];rw [Array.getElem?_append_left (by simpa using hs)]
  |cell r i=>rfl
 constructor
 ·intro l e ag;rw [az l e ag];exact cD.ew l e ag
 ·intro l e T ag aO;rw [az l e ag];exact cD.own l e T ag aO
 ·intro l cr e aZ T T' b ag aO cx dy hb bH;rw [az l e ag]at hb;rw [az cr aZ cx]at bH;exact cD.uniq l cr e aZ T T' b ag aO cx dy hb bH
 ·intro l e T b r cs ag aO hb aj;rw [az l e ag]at hb;exact cD.unbox l e T b r cs ag aO hb aj
 ·exact cD.box
 ·exact cD.inj
 ·exact cD.lt
 ·exact cD.mem
 ·exact cD.m0
 ·exact cD.frame
 ·exact cD.gN
 ·exact cD.hB
 ·exact cD.gn
def nI.of_wp {f : FuncId} {fn : Func} {c : Code} {args : List D} {dM : List (Nat × TypeId)} {H : List (List aR)} {R : Out → List (List aR) → Prop} (b0 : eJ P tt = true) (b2 : P.funcs[f]? = some fn) (hb : fn.body = some c) (h9 : decide (fn.name = "runtime.NumGoroutine") = false)
 (fA:Nat.ble args.length fn.ntmps=true) (h:a7 P fn.ntmps H.length c (oH tt H.length fn.results.toList R) {env:=gu args dM,H:=cH 0 H,aT:=H.length}):nI P f args dM H R:=by
 refine⟨⟨fn,b2,by rw [hb];rfl,by simpa using h9⟩,?_⟩
 intro cz w vs M β hlen B5 B6
 suffices key:∀K:Ctx,K.ds=[]→bB P K M β {env:=gu args dM,H:=cH 0 H,aT:=H.length} ⟨vs⟩ w→(∀r b,β r=some b→K.h5 r=some b)→
  Calls P f ⟨vs⟩ w λe w'=>∃o H' v M' β',R o H'∧e=nH o v∧bB P K M' β' {env:=gx o,H:=cH 0 H',aT:=H.length} #[v] w' from
  (key {cz with ds:=[]} rfl (B5.qT []) B6).mono λe w' ⟨o,H',v,M',β',ab,ah,ay⟩=>⟨o,H',v,M',β',ab,ah,ay.qT cz.ds⟩
 intro K gy cD gb;have dJ:∀r b,K.h5 r=some b→r<H.length:=λr b hb=>cD.lt r b (cD.gN r b hb)
 simp only [Nat.ble_eq]at fA;have XJ:=B4 (n:=fn.ntmps-(⟨vs⟩:Array Value).size) hlen cD;have XK:=h K dJ {tmps:=(⟨vs⟩:Array Value)++Array.replicate (fn.ntmps-(⟨vs⟩:Array Value).size) undef,defers:=[]} w ⟨rfl,gy.symm,by simp;omega,M,β,XJ⟩
 refine calls_of_wp b2 hb (wp_mono XK ?_)
 have fin:∀(dr:Act) (w':World) (bG:aF) M' β',bB P K M' β' bG dr.tmps w'→(∃o H',(Ab.leave tt H.length fn.results.toList bG=some (o,H')∨∃c,Ab.oG tt H.length c fn.results.toList bG=some (o,H'))∧R o H')→
  ∃v,(results fn dr.tmps).run P w' = .ok v w'∧∃o H' h8 M' β',R o H'∧Ending.returned v=nH o h8∧bB P K M' β' {env:=gx o,H:=cH 0 H',aT:=H.length} #[h8] w':=by
  intro dr w' bG M' β' hs ⟨o,H',ag,sF⟩;rcases ag with ag|⟨_,ag⟩
  ·obtain⟨v,ab,h8,qt,oz,ah,ay⟩:=xO b0 dJ hs ag;exact⟨v,ab,o,H',h8,qt,oz,sF,ah,ay⟩
  ·obtain⟨v,ab,h8,qt,oz,ah,ay⟩:=KA b0 dJ hs ag;exact⟨v,ab,o,H',h8,qt,oz,sF,ah,ay⟩
 rintro e dr w' ⟨eB,bG,ab,ah⟩
 cases eB with
 |normal=>
  obtain⟨rfl,hd,_,M',β',hs⟩:=ab;exact⟨hd.trans gy,fin dr w' bG M' β' hs ah⟩
 |ret=>
  obtain⟨rfl,hd,_,M',β',hs⟩:=ab;exact⟨hd.trans gy,fin dr w' bG M' β' hs ah⟩
 |exit i=>exact ah.elim
 |bb x=>
  obtain⟨v,rfl,hd,M',β',fi,hs⟩:=ab;obtain⟨H1,ag,sF⟩:=ah;unfold xN at ag;split at ag
  case h_2=>cases ag
  rename_i cn qS;rw [Bool.cond_eq_ite]at ag;split at ag
  case isFalse=>cases ag
  rename_i hc;cases ag;obtain⟨uK,i'⟩:=hs.leave (own:=none) qS hc dJ (.v v x fi) rfl (by simp)
  exact⟨hd.trans gy,.bb x,lw H1,v,M',uK,sF,rfl,i'.era⟩
end
end Go.Ab

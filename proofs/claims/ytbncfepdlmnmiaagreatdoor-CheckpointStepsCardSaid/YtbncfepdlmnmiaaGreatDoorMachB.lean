/- The abstract machine: a step of code over plain data, proved against the model. -/
import Derived.Laws.Build
import Derived.Laws.IdiomStrings
import Derived.Test.YtbncfepdlmnmiaaGreatDoorMachA
set_option linter.all false
namespace Go.Ab
section
variable {P:Program} {K:Ctx} {N:Nat} {M:Mem} {β:Nat→Option Nat} {g:db} {tmps:Array Value} {w:World} {o:Oper} {f:jl} {p:Path} {tt:dr} {cd:fN} {ops:List Oper}
structure jt(M:Mem)(k m:Nat)(get:Nat→V)(news:List Value):Prop where
 len:news.length=m*k
 hk:∀i,i<m→(get i).cells.length=k
 one:∀u,u∈news→u.oneCell'=true
 rep:∀(i j:Nat) c u,i<m→(get i).cells[j]? = some c→news[i*k+j]? = some u→dc M u c
def flat(k m:Nat)(val:Nat→Nat→Value):List Value:=(List.range (m*k)).map λq=>val (q / k) (q % k)
def Cr(k m:Nat)(val:Nat→Nat→Value):(flat k m val).length=m*k:=by simp [flat]
def Xx{k m:Nat}{val:Nat→Nat→Value}{i j:Nat}(hi:i<m)(hj:j<k):(flat k m val)[i*k+j]? = some (val i j):=by
 have cV:i*k+j<m*k:=by
  have ab:(i+1)*k≤m*k:=Nat.mul_le_mul_right k hi;rw [Nat.add_mul]at ab;omega
 have ab:(i*k+j) / k=i:=by rw [Nat.mul_comm,Nat.mul_add_div (by omega),Nat.div_eq_of_lt hj];omega
 have ai:(i*k+j) % k=j:=by rw [Nat.mul_comm,Nat.mul_add_mod,Nat.mod_eq_of_lt hj]
 simp [flat,cV,ab,ai]
def K0{k m:Nat}{val:Nat→Nat→Value}{q:Nat}{u:Value}(h:(flat k m val)[q]? = some u):q / k<m∧q % k<k∧q=q / k*k+q % k∧u=val (q / k) (q % k):=by
 have aR:q<m*k:=by have:=(List.getElem?_eq_some_iff.1 h).1;rwa [Cr]at this
 have hk:0<k:=by
  rcases Nat.eq_zero_or_pos k with rfl|h;· simp at aR
  ·exact h
 refine⟨(Nat.div_lt_iff_lt_mul hk).2 aR,Nat.mod_lt _ hk,(Nat.div_add_mod' q k).symm,?_⟩
 simp [flat,aR]at h;exact h.symm
def Cs{v:Value}{k n:Nat}{get:Nat→V}(h:co M β v (.v (.bC k n get))):((v = .slice none 0 0∨∃a,v = .slice (some a) 0 0)∧n=0)∨
 ∃(b off cap:Nat) (en:List Value),v = .slice (some ⟨b,off,none⟩) n cap∧n≤cap∧jt M k n get en∧∀(q:Nat) u,en[q]? = some u→M b (off+q)=some u:=by
 rcases o7 h with h|⟨b,off,cap,val,rfl,hc,hk,cX,ab,ak⟩
 ·exact .inl h
 ·refine .inr ⟨b,off,cap,flat k n val,rfl,hc,⟨Cr k n val,hk,?_,?_⟩,?_⟩
  ·refine KH λq u hu=>?_
   obtain⟨ai,ay,_,rfl⟩:=K0 hu;exact ab _ _ ai ay
  ·intro i j c u hi hc hu;have hj:j<k:=by rw [←hk i hi];exact(List.getElem?_eq_some_iff.1 hc).1
   rw [Xx hi hj]at hu;cases hu;exact ak i j c hi hc
  ·intro q u hu;obtain⟨ai,ay,bg,rfl⟩:=K0 hu;have:=cX _ _ ai ay
   rwa [Nat.add_assoc,←bg]at this
def sn(k:Nat)(get:Nat→V):jt M k 0 get []:=⟨by simp,by simp,by simp,by simp⟩
def jt.app{k n m:Nat}{get jX:Nat→V}{en news:List Value}(h:jt M k n get en)(ai:jt M k m jX news):jt M k (n+m) (λi=>bif Nat.blt i n then get i else jX (i-n)) (en++news):=by
 have hb:∀i,(bif Nat.blt i n then get i else jX (i-n))=if i<n then get i else jX (i-n):=by
  intro i;by_cases hi:i<n
  ·have:Nat.blt i n=true:=by simpa using hi
   simp [this,hi]
  ·have:Nat.blt i n=false:=by rw [Bool.eq_false_iff];simpa using hi
   simp [this,hi]
 refine⟨by simp [h.len,ai.len,Nat.add_mul],λi hi=>?_,λu hu=>?_,λi j c u hi hc hu=>?_⟩
 ·rw [hb];split
  ·exact h.hk i (by assumption)
  ·exact ai.hk _ (by omega)
 ·rcases List.mem_append.1 hu with hu|hu
  ·exact h.one u hu
  ·exact ai.one u hu
 ·rw [hb]at hc;by_cases hin:i<n
  ·rw [if_pos hin]at hc;have hj:j<k:=by rw [←h.hk i hin];exact(List.getElem?_eq_some_iff.1 hc).1
   have cV:i*k+j<en.length:=by
    rw [h.len];have ab:(i+1)*k≤n*k:=Nat.mul_le_mul_right k hin;rw [Nat.add_mul]at ab;omega
   rw [List.getElem?_append_left cV]at hu;exact h.rep i j c u hin hc hu
  ·rw [if_neg hin]at hc;have ah3:n*k≤i*k:=Nat.mul_le_mul_right k (by omega)
   rw [List.getElem?_append_right (by rw [h.len];omega),h.len]at hu
   have:i*k+j-n*k=(i-n)*k+j:=by rw [Nat.sub_mul];omega
   rw [this]at hu;exact ai.rep (i-n) j c u (by omega) hc hu
def jt.mono{M':Mem}(cX:M.le M'){k n:Nat}{get:Nat→V}{en:List Value}(h:jt M k n get en):jt M' k n get en:=
 ⟨h.len,h.hk,h.one,λi j c u hi hc hu=>(h.rep i j c u hi hc hu).mono cX⟩
def jt.bC{k n cap b off:Nat}{get:Nat→V}{en:List Value}(h:jt M k n get en)(hc:n≤cap)(cX:∀(q:Nat) u,en[q]? = some u→M b (off+q)=some u):
 dc M (.slice (some ⟨b,off,none⟩) n cap) (.bC k n get):=by
 have hin:∀i j,i<n→j<k→en[i*k+j]? = some (en.getD (i*k+j) undef):=λi j hi hj=>Xg h.len hi hj
 refine .bC b off k n cap get (λi j=>en.getD (i*k+j) undef) hc h.hk (λi j hi hj=>?_) (λi j hi hj=>xO h.one (hin i j hi hj)) (λi j c hi j_=>?_)
 ·rw [Nat.add_assoc];exact cX _ _ (hin i j hi hj)
 ·have hj:j<k:=by rw [←h.hk i hi];exact(List.getElem?_eq_some_iff.1 j_).1
  exact h.rep i j c _ hi j_ (hin i j hi hj)
def Xy(t gc ty e:TypeId)(i:TypeInfo)(ce:P.underlying t=some (.slice e))(hi:P.info? e=some i)(b qn jO:Nat)(x:Value)(n:Nat)(news:List Value)(hs:Src P i.size gc x n news w)
 (qo:qn+n≤jO) {vs:List Value} {T:TypeId} (bz:w.heap[b]? = some (.cells ⟨vs⟩ T (0,0))) (hle:qn*i.size+news.length≤vs.length):
 (Builtin.append_ #[t,gc] ty #[.slice (some ⟨b,0,none⟩) qn jO,x]).run P w = .ok (.slice (some ⟨b,0,none⟩) (qn+n) jO) (w.setRow b (vs.take (qn*i.size)++news++vs.drop (qn*i.size+news.length)).toArray):=by
 have eA:=run_storeCells_at P b (qn*i.size) T news 0 ⟨vs⟩ w bz (by simpa using hle) hs.one
 simp only [Nat.add_zero]at eA;rcases hs.kind with⟨aZ,hk⟩|hk<;>simp [Builtin.append_,run_underlying ce,run_underlying hk,sizeOf,typeInfo,hi,hs.len,qo,hs.cells,addr_add,eA]
def Xz(t gc ty e:TypeId)(i:TypeInfo)(ce:P.underlying t=some (.slice e))(hi:P.info? e=some i)(x:Value)(news:List Value)(hs:Src P i.size gc x 0 news w):
 (Builtin.append_ #[t,gc] ty #[.slice none 0 0,x]).run P w = .ok (.slice none 0 0) w:=by
 rcases hs.kind with⟨aZ,hk⟩|hk<;>simp [Builtin.append_,run_underlying ce,run_underlying hk,sizeOf,typeInfo,hi,hs.len,hs.cells]
def xV{t gc:TypeId}{a x:Operand}{c:Call}(ax:o.op = .call c)(hc:c.callee = .builtin .append)(fz:c.args.toList=[a,x])(fY:c.argTypes.toList[0]? = some t)(l5:c.argTypes.toList[1]? = some gc)
 {gm Ct:Value} (ha:(⟨tmps,[]⟩:Act).eval a=gm) (hx:(⟨tmps,[]⟩:Act).eval x=Ct) {v:Value} {w':World}
 (h:∀ty,(Builtin.append_ #[t,gc] ty #[gm,Ct]).run P w = .ok v w'):
 (execOp (Act.eval ⟨tmps,[]⟩) o).run P w = .ok (.value v) w':=by
 have qp:c.args = #[a,x]:=by apply Array.ext';simpa using fz
 have Cu:∀ty,(Builtin.append_ c.argTypes ty #[gm,Ct]).run P w = .ok v w':=by
  intro ty;have h0:c.argTypes[0]? = some t:=by simpa using fY
  have ab:c.argTypes[1]? = some gc:=by simpa using l5
  have:=h ty
  simp only [Builtin.append_,h0,ab]at this ⊢;exact this
 simp only [execOp,ax,resolve,hc,qp,Sem.run_bind,Sem.run_pure,Result.andThen_ok,invoke,builtin,List.map_toArray,List.map_cons,List.map_nil,ha,hx];simp [Cu]
def XA(h:eZ P K N M β g tmps w)(hp:fe tmps p)(b':eF P tt=true){t gc e:TypeId}{aD cg:ef}(ah:look tt t=some aD)(hk:aD.k = .bC e)(eE:look tt e=some cg){s:Nat}{x:Operand}{c:Call}
 (ax:o.op = .call c) (hc:c.callee = .builtin .append) (fz:c.args.toList=[.tmp s,x]) (fY:c.argTypes.toList[0]? = some t) (l5:c.argTypes.toList[1]? = some gc)
 {n m:Nat} {get jX:Nat→V} (hs:rd g.env g.bV p tt o.type (.tmp s)=some (.full cg.size n get)) (uw:1≤cg.bytes) (hm:1≤m)
 {news:List Value} (l6:Src P cg.size gc ((⟨tmps,[]⟩:Act).eval x) m news w) (ju:jt M cg.size m jX news) (qo:(n+m)*cg.bytes≤140737488355328)
 {y:V} (b_:f0 (.bC cg.size (n+m) λi=>bif Nat.blt i n then get i else jX (i-n)) y) {rs:List eR} {a6:List Prop}:
 Yields P K M β g {e:=some {d:=.v y,own:=some e},f5:=[s],rs,a6} o tmps w:=by
 obtain⟨r⟩:=d_ b' ah;obtain⟨dE⟩:=d_ b' eE;have l3:=h.bn.f5 [s];have eh:=dL (ds:=[]) h hp hs;have ux:P.underlying t=some (.slice e):=by rw [r.hd,mD r hk]
 have qq:(⟨tmps,[]⟩:Act).eval (.tmp s)=tmps.getD s undef:=rfl;rw [qq]at eh
 have og:∃base,tmps.getD s undef = .slice base n n∧dc M (.slice base n n) (.bC cg.size n get):=by
  generalize tmps.getD s undef=gm at eh
  cases eh with
  |full base k n get h=>exact⟨base,rfl,h⟩
 obtain⟨base,aA,fl⟩:=og;have cV:n<n+m:=by omega
 have qr:∃en:List Value,jt M cg.size n get en∧∀w':World,w'.heap=w.heap→(Builtin.firstCells cg.size n (.slice base n n)).run P w' = .ok en.toArray w':=by
  rcases Cs (co.v _ _ fl:co M β _ _) with⟨nA|⟨a,nA⟩,so⟩|⟨b,off,cap,en,nA,hcap,holds,hold⟩
  ·simp only [Value.slice.injEq]at nA;obtain⟨rfl,rfl,_⟩:=nA;exact⟨[],sn _ _,λw' _=>run_firstCells_none w' cg.size 0 0 0⟩
  ·simp only [Value.slice.injEq]at nA;obtain⟨rfl,rfl,_⟩:=nA;refine⟨[],sn _ _,λw' ln=>?_⟩
   exact run_firstCells_some (P:=P) w' cg.size 0 a 0 0 [] (by simp) (λj u hj=>by simp at hj)
  ·simp only [Value.slice.injEq]at nA;obtain⟨rfl,_,rfl⟩:=nA;refine⟨en,holds,λw' ln=>?_⟩
   refine run_firstCells_some (P:=P) w' cg.size n ⟨b,off,none⟩ n n en (by rw [holds.len]) (λj u hj=>?_)
   rw [addr_add,oa (w:=w) (by rw [ln])]
   exact h.bn.mem _ _ _ (hold j u hj)
 obtain⟨en,holds,qr⟩:=qr
 have Cv:((n+m:Nat):Int)≤9223372036854775807:=by
  have:n+m≤(n+m)*cg.bytes:=Nat.le_mul_of_pos_right _ uw
  omega
 have Cw:=growslice_fits (need:=n+m) (old:=n) (bytes:=cg.bytes) cV qo;have hcap:=grownCap_ge w (n+m) n e;have oh:=holds.app ju
 have qs:dE.z.cells.size=cg.size:=by
  obtain⟨kK,_⟩:=sf (M:=M) dE.un;have:=dE.B0
  simp at kK;omega
 generalize qi:(Builtin.zeroCells dE.z.cells (grownCap w (n+m) n e-(n+m))).toList=zs
 have Cx:Builtin.zeroCells dE.z.cells (grownCap w (n+m) n e-(n+m))=zs.toArray:=by rw [←qi]
 have Cy:zs.length=(grownCap w (n+m) n e-(n+m))*cg.size:=by
  rw [←qi];simp [Builtin.zeroCells,qs]
 have el:∀ty,(Builtin.append_ #[t,gc] ty #[tmps.getD s undef,(⟨tmps,[]⟩:Act).eval x]).run P w =
  .ok (.slice (some ⟨w.heap.size,0,none⟩) (n+m) (grownCap w (n+m) n e)) (w.drew.alloc (.cells ⟨en++news++zs⟩ e (0,0))):=by
  intro ty;have:=run_append_grow_src (P:=P) w t gc ty e dE.info dE.z ux dE.hi dE.ek base n n en (by rw [dE.size];exact qr w.drew rfl) _ m news (by rw [dE.size];exact l6) cV Cv (by rw [dE.bytes];exact Cw)
  rw [aA,this,Cx];simp
 have ln:(w.drew.alloc (.cells ⟨en++news++zs⟩ e (0,0))).heap=w.heap.push (.cells ⟨en++news++zs⟩ e (0,0)):=rfl
 have Cz:(en++news++zs).length=grownCap w (n+m) n e*cg.size:=by
  rw [List.length_append,oh.len,Cy,←Nat.add_mul];congr 1;omega
 obtain⟨cK,hle⟩:=l3.newRow (vs:=en++news++zs) (T:=e) (n:=(n+m)*cg.size) ln
 have ur:(en++news++zs).take ((n+m)*cg.size)=en++news:=by
  rw [List.take_append_of_le_length (by rw [oh.len];exact Nat.le_refl _),List.take_of_length_le (by rw [oh.len];exact Nat.le_refl _)]
 refine .inl ⟨_,_,xV ax hc fz fY l5 qq rfl el,_,β,hle,λ_ _ h=>h,λ_ _ h=>.inl h,cK,λe1 he=>?_⟩
 cases he;refine⟨.v _ _ (b_ _ _ ((oh.mono hle).bC hcap λq u hu=>?_)),λT l0 aN=>?_⟩
 ·rw [ur];exact xQ hu
 ·cases aN;have:=Cd (l0:=l0) (T:=e) l3 (vs:=en++news++zs) (T':=e) (n:=n+m) (cap:=grownCap w (n+m) n e) rfl ln hcap (by rw [dE.cellsOf,Cz];exact Nat.le_refl _)
  rw [dE.cellsOf]at this;exact this
def K1(h:eZ P K N M β g tmps w)(hp:fe tmps p)(b':eF P tt=true){t gc e:TypeId}{aD cg:ef}(ah:look tt t=some aD)(hk:aD.k = .bC e)(eE:look tt e=some cg){s:Nat}{x:Operand}{c:Call}
 (ax:o.op = .call c) (hc:c.callee = .builtin .append) (fz:c.args.toList=[.tmp s,x]) (fY:c.argTypes.toList[0]? = some t) (l5:c.argTypes.toList[1]? = some gc)
 {n m:Nat} {get jX:Nat→V} (hs:rd g.env g.bV p tt o.type (.tmp s)=some (.v (.bC cg.size n get))) {sm:aS} (qm:look g.env s=some sm) (fk:sm.own=some e) (uw:1≤cg.bytes)
 {news:List Value} (l6:Src P cg.size gc ((⟨tmps,[]⟩:Act).eval x) m news w) (ju:jt M cg.size m jX news) (qo:(n+m)*cg.bytes≤140737488355328)
 {y:V} (b_:f0 (.bC cg.size (n+m) λi=>bif Nat.blt i n then get i else jX (i-n)) y) {rs:List eR} {a6:List Prop}:
 Yields P K M β g {e:=some {d:=.v y,own:=some e},f5:=[s],rs,a6} o tmps w:=by
 obtain⟨r⟩:=d_ b' ah;obtain⟨dE⟩:=d_ b' eE;have l3:=h.bn.f5 [s];have eh:=dL (ds:=[]) h hp hs;have ux:P.underlying t=some (.slice e):=by rw [r.hd,mD r hk]
 have qq:(⟨tmps,[]⟩:Act).eval (.tmp s)=tmps.getD s undef:=rfl;rw [qq]at eh;have uy:=h.bn.own (.slot s) sm e qm fk;simp only [b9]at uy;have uz:=h.bn.hand qm fk
 -- jN row XB is grown
 have K2:∀(base:Option Addr) (jO:Nat) (en:List Value),tmps.getD s undef = .slice base n jO→jt M cg.size n get en→
  (∀w':World,w'.heap=w.heap→(Builtin.firstCells cg.size n (.slice base n jO)).run P w' = .ok en.toArray w')→jO<n+m→
  Yields P K M β g {e:=some {d:=.v y,own:=some e},f5:=[s],rs,a6} o tmps w:=by
  intro base jO en aA holds qr cV
  have Cv:((n+m:Nat):Int)≤9223372036854775807:=by
   have:n+m≤(n+m)*cg.bytes:=Nat.le_mul_of_pos_right _ uw
   omega
  have Cw:=growslice_fits (need:=n+m) (old:=jO) (bytes:=cg.bytes) cV qo;have hcap:=grownCap_ge w (n+m) jO e;have oh:=holds.app ju
  have qs:dE.z.cells.size=cg.size:=by
   obtain⟨kK,_⟩:=sf (M:=M) dE.un;have:=dE.B0
   simp at kK;omega
  generalize qi:(Builtin.zeroCells dE.z.cells (grownCap w (n+m) jO e-(n+m))).toList=zs
  have Cx:Builtin.zeroCells dE.z.cells (grownCap w (n+m) jO e-(n+m))=zs.toArray:=by rw [←qi]
  have Cy:zs.length=(grownCap w (n+m) jO e-(n+m))*cg.size:=by
   rw [←qi];simp [Builtin.zeroCells,qs]
  have el:∀ty,(Builtin.append_ #[t,gc] ty #[tmps.getD s undef,(⟨tmps,[]⟩:Act).eval x]).run P w =
   .ok (.slice (some ⟨w.heap.size,0,none⟩) (n+m) (grownCap w (n+m) jO e)) (w.drew.alloc (.cells ⟨en++news++zs⟩ e (0,0))):=by
   intro ty;have:=run_append_grow_src (P:=P) w t gc ty e dE.info dE.z ux dE.hi dE.ek base n jO en (by rw [dE.size];exact qr w.drew rfl) _ m news (by rw [dE.size];exact l6) cV Cv (by rw [dE.bytes];exact Cw)
   rw [aA,this,Cx];simp
  have ln:(w.drew.alloc (.cells ⟨en++news++zs⟩ e (0,0))).heap=w.heap.push (.cells ⟨en++news++zs⟩ e (0,0)):=rfl
  have Cz:(en++news++zs).length=grownCap w (n+m) jO e*cg.size:=by
   rw [List.length_append,oh.len,Cy,←Nat.add_mul];congr 1;omega
  obtain⟨cK,hle⟩:=l3.newRow (vs:=en++news++zs) (T:=e) (n:=(n+m)*cg.size) ln
  have ur:(en++news++zs).take ((n+m)*cg.size)=en++news:=by
   rw [List.take_append_of_le_length (by rw [oh.len];exact Nat.le_refl _),List.take_of_length_le (by rw [oh.len];exact Nat.le_refl _)]
  refine .inl ⟨_,_,xV ax hc fz fY l5 qq rfl el,_,β,hle,λ_ _ h=>h,λ_ _ h=>.inl h,cK,λe1 he=>?_⟩
  cases he;refine⟨.v _ _ (b_ _ _ ((oh.mono hle).bC hcap λq u hu=>?_)),λT l0 aN=>?_⟩
  ·rw [ur];exact xQ hu
  ·cases aN;have:=Cd (l0:=l0) (T:=e) l3 (vs:=en++news++zs) (T':=e) (n:=n+m) (cap:=grownCap w (n+m) jO e) rfl ln hcap (by rw [dE.cellsOf,Cz];exact Nat.le_refl _)
   rw [dE.cellsOf]at this;exact this
 replace uy:=ik.bC uy eh
 have cB:(tmps.getD s undef = .slice none 0 0∧n=0)∨∃(b off cap:Nat) (en:List Value),tmps.getD s undef = .slice (some ⟨b,off,none⟩) n cap∧n≤cap∧jt M cg.size n get en∧∀(q:Nat) u,en[q]? = some u→M b (off+q)=some u:=by
  rcases Cs eh with⟨aA|⟨a,aA⟩,so⟩|hx
  ·exact .inl ⟨aA,so⟩
  ·subst so;rcases uy with h0|⟨bM,n',K3,vs,T',ab,_⟩
   ·exact .inl ⟨h0,rfl⟩
   ·rw [aA]at ab;simp only [Value.slice.injEq,Option.some.injEq]at ab;obtain⟨rfl,rfl,rfl⟩:=ab;exact .inr ⟨bM,0,0,[],aA,Nat.le_refl _,sn _ _,λq u hu=>by simp at hu⟩
  ·exact .inr hx
 rcases cB with⟨aA,so⟩|⟨b,off,cap,en,aA,hcap,holds,hold⟩
 ·subst so;by_cases hm:m=0
  ·subst hm;refine .inl ⟨_,_,xV ax hc fz fY l5 (qq.trans aA) rfl (λty=>Xz (w:=w) t gc ty e dE.info ux dE.hi _ news (by rw [dE.size];exact l6)),M,β,Mem.le_refl _,λ_ _ h=>h,λ_ _ h=>.inl h,l3,λe1 he=>?_⟩
   cases he;exact⟨.v _ _ (b_ _ _ (.jK _ _)),λT l0 _=>BV l0 T⟩
  ·refine K2 none 0 [] aA (sn _ _) (λw' _=>run_firstCells_none w' cg.size 0 0 0) (by omega)
 ·by_cases cV:cap<n+m
  ·refine K2 (some ⟨b,off,none⟩) cap en aA holds (λw' ln=>?_) cV
   refine run_firstCells_some (P:=P) w' cg.size n ⟨b,off,none⟩ n cap en (by rw [holds.len]) (λj u hj=>?_)
   rw [addr_add,oa (w:=w) (by rw [ln])]
   exact h.bn.mem _ _ _ (hold j u hj)
  · -- there is room
   rcases uy with h0|⟨bM,n',K3,vs,T',ab,ah4,bz,kN,iF,du,Ce⟩
   ·rw [aA]at h0;simp at h0
   ·rw [aA]at ab;simp only [Value.slice.injEq,Option.some.injEq,Addr.mk.injEq,and_true]at ab;obtain⟨⟨rfl,rfl⟩,rfl,rfl⟩:=ab;rw [dE.cellsOf]at kN iF
    have hlen:n*cg.size+news.length≤vs.length:=by
     rw [ju.len,←Nat.add_mul];exact Nat.le_trans (Nat.mul_le_mul_right _ (by omega)) kN
    have el:∀ty,(Builtin.append_ #[t,gc] ty #[tmps.getD s undef,(⟨tmps,[]⟩:Act).eval x]).run P w =
     .ok (.slice (some ⟨b,0,none⟩) (n+m) cap) (w.setRow b (vs.take (n*cg.size)++news++vs.drop (n*cg.size+news.length)).toArray):=by
     intro ty;have:=Xy (P:=P) (w:=w) t gc ty e dE.info ux dE.hi b n cap _ m news (by rw [dE.size];exact l6) (by omega) bz (by rw [dE.size];exact hlen)
     rw [dE.size]at this;rw [aA,this]
    generalize K4:vs.take (n*cg.size)++news++vs.drop (n*cg.size+news.length)=vs' at el
    have XC:vs'.length=vs.length:=by rw [←K4,qk hlen]
    have nw:(w.setRow b vs'.toArray).heap[b]? = some (.cells ⟨vs'⟩ T' (0,0)):=setRow_heap w b _ _ T' (0,0) bz;have hle:M.le (hG M b (n*cg.size) news):=Cc iF;have iC:∀T,hC T (tmps.getD s undef) b:=λT=>by rw [aA];rfl
    have cK:bE P K (hG M b (n*cg.size) news) β {env:=fV [s] g.env,H:=g.H,aU:=g.aU} tmps (w.setRow b vs'.toArray):=by
     refine l3.free b du (λr cs ak hb=>(uz (.slot s)).unbox b r cs (iC _) ak hb) (λl e1 fX fg pb=>?_) (λbM dQ _=>setRow_other w b bM _ dQ) hle (λbM o' dQ=>?_) (λo' h8 l7=>?_)
     ·by_cases xW:l = .slot s
      ·subst xW;simp only [aF.at,kM,List.mem_singleton,if_true,Option.map_eq_some_iff]at fg;obtain⟨_,_,rfl⟩:=fg;simp at pb
      ·exact(uz (.slot s)).apart l e1 fX b fg pb xW (iC _)
     ·simp [hG,dQ]
     ·rw [cell_of_heap nw,←K4,ut hlen];unfold hG at l7;split at l7
      ·rename_i il;rw [if_pos ⟨il.2.1,il.2.2⟩];exact l7
      ·rename_i il;rw [if_neg (λuA=>il ⟨rfl,uA.1,uA.2⟩)]
       have:=h.bn.mem _ _ _ l7
       rwa [cell_of_heap bz]at this
    refine .inl ⟨_,_,xV ax hc fz fY l5 qq rfl el,_,β,hle,λ_ _ h=>h,λ_ _ h=>.inl h,cK,λe1 he=>?_⟩
    cases he;refine⟨.v _ _ (b_ _ _ (((holds.app ju).mono hle).bC (by omega) λq u hu=>?_)),λT l0 aN=>?_⟩
    ·by_cases aR:q<en.length
     ·rw [List.getElem?_append_left aR]at hu;exact hle _ _ _ (hold q u hu)
     ·rw [List.getElem?_append_right (by omega)]at hu
      have:=xQ (M:=M) (b:=b) (lo:=n*cg.size) hu
      rw [holds.len]at this;rw [Nat.zero_add];have mG:n*cg.size+(q-n*cg.size)=q:=by rw [holds.len]at aR;omega
      rwa [mG]at this
    ·cases aN;refine⟨.inr ⟨b,n+m,cap,vs',T',rfl,by omega,nw,by rw [dE.cellsOf,XC];exact kN,λo' iY=>?_,du,Ce⟩,λl e1 fX cj fg pb _ cS=>?_,λcj r cs cS ak=>?_⟩
     ·rw [dE.cellsOf,Nat.add_mul]at iY;unfold hG;rw [if_neg (λuA=>by rw [ju.len]at uA;omega)]
      exact iF o' (by omega)
     ·simp [hC,ij]at cS;subst cS
      have xW:l ≠ .slot s:=by
       rintro rfl
       simp only [after,aF.at,kM,List.mem_singleton,if_true,Option.map_eq_some_iff]at fg;obtain⟨_,_,rfl⟩:=fg;simp at pb
      have XD:b9 tmps (w.setRow b vs'.toArray) β l=b9 tmps w β l:=by
       cases l with
       |slot ob=>rfl
       |cell r i=>
        have eE:=fg;simp only [after,aF.at]at eE;cases ak:look g.H r with
        |none=>simp [ak]at eE
        |some cs=>
         obtain⟨ls,K5,mC,e6,K6,_⟩:=h.bn.box r cs ak;have dQ:ls≠b:=by rintro rfl;exact(uz (.slot s)).unbox ls r cs (iC _) ak e6
         simp only [b9,e6];rw [oa (w:=w) (setRow_other w b ls _ dQ)]
      rw [XD];exact(uz (.slot s)).apart l e1 fX b fg pb xW (iC _)
     ·simp [hC,ij]at cS;subst cS;exact(uz (.slot s)).unbox b r cs (iC _) ak
def K7(h:bE P K M β {env:=g.env,H:=g.H,aU:=g.aU} tmps w)(b':eF P tt=true){gc e2:TypeId}{aD:ef}(ah:look tt gc=some aD)(hk:aD.k = .bC e2){v:Value}{k m:Nat}{get:Nat→V}
 (aA:co M β v (.v (.bC k m get))):∃news,Src P k gc v m news w∧jt M k m get news:=by
 obtain⟨r⟩:=d_ b' ah;have hu:P.underlying gc=some (.slice e2):=by rw [r.hd,mD r hk]
 rcases Cs aA with⟨rfl|⟨a,rfl⟩,rfl⟩|⟨b,off,cap,en,rfl,_,ju,hold⟩
 ·exact⟨[],Src.ofNil w hu 0,sn _ _⟩
 ·exact⟨[],Src.ofSlice w hu a 0 0 [] (by simp) (λj u hj=>by simp at hj) (by simp),sn _ _⟩
 ·have hc:∀(j:Nat) u,en[j]? = some u→w.cell? ((⟨b,off,none⟩:Addr).add j)=some u:=λj u hj=>by rw [addr_add];exact h.mem _ _ _ (hold j u hj)
  exact⟨en,Src.ofSlice w hu _ m cap en ju.len hc ju.one,ju⟩
def XE(b':eF P tt=true){gc:TypeId}{aD:ef}(ah:look tt gc=some aD)(hk:aD.k = .str)(l:ajK)(M:Mem):
 ∃news,Src P 1 gc (.string ⟨⟨l⟩⟩) l.length news w∧jt M 1 l.length (λi=>.int .u8 (l.getD i 0).toNat) news:=by
 obtain⟨r⟩:=d_ b' ah;have hu:P.underlying gc=some .string:=by rw [r.hd,nu r hk]
 refine⟨byteCells ⟨⟨l⟩⟩,Src.ofString w hu ⟨⟨l⟩⟩,⟨by simp [byteCells],λi _=>rfl,λu hu=>?_,λi j c u hi hc hu=>?_⟩⟩
 ·obtain⟨_,_,rfl⟩:=List.mem_map.1 hu;rfl
 ·cases j with
  |succ j=>simp [V.cells]at hc
  |zero=>
   simp [V.cells]at hc;subst hc;simp only [byteCells,Nat.mul_one,Nat.add_zero,List.getElem?_map,Option.map_eq_some_iff]at hu;obtain⟨a,ha,rfl⟩:=hu;have:l[i]? = some a:=ha
   simp [this];exact .int _ _
end
def oi:Nat→List D→List (Nat×TypeId)→List aS
 |_,[],_=>[]
 |i,d::l,dX=>{d,own:=look dX i}::oi (i+1) l dX
def gp(args:List D)(dX:List (Nat×TypeId)):List (Nat×aS):=cQ 0 (oi 0 args dX)
def uB:∀(l:List D) (k i:Nat) (dX:List (Nat×TypeId)),(oi k l dX)[i]? = (l[i]?).map λd=>({d,own:=look dX (k+i)}:aS)
 |[],k,i,dX=>by simp [oi]
 |d::l,k,i,dX=>by
  cases i with
  |zero=>simp [oi]
  |succ i=>
   simp only [oi,List.getElem?_cons_succ,uB l (k+1) i dX];rw [show k+1+i=k+(i+1)by omega]
def gv:Out→List (Nat×aS)
 |.ret d own=>[(0,{d,own})]
 |.be x=>[(0,{d:=.v x})]
def nB:Out→Value→Ending
 |.ret _ _,v=>.returned v
 |.be _,v=>.panicked [{v,recovered:=false}]
def nC(P:Program)(f:FuncId)(args:List D)(dX:List (Nat×TypeId))(H:List (List aS))(R:Out→List (List aS)→Prop):Prop:=
 (∃ fd, P.funcs[f]? = some fd ∧ fd.body.isSome = true ∧ fd.name ≠ "runtime.NumGoroutine") ∧
 ∀(K:Ctx) (w:World) (vs:List Value) (M:Mem) (β:Nat→Option Nat),vs.length=args.length→
  bE P K M β {env:=gp args dX,H:=cQ 0 H,aU:=H.length} ⟨vs⟩ w→(∀r b,β r=some b→K.h5 r=some b)→
  Calls P f ⟨vs⟩ w λe w'=>∃o H' v M' β',R o H'∧e=nB o v∧bE P K M' β' {env:=gv o,H:=cQ 0 H',aU:=H.length} #[v] w'
def nC.mono{P:Program}{f:FuncId}{args:List D}{dX:List (Nat×TypeId)}{H:List (List aS)}{R K8:Out→List (List aS)→Prop}(h:nC P f args dX H R)(ak:∀o H',R o H'→K8 o H'):nC P f args dX H K8:=
 ⟨h.1,λK w vs M β ah hs hb=>(h.2 K w vs M β ah hs hb).mono λ_ _ ⟨o,H',v,M',β',ab,ai,ay⟩=>⟨o,H',v,M',β',ak _ _ ab,ai,ay⟩⟩
def fS(P:Program)(f:FuncId)(args:List D)(dX:List (Nat×TypeId))(H:List (List aS))(o:Out)(cw:List (List aS)):Prop:=nC P f args dX H λo' H'=>o'=o∧H'=cw
def gd(P:Program):fN:={call:=fS P,eq:=BY P}
def K9{α:Type}:∀(l:List α) (n i:Nat),look (cQ n l) i=if n≤i then l[i-n]? else none
 |[],n,i=>by simp [cQ,look]
 |x::l,n,i=>by
  simp only [cQ,dn,K9 l (n+1) i];by_cases ab:n=i
  ·subst ab;simp
  ·rw [if_neg ab];by_cases ai:n≤i
   ·rw [if_pos (by omega),if_pos ai]
    obtain⟨j,rfl⟩:∃j,i=n+1+j:=⟨i-(n+1),by omega⟩
    rw [show n+1+j-(n+1)=j by omega,show n+1+j-n=j+1 by omega]
    simp
   ·rw [if_neg (by omega),if_neg ai]
def kP{α:Type}(l:List α)(i:Nat):look (cQ 0 l) i=l[i]? := by simp [K9]
def xX:∀{ρ:List Nat} {r j:Nat},idx ρ r=some j→ρ[j]? = some r
 |[],_,_,h=>by simp [idx]at h
 |x::l,r,j,h=>by
  simp only [idx]at h;rw [Bool.cond_eq_ite]at h;split at h
  ·rename_i hb;cases h;simp at hb;simp [hb]
  ·simp only [Option.map_eq_some_iff]at h;obtain⟨k,hk,rfl⟩:=h;simpa using xX hk
def xY:∀{l:List Nat},kJ l=true→∀(i j:Nat) r,l[i]? = some r→l[j]? = some r→i=j
 |[],_,i,_,_,h,_=>by simp at h
 |x::l,h,i,j,r,hi,hj=>by
  simp only [kJ,Bool.and_eq_true,Bool.not_eq_true',List.any_eq_false]at h;have hx:∀k,l[k]? = some x→False:=λk hk=>by have:=h.1 x (List.mem_of_getElem? hk);simp at this
  cases i<;>cases j
  ·rfl
  ·simp at hi hj;subst hi;exact(hx _ hj).elim
  ·simp at hi hj;subst hj;exact(hx _ hi).elim
  ·simp at hi hj;rw [xY h.2 _ _ r hi hj]
def qt{H:List (Nat×List aS)}:∀{ρ:List Nat} {bs:List (List aS)},boxes H ρ=some bs→bs.length=ρ.length∧∀(j r:Nat),ρ[j]? = some r→look H r=bs[j]? ∧ (bs[j]?).isSome=true
 |[],bs,h=>by simp [boxes]at h;subst h;simp
 |x::ρ,bs,h=>by
  simp only [boxes]at h;split at h
  case h_2=>cases h
  rename_i b mH hb i7;cases h;obtain⟨ab,ai⟩:=qt i7;refine⟨by simp [ab],λj r hj=>?_⟩
  cases j with
  |zero=>simp at hj;subst hj;simp [hb]
  |succ j=>simp at hj;simpa using ai j r hj
def sq{f:Nat→Option Nat}:∀{b bM:List aS},kI f b=some bM→bM.length=b.length∧∀(i:Nat) aZ,bM[i]? = some aZ→∃e,b[i]? = some e∧ec f e.d=some aZ.d∧aZ.own=e.own
 |[],bM,h=>by simp [kI]at h;subst h;simp
 |e::l,bM,h=>by
  simp only [kI]at h;split at h
  case h_2=>cases h
  rename_i e1 hl he ah;cases h;obtain⟨ab,ai⟩:=sq ah;refine⟨by simp [ab],λi aZ hi=>?_⟩
  cases i with
  |zero=>
   simp at hi;subst hi
   simp only [xx,Option.map_eq_some_iff]at he;obtain⟨d,hd,rfl⟩:=he;exact⟨e,by simp,hd,rfl⟩
  |succ i=>simp at hi;simpa using ai i aZ hi
def XF{f:Nat→Option Nat}{d:D}{r off:Nat}{u:TypeId}(h:ec f d=some (.cn r off u)):∃dt,d = .cn dt off u:=by
 cases d with
 |cn dt ah5 K'=>
  simp only [ec,Option.map_eq_some_iff]at h;obtain⟨s,_,ai⟩:=h;cases ai;exact⟨dt,rfl⟩
 |v x=>simp [ec]at h
 |eB x=>simp [ec]at h
 |full k n get=>simp [ec]at h
 |ptr dt o=>simp [ec]at h
 |fn g c=>simp [ec]at h
 |agg c=>simp [ec]at h
 |cf c=>simp [ec]at h
def jo.ec{P:Program}{T:TypeId}{n:Nat}{f:Nat→Option Nat}{b bM:List aS}(h:jo P T n b)(ak:kI f b=some bM):jo P T n bM:=λe he r off u hd=>by
 obtain⟨i,hi,rfl⟩:=List.getElem_of_mem he;obtain⟨bP,ab,ai,_⟩:=(sq ak).2 i _ (List.getElem?_eq_getElem hi);rw [hd]at ai;obtain⟨dt,ay⟩:=XF ai;exact h bP (List.mem_of_getElem? ab) dt off u ay
def sr{f:Nat→Option Nat}:∀{bs mH:List (List aS)},ih f bs=some mH→mH.length=bs.length∧∀(j:Nat) bM,mH[j]? = some bM→∃b,bs[j]? = some b∧kI f b=some bM
 |[],mH,h=>by simp [ih]at h;subst h;simp
 |b::l,mH,h=>by
  simp only [ih]at h;split at h
  case h_2=>cases h
  rename_i cj hl hb ah;cases h;obtain⟨ab,ai⟩:=sr ah;refine⟨by simp [ab],λj bM hj=>?_⟩
  cases j with
  |zero=>simp at hj;subst hj;exact⟨b,by simp,hb⟩
  |succ j=>simp at hj;simpa using ai j bM hj
def CA{H:List (Nat×List aS)}:∀{ρ:List Nat} {bs:List (List aS)},bs.length=ρ.length→kJ ρ=true→∀r,
 (∀(j:Nat),ρ[j]? = some r→look (jn ρ bs++H) r=bs[j]?)∧((∀(j:Nat),ρ[j]? ≠ some r)→look (jn ρ bs++H) r=look H r)
 |[],bs,_,_,r=>by simp [jn]
 |x::ρ,[],h,_,_=>by simp at h
 |x::ρ,b::bs,h,hn,r=>by
  have xH:kJ ρ=true:=by simp [kJ]at hn;exact hn.2
  obtain⟨ab,ai⟩:=CA (H:=H) (ρ:=ρ) (bs:=bs) (by simpa using h) xH r
  simp only [jn,List.cons_append,dn];refine⟨λj hj=>?_,λhj=>?_⟩
  ·by_cases hx:x=r
   ·have:j=0:=xY hn j 0 r hj (by simp [hx])
    subst this;simp [hx]
   ·cases j with
    |zero=>simp at hj;exact(hx hj).elim
    |succ j=>simp at hj;rw [if_neg hx];simpa using ab j hj
  ·have hx:x≠r:=λe=>hj 0 (by simp [e])
   rw [if_neg hx];exact ai λj=>by simpa using hj (j+1)
section
variable {P:Program} {K:Ctx} {N:Nat} {M:Mem} {β:Nat→Option Nat} {st:aF} {g:db} {tmps:Array Value} {w:World} {o:Oper} {f:jl} {p:Path} {tt:dr} {cd:fN} {ops:List Oper}
def uC(ρ os:List Nat):Loc→Prop
 |.cell r _=>r∈ρ
 |.slot t=>t∈os
def nD(st:aF)(tmps:Array Value)(w:World)(β:Nat→Option Nat)(ρ os:List Nat)(b:Nat):Prop:=
 (∃r,r∈ρ∧β r=some b)∨∃l e T,uC ρ os l∧st.at l=some e∧e.own=some T∧hC T (b9 tmps w β l) b
open Classical in
noncomputable def iG(M:Mem)(β:Nat→Option Nat)(st:aF)(tmps:Array Value)(w:World)(ρ os:List Nat):Ctx:=
 {p9:=M,F:=λb=>if nD st tmps w β ρ os b then none else w.heap[b]?,h5:=λj=>(ρ[j]?).bind β,gj:=(w.os,w.output)}
structure Handed(st:aF)(tmps:Array Value)(vs:List Value)(hd:List (Nat×Option Nat×TypeId)):Prop where
 some:∀i t T,(i,Option.some t,T)∈hd→∃e,st.at (.slot t)=Option.some e∧e.own=Option.some T∧vs[i]? = Option.some (tmps.getD t undef)
 none:∀i T,(i,Option.none,T)∈hd→vs[i]? = Option.some (.slice Option.none 0 0)
 inj:∀i j t T T',(i,Option.some t,T)∈hd→(j,Option.some t,T')∈hd→i=j
def pc(hd:List (Nat×Option Nat×TypeId)):List (Nat×TypeId):=hd.map λx=>(x.1,x.2.2)
def nE(hd:List (Nat×Option Nat×TypeId)):List Nat:=hd.filterMap λx=>x.2.1
def XG{hd:List (Nat×Option Nat×TypeId)}{i:Nat}{T:TypeId}(h:look (pc hd) i=some T):∃o,(i,o,T)∈hd:=by
 have:=oc h
 simp only [pc,List.mem_map]at this;obtain⟨⟨a,o,T'⟩,ab,ai⟩:=this;cases ai;exact⟨o,ab⟩
def XH{hd:List (Nat×Option Nat×TypeId)}{i t:Nat}{T:TypeId}(h:(i,some t,T)∈hd):t∈nE hd:=by
 simp only [nE,List.mem_filterMap];exact⟨_,h,rfl⟩
def xZ(ρ:List Nat)(hd:List (Nat×Option Nat×TypeId))(T:TypeId):Loc→Loc→Prop
 |.cell j i,.cell r kn=>i=kn∧ρ[j]? = some r
 |.slot s,.slot t=>(s,some t,T)∈hd
 |_,_=>False
def K_(h:bE P K M β st tmps w){ρ:List Nat}{bs H1:List (List aS)}(hn:kJ ρ=true)(i7:boxes st.H ρ=some bs)(ka:ih (idx ρ) bs=some H1){ds h3:List D}{vs:List Value}
 (hlen:vs.length=ds.length) (aA:∀(i:Nat) v d,vs[i]? = some v→ds[i]? = some d→co M β v d) (fz:jm (idx ρ) ds=some h3) {hd:List (Nat×Option Nat×TypeId)} (qu:Handed st tmps vs hd):
 bE P (iG M β st tmps w ρ (nE hd)) M (λj=>(ρ[j]?).bind β) {env:=gp h3 (pc hd),H:=cQ 0 H1,aU:=H1.length} ⟨vs⟩ w:=by
 obtain⟨cS,e6⟩:=qt i7;obtain⟨gF,hQ⟩:=sr ka;obtain⟨ah6,XI⟩:=r' fz
 have La:∀{v d dT},co M β v d→ec (idx ρ) d=some dT→co M (λj=>(ρ[j]?).bind β) v dT:=by
  intro v d dT hd iB;exact hd.ec (λr s b hs hb=>by rw [xX hs];simpa using hb) iB
 -- a cell of jN CB is a cell of ours
 have gG:∀j i aZ,({env:=gp h3 (pc hd),H:=cQ 0 H1,aU:=H1.length}:aF).at (.cell j i)=some aZ→∃(r:Nat) (e:aS),ρ[j]? = some r∧st.at (.cell r i)=some e∧ec (idx ρ) e.d=some aZ.d∧aZ.own=e.own∧
  b9 ⟨vs⟩ w (λj=>(ρ[j]?).bind β) (.cell j i)=b9 tmps w β (.cell r i):=by
  intro j i aZ he;simp only [aF.at,kP]at he;cases hj:H1[j]? with
  |none=>simp [hj]at he
  |some bM=>
   simp only [hj,Option.bind_some]at he;obtain⟨b,hb,lu⟩:=hQ j bM hj;have qv:j<ρ.length:=by have:=(List.getElem?_eq_some_iff.1 hb).1;omega
   have jP:ρ[j]? = some ρ[j]:=List.getElem?_eq_getElem qv;obtain⟨ah,_⟩:=e6 j _ jP;obtain⟨_,CC⟩:=sq lu;obtain⟨e,mF,CD,CE⟩:=CC i aZ he;exact⟨_,e,jP,by simp [aF.at,ah,hb,mF],CD,CE,by simp [b9,jP]⟩
 have Lb:∀s aZ,({env:=gp h3 (pc hd),H:=cQ 0 H1,aU:=H1.length}:aF).at (.slot s)=some aZ→aZ.own=look (pc hd) s∧∃v d,vs[s]? = some v∧ds[s]? = some d∧ec (idx ρ) d=some aZ.d:=by
  intro s aZ he;simp only [aF.at,gp,kP,uB,Option.map_eq_some_iff]at he;obtain⟨dT,iB,rfl⟩:=he;have hs:s<h3.length:=(List.getElem?_eq_some_iff.1 iB).1;have gw:ds[s]? = some ds[s]:=List.getElem?_eq_getElem (by omega)
  obtain⟨d1,fO,XJ⟩:=XI s _ gw;rw [iB]at fO;cases fO;exact⟨by simp,_,_,List.getElem?_eq_getElem (by omega),gw,XJ⟩
 -- ah7 'own' place of jN CB is one of ours
 have x0:∀cz aZ T,({env:=gp h3 (pc hd),H:=cQ 0 H1,aU:=H1.length}:aF).at cz=some aZ→aZ.own=some T→
  b9 ⟨vs⟩ w (λj=>(ρ[j]?).bind β) cz = .slice none 0 0∨∃l e,xZ ρ hd T cz l∧uC ρ (nE hd) l∧st.at l=some e∧e.own=some T∧b9 ⟨vs⟩ w (λj=>(ρ[j]?).bind β) cz=b9 tmps w β l:=by
  intro cz aZ T ah aN;cases cz with
  |slot s=>
   obtain⟨ax,v,d,ab,ai,ay⟩:=Lb s aZ ah;rw [ax]at aN;obtain⟨o,hm⟩:=XG aN;have b8:b9 (⟨vs⟩:Array Value) w (λj=>(ρ[j]?).bind β) (.slot s)=v:=by simp [b9,ab]
   cases o with
   |none=>
    have:=qu.none s T hm
    rw [ab]at this;cases this;exact .inl b8
   |some t=>
    obtain⟨e,bg,bQ,dh⟩:=qu.some s t T hm;rw [ab]at dh;cases dh;exact .inr ⟨.slot t,e,hm,XH hm,bg,bQ,b8⟩
  |cell j i=>
   obtain⟨r,e,jP,he,_,fk,b8⟩:=gG j i aZ ah;exact .inr ⟨.cell r i,e,⟨rfl,jP⟩,List.mem_of_getElem? jP,he,by rw [←fk,aN],b8⟩
 have XK:∀T T' hl kb l,xZ ρ hd T hl l→xZ ρ hd T' kb l→hl=kb:=by
  intro T T' hl kb l ab ai;cases hl<;>cases kb<;>cases l<;>simp only [xZ]at ab ai
  ·rw [qu.inj _ _ _ _ _ ab ai]
  ·obtain⟨rfl,ay⟩:=ab;obtain⟨rfl,bg⟩:=ai;rw [xY hn _ _ _ ay bg]
 have iH:∀j cs',look (cQ 0 H1) j=some cs'→∃(r:Nat) (cs:List aS),ρ[j]? = some r∧look st.H r=some cs∧cs.length=cs'.length∧∃f,kI f cs=some cs':=by
  intro j cs' hj;rw [kP]at hj;obtain⟨b,hb,lu⟩:=hQ j cs' hj;have qv:j<ρ.length:=by have:=(List.getElem?_eq_some_iff.1 hb).1;omega
  have jP:ρ[j]? = some ρ[j]:=List.getElem?_eq_getElem qv;obtain⟨ah,_⟩:=e6 j _ jP;exact⟨_,b,jP,by rw [ah,hb],(sq lu).1.symm,_,lu⟩
 constructor
 ·intro l aZ ah;cases l with
  |slot s=>
   obtain⟨_,v,d,ab,ai,ay⟩:=Lb s aZ ah;have:=La (aA s v d ab ai) ay
   simpa [b9,ab]using this
  |cell j i=>
   obtain⟨r,e,jP,he,lu,_,b8⟩:=gG j i aZ ah;rw [b8];exact La (h.ez _ e he) lu
 ·intro cz aZ T ah aN;rcases x0 cz aZ T ah aN with h0|⟨l,e,_,bz,he,dK,b8⟩
  ·rw [h0];exact .inl rfl
  ·rw [b8];refine(h.own _ e T he dK).r_ λb hb _=>?_
   simp only [iG];rw [if_pos];exact .inr ⟨l,e,T,bz,he,dK,hb⟩
 ·intro hl kb e1 e2 T T' b ah aN cF dK hb bO;rcases x0 hl e1 T ah aN with h0|⟨l,e,ce,bz,he,CF,b8⟩
  ·rw [h0]at hb;cases hb
  rcases x0 kb e2 T' cF dK with h0|⟨cz,aZ,l8,uA,uD,XL,nt⟩
  ·rw [h0]at bO;cases bO
  rw [b8]at hb;rw [nt]at bO;have:=h.uniq _ _ e aZ T T' b he CF uD XL hb bO
  subst this;exact XK _ _ _ _ _ ce l8
 ·intro cz aZ T b j cs' ah aN hb hj;rcases x0 cz aZ T ah aN with h0|⟨l,e,ce,bz,he,CF,b8⟩
  ·rw [h0]at hb;cases hb
  rw [b8]at hb;obtain⟨an,cs,XM,dP,_⟩:=iH j cs' hj;have:=h.unbox _ e T b an cs he CF hb dP
  simpa [XM]using this
 ·intro j cs' hj;obtain⟨r,cs,jP,dP,ah,f,XN⟩:=iH j cs' hj;obtain⟨b,kL,T,ab,ai,ay,bg,bQ,dh⟩:=h.box r cs dP;refine⟨b,kL,T,by simp [jP,ab],ai,by omega,bg,?_,dh.1,dh.2.ec XN⟩
  simp only [iG];rw [if_pos];exact .inl ⟨r,List.mem_of_getElem? jP,ab⟩
 ·intro j qw b c gk hj x1 hb bO;obtain⟨r,cs,jP,dP,_⟩:=iH j c hj;obtain⟨cA,cs',Lc,qx,_⟩:=iH qw gk x1;have:r=cA:=h.inj r cA b cs cs' dP qx (by simpa [jP]using hb) (by simpa [Lc]using bO)
  subst this;exact xY hn j qw r jP Lc
 ·intro j b hb;simp only [Option.bind_eq_some_iff]at hb;obtain⟨r,ak,_⟩:=hb;have:=(List.getElem?_eq_some_iff.1 ak).1
  show j<H1.length
  omega
 ·exact h.mem
 ·exact Mem.le_refl _
 ·intro b a6 hb;simp only [iG]at hb;split at hb
  ·cases hb
  ·exact⟨hb,λ_=>rfl⟩
 ·intro j b hb;exact hb
 ·refine h.hD.mono λb a6 du=>?_
  have CG:¬ nD st tmps w β ρ (nE hd) b:=by
   rintro (⟨r,ak,kc⟩|⟨l,e,T,ak,he,aN,iC⟩)
   ·obtain⟨j,hj⟩:=List.getElem?_of_mem ak;obtain⟨ah,qy⟩:=e6 j r hj;obtain⟨cs,dP⟩:=Option.isSome_iff_exists.1 qy;obtain⟨ls,_,_,ay,_,_,_,bg,_⟩:=h.box r cs (by rw [ah,dP])
    rw [kc]at ay;cases ay;rw [bg]at du;cases du
   ·rw [(h.own _ e T he aN).free iC]at du;cases du
  simp only [iG];rw [if_neg CG];exact(h.frame b a6 du).1
 ·rfl
def XO{ρ os:List Nat}{st:aF}{H:List (Nat×List aS)}{n s:Nat}{e:aS}(ah:({env:=fV os st.env,H:=H,aU:=n}:aF).at (.slot s)=some e):
 ∃bP,st.at (.slot s)=some bP∧bP.d=e.d∧(∀T,e.own=some T→bP.own=some T)∧∀T,e.own=some T→¬ uC ρ os (.slot s):=by
 simp only [aF.at,kM]at ah;by_cases hs:s∈os
 ·rw [if_pos hs,Option.map_eq_some_iff]at ah;obtain⟨bP,ab,ai⟩:=ah;subst ai;exact⟨bP,ab,rfl,(λT aN=>by cases aN),(λT aN=>by cases aN)⟩
 ·rw [if_neg hs]at ah;exact⟨e,ah,rfl,(λT aN=>aN),(λT _=>hs)⟩
def CH(h:bE P K M β st tmps w){ρ:List Nat}{bs cw hh:List (List aS)}(hn:kJ ρ=true)(i7:boxes st.H ρ=some bs)(qz:ih (λj=>ρ[j]?) cw=some hh)(eE:cw.length=ρ.length)
 {os:List Nat} {out:Out} {v:Value} {w':World} {M':Mem} {β':Nat→Option Nat} (hI:bE P (iG M β st tmps w ρ os) M' β' {env:=gv out,H:=cQ 0 cw,aU:=ρ.length} #[v] w'):
 M.le M'∧bE P K M' β {env:=fV os st.env,H:=jn ρ hh++st.H,aU:=st.aU} tmps w'∧
 (∀d own,out = .ret d own→∀dT,ec (λj=>ρ[j]?) d=some dT→co M' β v dT∧∀T l0,own=some T→km P K M' β {env:=fV os st.env,H:=jn ρ hh++st.H,aU:=st.aU} tmps w' l0 v T)∧
 (∀x,out = .be x→dc M' v x):=by
 obtain⟨cS,e6⟩:=qt i7;obtain⟨gF,hQ⟩:=sr qz;have cX:M.le M':=hI.m0;have f':∀(j r b:Nat),ρ[j]? = some r→β r=some b→β' j=some b:=λj r b hj hb=>hI.gO j b (by simp [iG,hj,hb])
 have pd:∀(j r:Nat),ρ[j]? = some r→∃cs b,look st.H r=some cs∧β r=some b∧β' j=some b:=by
  intro j r hj;obtain⟨ab,ai⟩:=e6 j r hj;obtain⟨cs,dP⟩:=Option.isSome_iff_exists.1 ai;rw [dP]at ab;obtain⟨b,_,_,hb,_⟩:=h.box r cs ab;exact⟨cs,b,ab,hb,f' j r b hj hb⟩
 have Ld:∀{v d dT},co M' β' v d→ec (λj=>ρ[j]?) d=some dT→co M' β v dT:=by
  intro v d dT hd iB;refine hd.ec (λj r b hj hb=>?_) iB
  obtain⟨_,cj,_,ab,ai⟩:=pd j r hj;rw [hb]at ai;cases ai;exact ab
 -- xR is not nD is kept
 have uE:∀b,¬ nD st tmps w β ρ os b→b<w.heap.size→w'.heap[b]? = w.heap[b]? ∧ ∀o,M' b o=M b o:=by
  intro b hb cV
  have du:(iG M β st tmps w ρ os).F b=some w.heap[b]:=by
   simp only [iG];rw [if_neg hb];exact Array.getElem?_eq_getElem cV
  obtain⟨ab,ai⟩:=hI.frame b _ du;exact⟨by rw [ab,Array.getElem?_eq_getElem cV],ai⟩
 have Le:∀b,(iG M β st tmps w ρ os).F b=none→K.F b=none:=by
  intro b hb;simp only [iG]at hb;split at hb
  ·rename_i hp;rcases hp with⟨r,ak,kc⟩|⟨l,e,T,ak,he,aN,iC⟩
   ·obtain⟨j,hj⟩:=List.getElem?_of_mem ak;obtain⟨cs,cj,dP,cS,_⟩:=pd j r hj;obtain⟨ls,_,_,ab,_,_,_,ai,_⟩:=h.box r cs dP;rw [kc]at ab;cases ab;exact ai
   ·exact(h.own _ e T he aN).free iC
  ·cases du:K.F b with
   |none=>rfl
   |some a6=>have:=(h.frame b a6 du).1;rw [hb]at this;cases this
 have hold:∀b,(iG M β st tmps w ρ os).F b=none→b<w.heap.size→nD st tmps w β ρ os b:=by
  intro b hb cV;simp only [iG]at hb;split at hb
  ·assumption
  ·rw [Array.getElem?_eq_getElem cV]at hb;cases hb
 -- ah8 own boxes XB ah9 not handed on
 have x2:∀r cs b,look st.H r=some cs→(∀(j:Nat),ρ[j]? ≠ some r)→β r=some b→¬ nD st tmps w β ρ os b:=by
  intro r cs b ak ho hb hp;rcases hp with⟨cA,eD,bO⟩|⟨l,e,T,eD,he,aN,iC⟩
  ·obtain⟨j,hj⟩:=List.getElem?_of_mem eD;obtain⟨cs',_,qx,_⟩:=pd j cA hj;have:=h.inj r cA b cs cs' ak qx hb bO
   subst this;exact ho j hj
  ·exact h.unbox _ e T b r cs he aN iC ak hb
 have uF:∀r,(∃(j:Nat),ρ[j]? = some r∧look (jn ρ hh++st.H) r=hh[j]?)∨((∀(j:Nat),ρ[j]? ≠ some r)∧look (jn ρ hh++st.H) r=look st.H r):=by
  intro r;obtain⟨ab,ai⟩:=CA (H:=st.H) (ρ:=ρ) (bs:=hh) (by omega) hn r
  by_cases hj:∃(j:Nat),ρ[j]? = some r
  ·obtain⟨j,hj⟩:=hj;exact .inl ⟨j,hj,ab j hj⟩
  ·have:∀(j:Nat),ρ[j]? ≠ some r:=λj bz=>hj ⟨j,bz⟩
   exact .inr ⟨this,ai this⟩
 -- a place of jN new state: jN CB, or kept
 have eM:∀l e,({env:=fV os st.env,H:=jn ρ hh++st.H,aU:=st.aU}:aF).at l=some e→
  (∃(j r i:Nat) (aZ:aS),l = .cell r i∧ρ[j]? = some r∧({env:=gv out,H:=cQ 0 cw,aU:=ρ.length}:aF).at (.cell j i)=some aZ∧ec (λj=>ρ[j]?) aZ.d=some e.d∧e.own=aZ.own∧b9 tmps w' β l=b9 #[v] w' β' (.cell j i))∨
  (∃bP,st.at l=some bP∧bP.d=e.d∧(∀T,e.own=some T→bP.own=some T)∧b9 tmps w' β l=b9 tmps w β l∧(∀T,e.own=some T→¬ uC ρ os l)):=by
  intro l e ah;cases l with
  |slot s=>
   obtain⟨bP,ab,ai,ay,bg⟩:=XO ah;exact .inr ⟨bP,ab,ai,ay,rfl,bg⟩
  |cell r i=>
   rcases uF r with⟨j,hj,jQ⟩|⟨ho,jQ⟩
   ·simp only [aF.at,jQ]at ah;cases bz:hh[j]? with
    |none=>simp [bz]at ah
    |some bM=>
     simp only [bz,Option.bind_some]at ah;obtain⟨b,hb,lu⟩:=hQ j bM bz;obtain⟨_,CC⟩:=sq lu;obtain⟨aZ,mF,CD,CE⟩:=CC i e ah;obtain⟨_,cj,_,cS,qa⟩:=pd j r hj;exact .inl ⟨j,r,i,aZ,rfl,hj,by simp [aF.at,kP,hb,mF],CD,CE,by simp [b9,cS,qa]⟩
   ·simp only [aF.at,jQ]at ah;refine .inr ⟨e,ah,rfl,λ_ h=>h,?_,λT _ bz=>by obtain⟨j,hj⟩:=List.getElem?_of_mem bz;exact ho j hj⟩
    cases ak:look st.H r with
    |none=>simp [ak]at ah
    |some cs=>
     obtain⟨b,_,_,hb,bz,_⟩:=h.box r cs ak;simp only [b9,hb];rw [oa (w:=w) (uE b (x2 r cs b ak ho hb) (lt_of_heap bz)).1]
 -- a kept 'own' ah' block is not nD
 have uG:∀l e T b,st.at l=some e→e.own=some T→¬ uC ρ os l→hC T (b9 tmps w β l) b→¬ nD st tmps w β ρ os b:=by
  intro l e T b ah aN ho hb hp;rcases hp with⟨cA,eD,bO⟩|⟨cz,aZ,T',eD,he,dK,iC⟩
  ·obtain⟨j,hj⟩:=List.getElem?_of_mem eD;obtain⟨cs',_,qx,_⟩:=pd j cA hj;exact h.unbox l e T b cA cs' ah aN hb qx bO
  ·have:=h.uniq l _ e aZ T T' b ah aN he dK hb iC
   subst this;exact ho eD
 -- jN CB 'own' blocks ah_ ours
 have uH:∀T u b,ik P (iG M β st tmps w ρ os).F M' w' T u→hC T u b→∀bM,bM=b→bM<w.heap.size→nD st tmps w β ρ os bM:=by
  intro T u b ax hb bM sc cV;subst sc;exact hold bM (ax.free hb) cV
 have x3:∀r cs,look (jn ρ hh++st.H) r=some cs→∃jv,look st.H r=some jv:=by
  intro r cs ak;rcases uF r with⟨j,hj,_⟩|⟨_,jQ⟩
  ·obtain⟨jv,_,ab,_⟩:=pd j r hj;exact⟨jv,ab⟩
  ·exact⟨cs,by rw [←jQ];exact ak⟩
 have cK:bE P K M' β {env:=fV os st.env,H:=jn ρ hh++st.H,aU:=st.aU} tmps w':=by
  constructor
  ·intro l e ah;rcases eM l e ah with⟨j,r,i,aZ,rfl,hj,uD,lu,_,b8⟩|⟨bP,ax,uI,iZ,b8,_⟩
   ·rw [b8];exact Ld (hI.ez _ aZ uD) lu
   ·rw [b8,←uI];exact(h.ez l bP ax).mono cX
  ·intro l e T ah aN;rcases eM l e ah with⟨j,r,i,aZ,rfl,hj,uD,_,fk,b8⟩|⟨bP,ax,uI,iZ,b8,ho⟩
   ·rw [b8];rw [fk]at aN;exact(hI.own _ aZ T uD aN).r_ λb _ dh=>Le b dh
   ·rw [b8];have ho:=ho T aN;have aN:=iZ T aN;refine(h.own l bP T ax aN).congr (λb hb=>?_) (λb o' hb=>?_)
    ·exact(uE b (uG l bP T b ax aN ho hb) ((h.own l bP T ax aN).lt hb)).1
    ·exact(uE b (uG l bP T b ax aN ho hb) ((h.own l bP T ax aN).lt hb)).2 o'
  ·intro l cz e1 e2 T T' b ah aN cF dK hb bO
   rcases eM l e1 ah with⟨j,r,i,x,rfl,hj,hx,_,fk,b8⟩|⟨bP,ax,uI,iZ,b8,ho⟩ <;>
    rcases eM cz e2 cF with⟨qw,cA,kn,fh,rfl,x1,ss,_,Lf,nt⟩|⟨sb,iY,aia,um,nt,CI⟩
   ·rw [b8]at hb;rw [nt]at bO;rw [fk]at aN;rw [Lf]at dK;have:=hI.uniq _ _ x fh T T' b hx aN ss dK hb bO
    cases this;rw [hj]at x1;cases x1;rfl
   ·rw [b8]at hb;rw [nt]at bO;rw [fk]at aN;have CI:=CI T' dK;have dK:=um T' dK;exact(uG cz sb T' b iY dK CI bO (uH T _ b (hI.own _ x T hx aN) hb b rfl ((h.own cz sb T' iY dK).lt bO))).elim
   ·rw [b8]at hb;rw [nt]at bO;rw [Lf]at dK;have ho:=ho T aN;have aN:=iZ T aN;exact(uG l bP T b ax aN ho hb (uH T' _ b (hI.own _ fh T' ss dK) bO b rfl ((h.own l bP T ax aN).lt hb))).elim
   ·rw [b8]at hb;rw [nt]at bO;exact h.uniq l cz bP sb T T' b ax (iZ T aN) iY (um T' dK) hb bO
  ·intro l e T b r cs ah aN hb ak kc;obtain⟨jv,jY⟩:=x3 r cs ak;rcases eM l e ah with⟨j,ae,i,x,rfl,hj,hx,_,fk,b8⟩|⟨bP,ax,uI,iZ,b8,ho⟩
   ·rw [b8]at hb;rw [fk]at aN;rcases uF r with⟨j2,uJ,jQ⟩|⟨CJ,_⟩
    ·have ai:∃c2,look (cQ 0 cw) j2=some c2:=by
      rw [kP];exact⟨_,List.getElem?_eq_getElem (by have:=(List.getElem?_eq_some_iff.1 uJ).1;omega)⟩
     obtain⟨c2,jw⟩:=ai;exact hI.unbox _ x T b j2 c2 hx aN hb jw (f' j2 r b uJ kc)
    ·obtain⟨cj,_,_,cS,bz,_⟩:=h.box r jv jY;rw [kc]at cS;cases cS;exact x2 r jv b jY CJ kc (uH T _ b (hI.own _ x T hx aN) hb b rfl (lt_of_heap bz))
   ·rw [b8]at hb;exact h.unbox l bP T b r jv ax (iZ T aN) hb jY kc
  ·intro r cs ak;rcases uF r with⟨j,hj,jQ⟩|⟨ho,jQ⟩
   ·rw [jQ]at ak;obtain⟨c2,jw,lu⟩:=hQ j cs ak;obtain⟨jv,l9,XP,Lg,XQ⟩:=pd j r hj;obtain⟨b,kL,T,ab,ai,ay,bg,bQ,dh⟩:=hI.box j c2 (by rw [kP];exact jw)
    rw [XQ]at ab;cases ab;obtain⟨ls,_,_,e5,_,_,_,gH,_⟩:=h.box r jv XP;rw [Lg]at e5;cases e5;exact⟨l9,kL,T,Lg,ai,by rw [ay,(sq lu).1],bg,gH,dh.1,dh.2.ec lu⟩
   ·rw [jQ]at ak;obtain⟨b,kL,T,ab,ai,ay,bg,bQ,dh⟩:=h.box r cs ak;have hk:=uE b (x2 r cs b ak ho ab) (lt_of_heap ai);exact⟨b,kL,T,ab,hk.1.trans ai,ay,λo'=>(hk.2 o').trans (bg o'),bQ,dh⟩
  ·intro r cA b c gk ak eD hb bO;obtain⟨c0,jY⟩:=x3 r c ak;obtain⟨XR,XS⟩:=x3 cA gk eD;exact h.inj r cA b c0 XR jY XS hb bO
  ·exact h.lt
  ·exact hI.mem
  ·exact Mem.le_trans h.m0 cX
  ·intro b a6 du;obtain⟨ab,ai⟩:=h.frame b a6 du
   have CG:¬ nD st tmps w β ρ os b:=by
    rintro (⟨r,ak,kc⟩|⟨l,e,T,ak,he,aN,iC⟩)
    ·obtain⟨j,hj⟩:=List.getElem?_of_mem ak;obtain⟨cs,_,dP,_⟩:=pd j r hj;obtain⟨ls,_,_,ay,_,_,_,bg,_⟩:=h.box r cs dP;rw [kc]at ay;cases ay;rw [bg]at du;cases du
    ·rw [(h.own _ e T he aN).free iC]at du;cases du
   have hk:=uE b CG (lt_of_heap ab);exact⟨hk.1.trans ab,λo'=>(hk.2 o').trans (ai o')⟩
  ·exact h.gO
  ·exact h.hD
  ·exact Eq.trans (show(w'.os,w'.output)=(w.os,w.output)from hI.gj) h.gj
 refine⟨cX,cK,λd own CK dT iB=>?_,λx CK=>?_⟩
 ·subst CK;have gx:=hI.ez (.slot 0) {d,own} (by simp [aF.at,gv,look])
  refine⟨Ld (by simpa [b9]using gx) iB,λT l0 aN=>?_⟩
  have ax:=hI.own (.slot 0) {d,own} T (by simp [aF.at,gv,look]) aN
  simp only [b9]at ax;have iY:ik P (iG M β st tmps w ρ os).F M' w' T v:=by simpa using ax
  refine⟨?_,λl e T' b ah dK _ hb bO=>?_,λb r cs hb ak kc=>?_⟩
  ·exact iY.r_ λb _ dh=>Le b dh
  ·rcases eM l e ah with⟨j,r,i,x,rfl,hj,hx,_,fk,b8⟩|⟨bP,Lh,uI,iZ,b8,ho⟩
   ·rw [b8]at bO;rw [fk]at dK;have:=hI.uniq (.slot 0) (.cell j i) {d,own} x T T' b (by simp [aF.at,gv,look]) aN hx dK (by simpa [b9]using hb) bO
    cases this
   ·rw [b8]at bO;have ho:=ho T' dK;have dK:=iZ T' dK;exact uG l bP T' b Lh dK ho bO (uH T v b iY hb b rfl ((h.own l bP T' Lh dK).lt bO))
  ·obtain⟨jv,jY⟩:=x3 r cs ak;rcases uF r with⟨j2,uJ,jQ⟩|⟨CJ,_⟩
   ·have ai:∃c2,look (cQ 0 cw) j2=some c2:=by
     rw [kP];exact⟨_,List.getElem?_eq_getElem (by have:=(List.getElem?_eq_some_iff.1 uJ).1;omega)⟩
    obtain⟨c2,jw⟩:=ai;exact hI.unbox (.slot 0) {d,own} T b j2 c2 (by simp [aF.at,gv,look]) aN (by simpa [b9]using hb) jw (f' j2 r b uJ kc)
   ·obtain⟨cj,_,_,cS,bz,_⟩:=h.box r jv jY;rw [kc]at cS;cases cS;exact x2 r jv b jY CJ kc (uH T v b iY hb b rfl (lt_of_heap bz))
 ·subst CK;have gx:=hI.ez (.slot 0) {d:=.v x} (by simp [aF.at,gv,look])
  have:=lp gx
  simpa [b9]using this
end
def Li{i:Int}{n:Nat}(h:aP i n=true):0≤i∧i<n:=by simpa [aP]using h
def oj{i:Int}{n:Nat}(h:gb i n=true):0≤i∧i≤n:=by simpa [gb]using h
def Lj{i:Int}{n:Nat}(h:0≤i∧i≤n):gb i n=true:=by simpa [gb]using h
def Lk{a b:Int}{n:Nat}(h:np a b n=true):0≤a∧a≤b∧b≤n:=by simpa [np]using h
def Ll{a:Int}(h:oZ a=true):a≠0:=by simpa [oZ]using h
def CL{n b:Nat}(h:room n b=true):n*b≤140737488355328:=by simpa [room]using h
def XT{n:Nat}(h:b3 n=true):n≤9223372036854775807:=by simpa [b3]using h
section
variable {P:Program} {K:Ctx} {N:Nat} {M:Mem} {β:Nat→Option Nat} {st:aF} {g:db} {tmps:Array Value} {w:World} {o:Oper} {f:jl} {p:Path} {tt:dr} {cd:fN} {ops:List Oper}
def Lm:∀(l:List (Nat×aS)) (s:Nat),look (mz l) s=(look l s).map λe=>({d:=e.d}:aS)
 |[],s=>rfl
 |(t,e)::l,s=>by
  simp only [mz,dn];by_cases h:t=s
  ·simp [h]
  ·simp only [h,if_false];exact Lm l s
def bE.mz{st:aF}(h:bE P K M β st tmps w){env:List (Nat×aS)}(he:∀s e,look env s=some e→∃bP,look st.env s=some bP∧bP.d=e.d):bE P K M β {env:=Ab.mz env,H:=st.H,aU:=st.aU} tmps w:=
 h.sub rfl (λl e ah=>by
  cases l with
  |slot s=>
   simp only [aF.at,Lm,Option.map_eq_some_iff]at ah;obtain⟨e1,ab,rfl⟩:=ah;obtain⟨bP,ai,ay⟩:=he s e1 ab;exact⟨bP,ai,ay,λ_ h=>by cases h⟩
  |cell r i=>exact⟨e,ah,rfl,λ_ h=>h⟩) (λr cs ak=>⟨cs,ak,rfl⟩)
def XU(P:Program)(K:Ctx)(M:Mem)(β:Nat→Option Nat)(g:db)(x:V)(hs:List (Nat×List aS))(o:Oper)(tmps:Array Value)(w:World):Prop:=
 (∃v,(execOp (Act.eval ⟨tmps,[]⟩) o).run P w = .halt (.panic v) w∧dc M v x∧hs=[])∨
 (∃fn vs,(execOp (Act.eval ⟨tmps,[]⟩) o).run P w = .ok (.enter fn vs) w∧Calls P fn vs w λe w'=>∃v M' ,e = .panicked [{v,recovered:=false}]∧dc M' v x∧
  bE P K M' β {env:=mz g.env,H:=hs++g.H,aU:=g.aU} tmps w')
def XV{op:BinOp}{k:IntKind}{a b:Int}{x:V}{a6:List Prop}(h:BJ op k a b=some (x,a6))(cv:∀q,q∈a6→q)(t:TypeId):
 ∃v,(binOp op t (.int k a) (.int k b)).run P w = .ok v w∧dc M v x:=by
 have fin:∀{s:Sem Value} {v:Value},s.run P w = .ok v w→dc M v x→∃v,s.run P w = .ok v w∧dc M v x:=λab ai=>⟨_,ab,ai⟩
 cases op<;>simp only [BJ,Option.some.injEq,Prod.mk.injEq,reduceCtorEq]at h<;>obtain⟨rfl,rfl⟩:=h
 case quo=>
  have hb:=Ll (cv _ (List.mem_singleton.2 rfl));refine fin (v:=.int k (k.wrap (a.tdiv b))) ?_ (.int _ _);simp [binOp,Op.intDiv,hb]
 case rem=>
  have hb:=Ll (cv _ (List.mem_singleton.2 rfl));refine fin (v:=.int k (a.tmod b)) ?_ (.int _ _);simp [binOp,Op.intDiv,hb]
 case add=>exact fin (v:=.int k (k.wrap (a+b))) (by simp [binOp,Op.intArith]) (.int _ _)
 case sub=>exact fin (v:=.int k (k.wrap (a-b))) (by simp [binOp,Op.intArith]) (.int _ _)
 case mul=>exact fin (v:=.int k (k.wrap (a*b))) (by simp [binOp,Op.intArith]) (.int _ _)
 case eql=>exact fin (v:=.bool (decide (a=b))) (by simp [binOp,Op.intCmp];rfl) (.bool _)
 case neq=>exact fin (v:=.bool (!decide (a=b))) (by simp [binOp,Op.intCmp];rfl) (.bool _)
 case lss=>exact fin (v:=.bool (decide (a<b))) (by simp [binOp,Op.intCmp]) (.bool _)
 case leq=>exact fin (v:=.bool (decide (a≤b))) (by simp [binOp,Op.intCmp]) (.bool _)
 case gtr=>exact fin (v:=.bool (decide (b<a))) (by simp [binOp,Op.intCmp]) (.bool _)
 case geq=>exact fin (v:=.bool (decide (b≤a))) (by simp [binOp,Op.intCmp]) (.bool _)
 case and=>exact fin (v:=.int k (r2 k a b)) (by simp [binOp,Op.intBits,r2]) (.int _ _)
 case or=>exact fin (v:=.int k (r3 k a b)) (by simp [binOp,Op.intBits,r3]) (.int _ _)
 case xor=>exact fin (v:=.int k (uc k a b)) (by simp [binOp,Op.intBits,uc]) (.int _ _)
 case andNot=>exact fin (v:=.int k (BH k a b)) (by simp [binOp,Op.intBits,BH]) (.int _ _)
def XW{op:BinOp}{k k':IntKind}{a b:Int}{x:V}{a6:List Prop}(h:BI op k a b=some (x,a6))(cv:∀q,q∈a6→q)(t:TypeId):
 ∃v,(binOp op t (.int k a) (.int k' b)).run P w = .ok v w∧dc M v x:=by
 unfold BI at h;split at h
 ·simp only [Option.some.injEq,Prod.mk.injEq]at h;obtain⟨rfl,rfl⟩:=h;have hb:0≤b:=by simpa [mw]using cv (mw b=true) (by simp)
  exact⟨.int k (r4 k a b),by simp [binOp,Op.shift,show¬ b<0 by omega,r4],.int _ _⟩
 ·simp only [Option.some.injEq,Prod.mk.injEq]at h;obtain⟨rfl,rfl⟩:=h;have hb:0≤b:=by simpa [mw]using cv (mw b=true) (by simp)
  exact⟨.int k (r5 k a b),by simp [binOp,Op.shift,show¬ b<0 by omega,r5],.int _ _⟩
 ·cases h
def XX{op:BinOp}{a b:ajK}{x:V}{a6:List Prop}(h:BK op a b=some (x,a6))(cv:∀q,q∈a6→q)(t:TypeId):
 ∃v,(binOp op t (.string ⟨⟨a⟩⟩) (.string ⟨⟨b⟩⟩)).run P w = .ok v w∧dc M v x:=by
 have fin:∀{s:Sem Value} {v:Value},s.run P w = .ok v w→dc M v x→∃v,s.run P w = .ok v w∧dc M v x:=λab ai=>⟨_,ab,ai⟩
 have nF:=xM a;have su:=xM b;have he:(a == b)=decide (a=b):=by by_cases kQ:a=b<;>simp [kQ]
 cases op<;>simp only [BK,Option.some.injEq,Prod.mk.injEq,reduceCtorEq]at h<;>obtain⟨rfl,rfl⟩:=h
 case add=>
  have hb:=XT (cv _ (List.mem_singleton.2 rfl));refine fin (v:=.string ⟨⟨a++b⟩⟩) ?_ (.str _)
  have dW:¬ ((((⟨⟨a⟩⟩:ByteArray).size+(⟨⟨b⟩⟩:ByteArray).size:Nat):Int) > IntKind.i64.max):=by
   have ab:(⟨⟨a⟩⟩:ByteArray).size=a.length:=rfl;have ai:(⟨⟨b⟩⟩:ByteArray).size=b.length:=rfl;have ay:IntKind.i64.max=9223372036854775807:=by decide
   rw [ab,ai,ay];omega
  simp only [binOp,Op.stringOp];rw [if_neg dW];simp;apply ByteArray.ext;simp
 case eql=>exact fin (v:=.bool (decide (a=b))) (by simp [binOp,Op.stringOp,nF,su,he]) (.bool _)
 case neq=>exact fin (v:=.bool (!decide (a=b))) (by simp [binOp,Op.stringOp,nF,su,he]) (.bool _)
 case lss=>exact fin (v:=.bool (Op.bytesLess a b)) (by simp [binOp,Op.stringOp,nF,su]) (.bool _)
 case leq=>exact fin (v:=.bool (Op.bytesLess a b||decide (a=b))) (by simp [binOp,Op.stringOp,nF,su,he]) (.bool _)
 case gtr=>exact fin (v:=.bool (!(Op.bytesLess a b||decide (a=b)))) (by simp [binOp,Op.stringOp,nF,su,he]) (.bool _)
 case geq=>exact fin (v:=.bool (!Op.bytesLess a b)) (by simp [binOp,Op.stringOp,nF,su]) (.bool _)
def XY{t:TypeId}{aD:ef}(r:Row P t aD)(hk:aD.k = .ptr):∃e,r.desc = .pointer e:=by
 have:=r.hk
 rw [hk]at this;cases hd:r.desc<;>simp [hd,jq]at this;exact⟨_,rfl⟩
def XZ{t:TypeId}{aD:ef}(r:Row P t aD)(hk:aD.k = .lT):∃e,r.desc = .interface e:=by
 have:=r.hk
 rw [hk]at this;cases hd:r.desc<;>simp [hd,jq]at this;exact⟨_,rfl⟩
def X0{t:TypeId}{aD:ef}(r:Row P t aD)(hk:aD.k = .aT):∃a b c,r.desc = .func a b c:=by
 have:=r.hk
 rw [hk]at this;cases hd:r.desc<;>simp [hd,jq]at this;exact⟨_,_,_,rfl⟩
def CM{t:TypeId}{aD:ef}(r:Row P t aD)(hk:aD.k = .bool):r.desc = .bool:=by
 have:=r.hk
 rw [hk]at this;cases hd:r.desc<;>simp [hd,jq]at this;rfl
def Ln{t:TypeId}{aD:ef}(r:Row P t aD){gm sv:Value}{a b:D}{res:Bool}(ha:co M β gm a)(hb:co M β sv b)(ah:xw aD.k b=true)(hn:isNil aD.k a=some res):
 (Op.equal t gm sv).run P w = .ok res w∧(∀op,(binOp op t gm sv)=match op with|.eql=>(do pure (.bool (←Op.equal t gm sv)))|.neq=>(do pure (.bool (!(←Op.equal t gm sv))))|_=>binOp op t gm sv):=by
 obtain⟨dep,hm⟩:∃d,Op.maxDepth=d+1:=⟨9999,rfl⟩;unfold xw at ah;split at ah<;>try cases ah
 ·rename_i hk;cases lp hb
  obtain⟨e,hd⟩:=XY r hk;rw [hk]at hn;unfold isNil at hn;split at hn<;>simp_all
  ·cases lp ha
   refine⟨?_,λop=>by cases op<;>rfl⟩
   rw [Op.equal,hm,Op.equalIn];simp [r.run_underlying,hd]
  ·obtain⟨bM,_,rfl⟩:=l2 ha;subst hn;refine⟨?_,λop=>by cases op<;>rfl⟩
   rw [Op.equal,hm,Op.equalIn];simp [r.run_underlying,hd]
  ·obtain⟨bM,off,val,rfl,_⟩:=xJ ha;subst hn;refine⟨?_,λop=>by cases op<;>rfl⟩
   rw [Op.equal,hm,Op.equalIn];simp [r.run_underlying,hd]
 ·rename_i hk;cases lp hb
  obtain⟨e,hd⟩:=XZ r hk;rw [hk]at hn;unfold isNil at hn;split at hn<;>simp_all
  ·cases lp ha
   refine⟨?_,λop=>by cases op<;>rfl⟩
   rw [Op.equal,hm,Op.equalIn];simp [r.run_underlying,hd]
  ·obtain⟨u,rfl,_⟩:=B1 ha;subst hn;refine⟨?_,λop=>by cases op<;>rfl⟩
   rw [Op.equal,hm,Op.equalIn];simp [r.run_underlying,hd]
 ·rename_i hk;cases lp hb
  obtain⟨e1,e2,e3,hd⟩:=X0 r hk;rw [hk]at hn;unfold isNil at hn;split at hn<;>simp_all
  ·cases lp ha
   refine⟨?_,λop=>by cases op<;>rfl⟩
   rw [Op.equal,hm,Op.equalIn];simp [r.run_underlying,hd]
  ·obtain⟨u,rfl,_⟩:=Kt ha;subst hn;refine⟨?_,λop=>by cases op<;>rfl⟩
   rw [Op.equal,hm,Op.equalIn];simp [r.run_underlying,hd]
end
section
variable {P:Program} {K:Ctx} {N:Nat} {M:Mem} {β:Nat→Option Nat} {st:aF} {g:db} {tmps:Array Value} {w:World} {o:Oper} {f:jl} {p:Path} {tt:dr} {cd:fN} {ops:List Oper}
structure Hyp(P:Program)(K:Ctx)(N:Nat)(M:Mem)(β:Nat→Option Nat)(g:db)(tmps:Array Value)(w:World)(p:Path)(tt:dr):Prop where
 bn:eZ P K N M β g tmps w
 dA:fe tmps p
 tt:eF P tt=true
def X1(h:Hyp P K N M β g tmps w p tt){x:Operand}(ax:o.op = .move x)(hs:step1 cd tt ops g p o=some (.go f)):Yields P K M β g f o tmps w:=by
 simp only [step1,ax]at hs;split at hs
 case h_2=>cases hs
 rename_i d hd
 repeat' (first|(split at hs)|(rw [Bool.cond_eq_ite]at hs))
 all_goals first
  |(cases hs;done)
  |(cases hs;exact Kx h.bn h.dA (.inl ax) hd (by assumption))
  |(cases hs;exact xN h.bn h.dA (.inl ax) hd)
def X2(h:Hyp P K N M β g tmps w p tt){x:Operand}(ax:o.op = .assign x)(hs:step1 cd tt ops g p o=some (.go f)):Yields P K M β g f o tmps w:=by
 simp only [step1,ax]at hs;split at hs
 case h_2=>cases hs
 rename_i d hd;split at hs
 ·rename_i e t fk;rw [Bool.cond_eq_ite]at hs;split at hs<;>cases hs
  ·exact Kx h.bn h.dA (.inr ax) hd fk
  ·exact xN h.bn h.dA (.inr ax) hd
 ·split at hs
  ·rw [Bool.cond_eq_ite]at hs;split at hs<;>cases hs
   ·exact W8 h.bn h.dA ax hd _
   ·exact xN h.bn h.dA (.inr ax) hd
  ·cases hs
 ·cases hs;exact xN h.bn h.dA (.inr ax) hd
def X3(h:Hyp P K N M β g tmps w p tt){c:Nat}{a b:Operand}(ax:o.op = .pick (.tmp c) a b)(hs:step1 cd tt ops g p o=some (.go f)):Yields P K M β g f o tmps w:=by
 simp only [step1,ax]at hs;split at hs
 case h_2=>cases hs
 rename_i o1 ug p6 ab ai ay;cases hs;exact W9 h.bn h.dA ax ab ai ay
def X4(h:Hyp P K N M β g tmps w p tt){t:TypeId}(ax:o.op = .alloc t)(hs:step1 cd tt ops g p o=some (.go f)):Yields P K M β g f o tmps w:=by
 simp only [step1,ax]at hs;split at hs
 case h_2=>cases hs
 rename_i id e4 hid;split at hs
 case h_2=>cases hs
 rename_i z ek;cases hs;exact W_ h.bn h.tt ax ek hid
def X5(h:Hyp P K N M β g tmps w p tt){t:TypeId}{x:Operand}(ax:o.op = .box t x)(hs:step1 cd tt ops g p o=some (.go f)):Yields P K M β g f o tmps w:=by
 simp only [step1,ax]at hs;split at hs
 case h_2=>cases hs
 rename_i d id e4 aD hd hid ah;rw [Bool.cond_eq_ite]at hs;split at hs<;>cases hs
 rename_i x4;simp only [Bool.or_eq_true,Bool.not_eq_true',not_or,Bool.not_eq_true,Bool.not_eq_false,Nat.beq_eq]at x4;exact Xa h.bn h.dA ax hd x4.1.1 x4.1.2 h.tt ah x4.2 hid
def X6(h:Hyp P K N M β g tmps w p tt){t:TypeId}{parts:Array (Nat×Operand)}(ax:o.op = .build t parts)(hs:step1 cd tt ops g p o=some (.go f)):Yields P K M β g f o tmps w:=by
 simp only [step1,ax]at hs;split at hs
 ·rename_i cu fj iD zero _ cx ah j';rw [Bool.cond_eq_ite]at hs;split at hs
  case isFalse=>cases hs
  rename_i o9;split at hs
  ·simp only [Option.map_eq_some_iff]at hs;obtain⟨d,⟨cs,dP,rfl⟩,hs⟩:=hs;cases hs;exact KK h.bn h.dA h.tt ah rfl o9 ax j' (λr=>r.Xd) dP
  ·simp only [Option.map_eq_some_iff]at hs;obtain⟨d,⟨cs,dP,rfl⟩,hs⟩:=hs;cases hs;exact KK h.bn h.dA h.tt ah rfl o9 ax j' (λr=>r.KJ) dP
 ·rename_i n e fj iD zero _ cx ah j';split at hs
  case h_2=>cases hs
  rename_i ar X7 Lo z2 eE;simp only [Option.map_eq_some_iff]at hs;obtain⟨d,⟨cs,dP,rfl⟩,hs⟩:=hs;cases hs;exact Xf h.bn h.dA h.tt ah rfl eE ax j' dP
 ·cases hs
def X8(h:Hyp P K N M β g tmps w p tt){t:TypeId}{len:Nat}{parts:Array (Nat×Operand)}(ax:o.op = .buildSlice t len parts)(hs:step1 cd tt ops g p o=some (.go f))(cv:∀q,q∈f.a6→q):Yields P K M β g f o tmps w:=by
 simp only [step1,ax]at hs;split at hs
 case h_2=>cases hs
 rename_i e fj iD zero _ cx ah j';split at hs
 case h_2=>cases hs
 rename_i ar X7 Lo z2 eE;split at hs
 case h_2=>cases hs
 rename_i xs x rs hx eh;rw [Bool.cond_eq_ite]at hs;split at hs
 case isFalse=>cases hs
 rename_i hc;simp only [Bool.and_eq_true,Nat.ble_eq,Nat.beq_eq]at hc;cases hs;exact Xh h.bn h.dA h.tt ah rfl eE ax j' hx hc.2 hc.1.2 hc.1.1 (cv _ (List.mem_singleton.2 rfl))
def X9(h:Hyp P K N M β g tmps w p tt){t:TypeId}{a:Operand}(ax:o.op = .load t a)(hs:step1 cd tt ops g p o=some (.go f)):Yields P K M β g f o tmps w:=by
 simp only [step1,ax]at hs;split at hs
 ·rename_i q off aD ha ah;split at hs
  case h_2=>cases hs
  rename_i cs aR;rw [Bool.cond_eq_ite]at hs;split at hs
  ·rename_i gl;rw [Bool.cond_eq_ite]at hs;split at hs
   case isFalse=>cases hs
   rename_i hle;split at hs
   ·rename_i rs eh;rw [Bool.cond_eq_ite]at hs;split at hs
    case isFalse=>cases hs
    rename_i hm;cases hs;simp only [Bool.and_eq_true]at hm;exact Xs h.bn h.dA h.tt ah ax ha aR gl (by simpa using hle) hm.2
   ·cases hs;exact Xl h.bn h.dA h.tt ah ax ha aR gl (by simpa using hle)
  ·rename_i gl;split at hs
   case h_2=>cases hs
   rename_i e he;split at hs
   ·rename_i s rs fu eh;rw [Bool.cond_eq_ite]at hs;split at hs<;>cases hs
    exact Xn h.bn h.dA h.tt ah ax ha aR (by simpa using gl) he fu
   ·cases hs;exact Xm h.bn h.dA h.tt ah ax ha aR (by simpa using gl) he
 ·rename_i x aD ha ah;rw [Bool.cond_eq_ite]at hs;split at hs
  case isFalse=>cases hs
  rename_i hc;simp only [Bool.and_eq_true,beq_iff_eq,Nat.beq_eq]at hc;cases hs;exact Xo h.bn h.dA h.tt ah ax ha hc.1 hc.2
 ·cases hs
def X'(h:Hyp P K N M β g tmps w p tt){t:TypeId}{a x:Operand}(ax:o.op = .store t a x)(hs:step1 cd tt ops g p o=some (.go f)):Yields P K M β g f o tmps w:=by
 simp only [step1,ax]at hs;split at hs
 case h_2=>cases hs
 rename_i q off d aD ha hx ah;split at hs
 case h_2=>cases hs
 rename_i cs aR;rw [Bool.cond_eq_ite]at hs;split at hs
 case isFalse=>cases hs
 rename_i hc;simp only [Bool.and_eq_true,Nat.beq_eq,Nat.ble_eq,Bool.not_eq_true']at hc;obtain⟨⟨⟨⟨im,jw⟩,_⟩,CN⟩,CO⟩:=hc;split at hs
 ·rename_i u s k n get fk;cases hs;simp only [lV,Option.bind_eq_some_iff]at fk;obtain⟨e,he,aN⟩:=fk;have dW:aD.size=1:=by rw [←im];rfl
  exact KS h.bn h.dA h.tt ah ax ha aR hx dW jw (l:=[u]) (h.bn.bn.hand he aN (.cell q off))
 ·split at hs
  ·cases hs;have kO:=hx;simp only [rd]at kO;split at kO
   ·cases kO;have dW:aD.size=1:=by rw [←im];rfl
    exact KS h.bn h.dA h.tt ah ax ha aR hx dW jw (l:=[]) (BV _ _)
   ·cases kO
  ·cases hs
 ·rename_i u s fk;split at hs
  ·rw [Bool.cond_eq_ite]at hs;split at hs
   case isFalse=>cases hs
   rename_i hm;cases hs;simp only [Bool.and_eq_true,List.all_eq_true,Nat.blt_eq]at hm;simp only [lV,Option.bind_eq_some_iff]at fk;obtain⟨e,he,aN⟩:=fk;exact Xu h.bn h.dA h.tt ah ax ha aR hx CN CO im jw hm.1 he aN hm.2
  ·cases hs;exact KR h.bn h.dA h.tt ah ax ha aR hx CN CO im jw _
 ·cases hs;exact KR h.bn h.dA h.tt ah ax ha aR hx CN CO im jw _
def X_(h:Hyp P K N M β g tmps w p tt){x:Operand}(ax:o.op = .nilCheck x)(hs:step1 cd tt ops g p o=some (.go f)):Yields P K M β g f o tmps w:=by
 simp only [step1,ax]at hs;split at hs
 ·rename_i q off hd;cases hs;have ak:=dL (ds:=[]) h.bn h.dA hd;obtain⟨b,_,aA⟩:=l2 ak;refine eG h.bn (v:=(⟨tmps,[]⟩:Act).eval x) ?_ ak;simp [execOp,ax,aA]
 ·rename_i y hd;cases hs;have ak:=dL (ds:=[]) h.bn h.dA hd;obtain⟨b,off,val,aA,_⟩:=xJ ak;refine eG h.bn (v:=(⟨tmps,[]⟩:Act).eval x) ?_ ak;simp [execOp,ax,aA]
 ·cases hs
def Ya(h:Hyp P K N M β g tmps w p tt){op:UnOp}{t:TypeId}{x:Operand}(ax:o.op = .unOp op t x)(hs:step1 cd tt ops g p o=some (.go f)):Yields P K M β g f o tmps w:=by
 simp only [step1,ax]at hs;split at hs
 case h_2=>cases hs
 rename_i a ha;simp only [Option.map_eq_some_iff]at hs;obtain⟨d,⟨fh,ss,rfl⟩,hs⟩:=hs;cases hs;have ak:=dL (ds:=[]) h.bn h.dA ha;unfold Kg at ss;split at ss<;>cases ss
 ·have:=qf ak
  refine eG h.bn (v:=.bool _) ?_ (.v _ _ (.bool _));simp [execOp,ax,this,Op.unary]
 ·have:=jZ ak
  refine eG h.bn (v:=.int _ _) ?_ (.v _ _ (.int _ _));simp [execOp,ax,this,Op.unary,Op.intArith]
def Yb(h:Hyp P K N M β g tmps w p tt){s t:TypeId}{x:Operand}(ax:o.op = .convert s t x)(hs:step1 cd tt ops g p o=some (.go f))(cv:∀q,q∈f.a6→q):Yields P K M β g f o tmps w:=by
 simp only [step1,ax]at hs;split at hs
 ·rename_i c6 _ _ _ _ k _ _ _ _ eS n fg eE hd;cases hs;obtain⟨ae⟩:=d_ h.tt fg;obtain⟨an⟩:=d_ h.tt eE;have ak:=jZ (dL (ds:=[]) h.bn h.dA hd);refine eG h.bn (v:=.int k (k.wrap n)) ?_ (.v _ _ (.int _ _));simp only [execOp,ax,ak];refine hF _ ?_;simp [convert,ae.run_underlying,an.run_underlying,uo ae rfl,uo an rfl,Conv.intToInt]
 ·rename_i _ _ _ _ _ _ _ _ l fg eE hd;cases hs;obtain⟨ae⟩:=d_ h.tt fg;obtain⟨an⟩:=d_ h.tt eE;have ak:=kp (dL (ds:=[]) h.bn h.dA hd);refine eG h.bn (v:=.string ⟨⟨l⟩⟩) ?_ (.v _ _ (.str _));simp only [execOp,ax,ak];refine hF _ ?_;simp [convert,ae.run_underlying,an.run_underlying,nu ae rfl,nu an rfl]
 ·rename_i e _ _ _ _ _ _ _ _ n get fg eE hd;split at hs
  case h_2=>cases hs
  rename_i l rs Yc eh;cases hs;obtain⟨ae⟩:=d_ h.tt fg;obtain⟨an⟩:=d_ h.tt eE;obtain⟨aB⟩:=d_ h.tt Yc;obtain⟨hlen,hr⟩:=cv _ (List.mem_singleton.2 rfl);have ak:=dL (ds:=[]) h.bn h.dA hd;refine eG h.bn (v:=.string ⟨⟨l⟩⟩) ?_ (.v _ _ (.str _));simp only [execOp,ax];refine hF _ ?_;rcases o7 ak with⟨hn|⟨a,hn⟩,aA⟩|⟨b,off,cap,val,aA,hc,hk,cX,ab,fl⟩
  ·have hl0:l=[]:=List.eq_nil_of_length_eq_zero (hlen.trans aA);rw [hn,hl0];simp [convert,ae.run_underlying,an.run_underlying,aB.run_underlying,mD ae rfl,nu an rfl,uo aB rfl,Conv.bytesToString];rfl
  ·have hl0:l=[]:=List.eq_nil_of_length_eq_zero (hlen.trans aA);rw [hn,hl0];exact run_convert_bytes_back w s t e a 0 [] (by rw [ae.hd,mD ae rfl]) (by rw [aB.hd,uo aB rfl]) (by rw [an.hd,nu an rfl]) (λj hj=>by simp at hj)
  ·rw [aA,←hlen]
   have gG:∀j (hj:j<l.length),w.cell? ((⟨b,off,none⟩:Addr).add j)=some (.int .u8 (l[j].toNat:Int)):=by
    intro j hj;have CP:j<n:=by omega
    have e1:=hr j CP;have e2:=fl j 0 (.int .u8 ((l.getD j 0).toNat:Int)) CP (by rw [e1];rfl)
    have e3:val j 0 = .int .u8 ((l.getD j 0).toNat:Int):=by generalize val j 0=u at e2 ⊢;cases e2;rfl
    have qA:=h.bn.bn.mem _ _ _ (cX j 0 CP (by omega))
    rw [addr_add];have Yd:off+j*1+0=off+j:=by omega
    rw [Yd,e3]at qA;rw [qA];simp [List.getD,List.getElem?_eq_getElem hj]
   exact run_convert_bytes_back w s t e ⟨b,off,none⟩ cap l (by rw [ae.hd,mD ae rfl]) (by rw [aB.hd,uo aB rfl]) (by rw [an.hd,nu an rfl]) gG
 ·cases hs
def Ye(h:Hyp P K N M β g tmps w p tt){t:TypeId}{x:Operand}(ax:o.op = .makeInterface t x)(hs:step1 cd tt ops g p o=some (.go f)):Yields P K M β g f o tmps w:=by
 simp only [step1,ax]at hs;split at hs
 case h_2=>cases hs
 rename_i y k fj iD z _ hd ah;obtain⟨r⟩:=d_ h.tt ah;have ak:=dL (ds:=[]) h.bn h.dA hd
 have hc:P.concrete t=true∨k = .lT:=by
  have hk:=r.hk;cases Lp:r.desc<;>simp [Lp,jq]at hk
  all_goals first
   |exact .inr hk.symm
   |(left;simp [Program.concrete,r.hd,Lp])
 split at hs
 ·cases hs
 ·rename_i hk;cases hs;rcases hc with hc|hc
  ·refine eG h.bn (v:=.iface t ((⟨tmps,[]⟩:Act).eval x)) ?_ (.v _ _ (.iface t _ _ (lp ak)));simp only [execOp,ax];exact hF _ (run_makeInterface w t _ hc)
  ·exact absurd hc hk
def Yf(h:Hyp P K N M β g tmps w p tt){fn:FuncId}{first eK:Array Operand}(ax:o.op = .makeFunc (.func fn) first eK)(hs:step1 cd tt ops g p o=some (.go f)):Yields P K M β g f o tmps w:=by
 simp only [step1,ax]at hs;rw [Bool.cond_eq_ite]at hs;split at hs
 case isFalse=>cases hs
 rename_i he;simp only [Option.map_eq_some_iff]at hs;obtain⟨ds,gw,hs⟩:=hs;cases hs;obtain⟨ab,ai⟩:=o8 gw;have qr:first = #[]:=by simpa using he
 subst qr;refine eG h.bn (v:=.func (.func fn) #[] (eK.map (⟨tmps,[]⟩:Act).eval)) ?_ ?_
 ·simp [execOp,ax,Instr.makeFunc]
 ·have:eK.map (⟨tmps,[]⟩:Act).eval=⟨eK.toList.map (⟨tmps,[]⟩:Act).eval⟩:=by apply Array.ext';simp
  rw [this];refine .fn fn _ ds (by simp [ab]) λi v c aA hc=>?_
  simp only [List.getElem?_map,Option.map_eq_some_iff]at aA;obtain⟨y,b_,rfl⟩:=aA;exact dL h.bn h.dA (ai i y c b_ hc)
def Yg(h:Hyp P K N M β g tmps w p tt){x:Operand}{i:Nat}(ax:o.op = .extract x i)(hs:step1 cd tt ops g p o=some (.go f)):Yields P K M β g f o tmps w:=by
 simp only [step1,ax]at hs;split at hs
 case h_2=>cases hs
 rename_i ds hd;simp only [Option.map_eq_some_iff]at hs;obtain⟨d,pe,hs⟩:=hs;cases hs;obtain⟨vs,aA,hlen,ak⟩:=W2 (dL (ds:=[]) h.bn h.dA hd);have hi:i<ds.length:=(List.getElem?_eq_some_iff.1 pe).1;have eg:vs[i]? = some vs[i]:=List.getElem?_eq_getElem (by omega)
 refine eG h.bn (v:=vs[i]) ?_ (ak i _ d eg pe);simp only [execOp,ax,aA];refine hF _ ?_;simp [Instr.extract,eg]
end
section
variable {P:Program} {K:Ctx} {N:Nat} {M:Mem} {β:Nat→Option Nat} {st:aF} {g:db} {tmps:Array Value} {w:World} {o:Oper} {f:jl} {p:Path} {tt:dr} {cd:fN} {ops:List Oper}
def nG{op:BinOp}{t t2:TypeId}{x y:Operand}(ax:o.op = .binOp op t x y t2){a b v:Value}(hx:(⟨tmps,[]⟩:Act).eval x=a)(b_:(⟨tmps,[]⟩:Act).eval y=b)
 (hg:(eqGuard op t x y a b).run P w = .ok () w) (h:(binOp op t a b).run P w = .ok v w):(execOp (Act.eval ⟨tmps,[]⟩) o).run P w = .ok (.value v) w:=by
 simp only [execOp,ax,hx,b_];refine hF _ ?_;simp only [Sem.run_bind,hg,Result.andThen_ok,h]
def qB{op:BinOp}{t:TypeId}{x y:Operand}{a b:Value}(h:∀cs ds,¬ (a = .agg cs∧b = .agg ds))(ai:a = .nilIface→b = .nilIface→isConst y=true):(eqGuard op t x y a b).run P w = .ok () w:=by
 unfold eqGuard;cases op<;>try rfl
 all_goals
  simp only
  cases a<;>cases b<;>first
   |rfl
   |(exact absurd ⟨rfl,rfl⟩ (h _ _))
   |(have:=ai rfl rfl;cases y<;>simp [isConst]at this;simp)
def Yh(b':eF P tt=true){d:Nat}{gu:TypeId}{uK:List (Option jW)}{x y:V}{xs ys:List V}{gm ol:Value}{r:Bool}
 (he:hB ((look tt gu).map (·.k)::uK) (x::xs) (y::ys)=some r) (uL:dc M gm x) (uM:dc M ol y):∃c q,(Op.equalIn (d+1) gu gm ol).run P w = .ok c w∧hB uK xs ys=some q∧(c&&q)=r:=by
 cases ah:look tt gu with
 |none=>simp [ah,hB]at he
 |some aD=>
  obtain⟨row⟩:=d_ b' ah;have l':=row.hd;simp only [ah,Option.map_some]at he;unfold hB at he;split at he<;>simp only [List.cons.injEq,reduceCtorEq]at *
  case h_2 ks kk k a l k' b m e1 e2 e3=>
   obtain⟨e1,rfl⟩:=e1;obtain⟨rfl,rfl⟩:=e2;obtain⟨rfl,rfl⟩:=e3;cases uL;cases uM
   rw [Bool.cond_eq_ite]at he;split at he
   case isFalse=>cases he
   rename_i hk;simp only [decide_eq_true_eq]at hk;subst hk;simp only [Option.map_eq_some_iff]at he;obtain⟨q,aR,ak⟩:=he;refine⟨decide (a=b),q,?_,aR,ak⟩
   have:∃eu,row.desc = .int eu:=by
    have:=row.hk
    rw [Option.some.inj e1]at this;cases hd:row.desc<;>simp [hd,jq]at this;exact⟨_,rfl⟩
   obtain⟨eu,hJ⟩:=this;rw [hJ]at l';rw [run_equalIn_int w d gu k eu a b l'];rfl
  case h_3 ks a l b m e1 e2 e3=>
   obtain⟨e1,rfl⟩:=e1;obtain⟨rfl,rfl⟩:=e2;obtain⟨rfl,rfl⟩:=e3;cases uL;cases uM
   simp only [Option.map_eq_some_iff]at he;obtain⟨q,aR,ak⟩:=he;refine⟨decide (a=b),q,?_,aR,ak⟩
   have:row.desc = .string:=nu row (Option.some.inj e1)
   rw [this]at l';rw [run_equalIn_string w d gu _ _ l',xM,xM];by_cases kQ:a=b<;>simp [kQ]
  case h_4 ks a l b m e1 e2 e3=>
   obtain⟨e1,rfl⟩:=e1;obtain⟨rfl,rfl⟩:=e2;obtain⟨rfl,rfl⟩:=e3;cases uL;cases uM
   simp only [Option.map_eq_some_iff]at he;obtain⟨q,aR,ak⟩:=he;refine⟨(a == b),q,?_,aR,ak⟩
   have:row.desc = .bool:=CM row (Option.some.inj e1)
   rw [this]at l';rw [run_equalIn_bool' w d gu _ _ l']
def lv(P:Program)(cu:List Field):List (Nat×TypeId×Nat):=cu.map λf=>(f.offset,f.type,P.cellsOf f.type)
def x5:∀{c6 ar:List (Option jW)} {xs ys:List V} {r:Bool},hB (c6++ar) xs ys=some r→
 ∃ae an,hB c6 (xs.take c6.length) (ys.take c6.length)=some ae∧hB ar (xs.drop c6.length) (ys.drop c6.length)=some an∧(ae&&an)=r∧c6.length≤xs.length∧c6.length≤ys.length∧∀k,k∈c6→k.isSome=true
 |[],ar,xs,ys,r,h=>⟨true,r,by simp [hB],by simpa using h,rfl,Nat.zero_le _,Nat.zero_le _,λk hk=>by cases hk⟩
 |k::c6,ar,xs,ys,r,h=>by
  simp only [List.cons_append]at h;unfold hB at h;split at h<;>simp only [List.cons.injEq,reduceCtorEq]at *
  ·rename_i ks kk k' a l aib b m e1;obtain⟨rfl,rfl⟩:=e1;rw [Bool.cond_eq_ite]at h;split at h
   case isFalse=>cases h
   rename_i hk;simp only [Option.map_eq_some_iff]at h;obtain⟨q,aR,rfl⟩:=h;obtain⟨ae,an,ab,ai,ay,bg,bQ,dh⟩:=x5 aR;refine⟨decide (a=b)&&ae,an,?_,ai,by rw [Bool.and_assoc,ay],by simpa using bg,by simpa using bQ,λeu hJ=>?_⟩
   ·simp only [List.length_cons,List.take_succ_cons,hB,hk,cond_true,ab,Option.map_some]
   ·rcases List.mem_cons.1 hJ with rfl|hJ
    ·rfl
    ·exact dh eu hJ
  ·rename_i ks a l b m e1;obtain⟨rfl,rfl⟩:=e1;simp only [Option.map_eq_some_iff]at h;obtain⟨q,aR,rfl⟩:=h;obtain⟨ae,an,ab,ai,ay,bg,bQ,dh⟩:=x5 aR;refine⟨decide (a=b)&&ae,an,?_,ai,by rw [Bool.and_assoc,ay],by simpa using bg,by simpa using bQ,λeu hJ=>?_⟩
   ·simp only [List.length_cons,List.take_succ_cons,hB,ab,Option.map_some]
   ·rcases List.mem_cons.1 hJ with rfl|hJ
    ·rfl
    ·exact dh eu hJ
  ·rename_i ks a l b m e1;obtain⟨rfl,rfl⟩:=e1;simp only [Option.map_eq_some_iff]at h;obtain⟨q,aR,rfl⟩:=h;obtain⟨ae,an,ab,ai,ay,bg,bQ,dh⟩:=x5 aR;refine⟨(a == b)&&ae,an,?_,ai,by rw [Bool.and_assoc,ay],by simpa using bg,by simpa using bQ,λeu hJ=>?_⟩
   ·simp only [List.length_cons,List.take_succ_cons,hB,ab,Option.map_some]
   ·rcases List.mem_cons.1 hJ with rfl|hJ
    ·rfl
    ·exact dh eu hJ
def pf(tt:dr)(gu:TypeId):Nat→List (Option jW)
 | 0=>[(look tt gu).map (·.k)]
 |q+1=>match look tt gu with
  |some {k:=.b0 gs,..}=>kl tt q gs
  |o=>[o.map (·.k)]
def x6(q:Nat)(f:Field)(cu:List Field):kl tt q (lv P (f::cu))=pf tt f.type q++kl tt q (lv P cu):=by
 cases q with
 |zero=>rfl
 |succ q=>
  simp only [kl,lv,List.map_cons,List.flatMap_cons,pf];rfl
def Lq{t:TypeId}{aD:ef}(r:Row P t aD){gs:Array Field}(h:P.underlying t=some (.struct gs)):aD.k = .b0 (lv P gs.toList):=by
 have hd:r.desc = .struct gs:=Option.some.inj (r.hd.symm.trans h);have:=r.hk
 rw [hd]at this;simp [jq]at this;exact this.symm
def Lr{t:TypeId}{aD:ef}(r:Row P t aD){gs:List (Nat×TypeId×Nat)}(h:aD.k = .b0 gs):∃cu:Array Field,P.underlying t=some (.struct cu)∧gs=lv P cu.toList:=by
 have ab:=r.hk;rw [h]at ab;cases hd:r.desc<;>simp [hd,jq]at ab
 rename_i cu;refine⟨cu,?_,ab.symm⟩
 rw [r.hd,hd]
def Ls(b':eF P tt=true){gu:TypeId}(h:∀gs,P.underlying gu≠some (.struct gs))(q:Nat):pf tt gu q=[(look tt gu).map (·.k)]:=by
 cases q with
 |zero=>rfl
 |succ q=>
  simp only [pf];split
  ·rename_i gs _ _ _ _ ah;obtain⟨row⟩:=d_ b' ah;obtain⟨cu,ab,_⟩:=Lr row rfl;exact absurd ab (h cu)
  ·rfl
def CQ(b':eF P tt=true):∀(q:Nat) (cu:List Field),(∀k,k∈kl tt q (lv P cu)→k.isSome=true)→(kl tt q (lv P cu)).length=od P q cu
 | 0,cu,_=>by simp [kl,lv,od]
 |q+1,[],_=>by simp [kl,lv,od]
 |q+1,f::cu,h=>by
  rw [x6]at h ⊢;have bv:=CQ b' (q+1) cu λk hk=>h k (List.mem_append_right _ hk)
  have hc:od P (q+1) (f::cu)=(match P.underlying f.type with|some (.struct gs)=>od P q gs.toList|_=>1)+od P (q+1) cu:=by
   simp only [od,List.map_cons,List.sum_cons];rfl
  rw [List.length_append,bv,hc]
  congr 1
  simp only [pf]at h ⊢;split
  ·rename_i gs _ _ _ _ ah;obtain⟨row⟩:=d_ b' ah;obtain⟨uN,ab,rfl⟩:=Lr row rfl;rw [ab];refine CQ b' q uN.toList λk hk=>h k (List.mem_append_left _ ?_)
   rw [ah];exact hk
  ·rename_i o l_;cases ax:look tt f.type with
   |none=>
    have:=h none (List.mem_append_left _ (by rw [ax];simp))
    cases this
   |some aD=>
    obtain⟨row⟩:=d_ b' ax;split
    ·rename_i gs hu;have:=Lq row hu
     obtain⟨k,s,b,z,qh⟩:=aD;simp only at this
     subst this;exact absurd ax (l_ _ _ _ _ _)
    ·rfl
def Lt (b' : eF P tt = true) {d : Nat} {f : Field} {cu : List Field} {i : Nat} {uK : List (Option jW)} {xs ys : List V} {vs us : List Value} {r : Bool} (pg : f.offset = i) (h9 : ¬ f.name = "_") (gl : (isAgg f.type).run P w = .ok false w)
 (he:hB ((look tt f.type).map (·.k)::uK) xs ys=some r)
 (aA:∀(j:Nat) v x,vs[i+j]? = some v→xs[j]? = some x→dc M v x) (hu:∀(j:Nat) v x,us[i+j]? = some v→ys[j]? = some x→dc M v x) (nH:i+xs.length≤vs.length) (nx:i+ys.length≤us.length)
 (bv:∀(q:Bool),∀{uO uP:List V},hB uK uO uP=some q→(∀(j:Nat) v x,vs[i+1+j]? = some v→uO[j]? = some x→dc M v x)→(∀(j:Nat) v x,us[i+1+j]? = some v→uP[j]? = some x→dc M v x)→i+1+uO.length≤vs.length→i+1+uP.length≤us.length→(Op.eqFields (d+1) ⟨vs⟩ ⟨us⟩ cu).run P w = .ok q w):
 (Op.eqFields (d+1) ⟨vs⟩ ⟨us⟩ (f::cu)).run P w = .ok r w:=by
 cases xs with
 |nil=>simp [hB]at he
 |cons x xs=>
  cases ys with
  |nil=>simp [hB]at he
  |cons y ys=>
   simp only [List.length_cons]at nH nx;obtain⟨gm,eg⟩:∃gm,vs[i]? = some gm:=⟨_,List.getElem?_eq_getElem (by omega)⟩
   obtain⟨ol,Lu⟩:∃ol,us[i]? = some ol:=⟨_,List.getElem?_eq_getElem (by omega)⟩
   have uL:=aA 0 gm x eg rfl;have uM:=hu 0 ol y Lu rfl
   have nz:∀{zs:List Value} {z:Value},zs[i]? = some z→(part f.type ⟨zs⟩ f.offset).run P w = .ok z w:=by
    intro zs z ek;have:(⟨zs⟩:Array Value)[f.offset]? = some z:=by rw [pg];simpa using ek
    simp only [part,Sem.run_bind,gl,Result.andThen_ok,this];rfl
   obtain⟨c,q,ab,ai,ay⟩:=Yh (P:=P) (w:=w) (M:=M) b' (d:=d) he uL uM;have bg:=bv q ai (λj v z ab ai=>aA (j+1) v z (by rw [←ab];congr 1;omega) (by simpa using ai)) (λj v z ab ai=>hu (j+1) v z (by rw [←ab];congr 1;omega) (by simpa using ai)) (by omega) (by omega)
   simp only [Op.eqFields];rw [if_pos h9];simp only [Sem.run_bind,nz eg,nz Lu,Result.andThen_ok,ab];cases c
   ·simp [←ay]
   ·simp [←ay,bg]
def Yi(b':eF P tt=true):∀(q:Nat) {d:Nat} {cu:List Field} {i:Nat} {xs ys:List V} {vs us:List Value} {r:Bool},qe P q i cu=true→hB (kl tt q (lv P cu)) xs ys=some r→
 (∀(j:Nat) v x,vs[i+j]? = some v→xs[j]? = some x→dc M v x)→(∀(j:Nat) v x,us[i+j]? = some v→ys[j]? = some x→dc M v x)→i+xs.length≤vs.length→i+ys.length≤us.length→
 (Op.eqFields (d+q+1) ⟨vs⟩ ⟨us⟩ cu).run P w = .ok r w:=by
 intro q;induction q with
 |zero=>
  intro d cu;induction cu with
  |nil=>intro i xs ys vs us r _ he _ _ _ _;cases xs<;>cases ys<;>simp [kl,lv,hB]at he;subst he;simp [Op.eqFields]
  |cons f cu bv=>
   intro i xs ys vs us r bh he aA hu nH nx;simp only [qe,se,Bool.and_eq_true,Nat.beq_eq,Bool.not_eq_true',decide_eq_false_iff_not]at bh;obtain⟨⟨pg,h9⟩,fY⟩:=bh
   have sw:(∀gs,P.underlying f.type≠some (.struct gs))∧qe P 0 (i+1) cu=true∧(isAgg f.type).run P w = .ok false w:=by
    simp only [isAgg,Sem.run_bind];split at fY
    ·rename_i k hk;refine⟨λgs h=>(by rw [hk]at h;cases h),fY,?_⟩;rw [Go.run_underlying hk];rfl
    ·rename_i hk;refine⟨λgs h=>(by rw [hk]at h;cases h),fY,?_⟩;rw [Go.run_underlying hk];rfl
    ·rename_i hk;refine⟨λgs h=>(by rw [hk]at h;cases h),fY,?_⟩;rw [Go.run_underlying hk];rfl
    ·simp at fY
    ·cases fY
   exact Lt b' pg h9 sw.2.2 (by rw [x6,Ls b' sw.1]at he;exact he) aA hu nH nx λq' uO uP mG l7 CR ab ai=>bv sw.2.1 mG l7 CR ab ai
 |succ q Yj=>
  intro d cu;induction cu with
  |nil=>intro i xs ys vs us r _ he _ _ _ _;cases xs<;>cases ys<;>simp [kl,lv,hB]at he;subst he;simp [Op.eqFields]
  |cons f cu bv=>
   intro i xs ys vs us r bh he aA hu nH nx;have uQ:=bh;simp only [qe,se,Bool.and_eq_true,Nat.beq_eq,Bool.not_eq_true',decide_eq_false_iff_not]at bh;obtain⟨⟨pg,h9⟩,fY⟩:=bh;by_cases eA:∃gs,P.underlying f.type=some (.struct gs)
   ·obtain⟨gs,sx⟩:=eA;rw [sx]at fY;simp only [Bool.and_eq_true,Bool.not_eq_true',Nat.beq_eq]at fY;obtain⟨⟨⟨Yk,Yl⟩,Ym⟩,Lv⟩:=fY;rw [x6]at he;obtain⟨ae,an,e1,e2,e3,hl,kb,qy⟩:=x5 he
    have iH:∃aD,look tt f.type=some aD:=by
     cases ah:look tt f.type with
     |none=>have:=qy none (by simp [pf,ah]);cases this
     |some aD=>exact⟨aD,rfl⟩
    obtain⟨aD,x7⟩:=iH;obtain⟨row⟩:=d_ b' x7;have hk:=Lq row sx
    have qu:pf tt f.type (q+1)=kl tt q (lv P gs.toList):=by
     obtain⟨k,s,b,z,qh⟩:=aD;simp only at hk
     subst hk;simp only [pf,x7]
    rw [qu]at e1 e2 hl kb qy;have hn:=CQ b' q gs.toList qy;rw [hn,←Yl]at e1 e2 hl kb;generalize b5:P.cellsOf f.type=n at e1 e2 hl kb
    obtain⟨info,xP⟩:=info_of_underlying sx
    have nz:∀zs:List Value,(part f.type ⟨zs⟩ f.offset).run P w = .ok (.agg ⟨(zs.drop i).take n⟩) w:=by
     intro zs
     have:(⟨zs⟩:Array Value).extract i (i+n)=⟨(zs.drop i).take n⟩:=by
      apply Array.ext';rw [Array.toList_extract];simp [List.extract]
     simp only [part,isAgg,Sem.run_bind,run_underlying sx,run_sizeOf w xP,Result.andThen_ok,Sem.run_pure,pg,b5];simp [this,run_sizeOf w xP,b5]
    have hE:∀{zs:List Value} {cs:List V},(∀(j:Nat) v x,zs[i+j]? = some v→cs[j]? = some x→dc M v x)→∀(j:Nat) v x,((zs.drop i).take n)[0+j]? = some v→(cs.take n)[j]? = some x→dc M v x:=by
     intro zs cs h j v x ab ai;rw [Nat.zero_add,List.getElem?_take]at ab;rw [List.getElem?_take]at ai;split at ab
     ·rename_i hj;rw [if_pos hj]at ai;rw [List.getElem?_drop]at ab;exact h j v x ab ai
     ·cases ab
    have o_:P.fieldsOf f.type=gs:=by simp [Program.fieldsOf,sx]
    have hin:(Op.equalIn (d+(q+1)+1) f.type (.agg ⟨(vs.drop i).take n⟩) (.agg ⟨(us.drop i).take n⟩)).run P w = .ok ae w:=by
     rw [run_equalIn_agg w (d+(q+1)) f.type _ _ (by rw [o_];exact sx) Yk,o_]
     exact Yj (d:=d) (i:=0) Ym e1 (hE aA) (hE hu) (by simp;omega) (by simp;omega)
    have Lw:∀{zs:List Value} {cs:List V},(∀(j:Nat) v x,zs[i+j]? = some v→cs[j]? = some x→dc M v x)→∀(j:Nat) v x,zs[i+n+j]? = some v→(cs.drop n)[j]? = some x→dc M v x:=by
     intro zs cs h j v x ab ai;rw [List.getElem?_drop]at ai;exact h (n+j) v x (by rw [←Nat.add_assoc];exact ab) ai
    rw [b5]at Lv;have hQ:=bv (i:=i+n) Lv e2 (Lw aA) (Lw hu) (by simp;omega) (by simp;omega)
    simp only [Op.eqFields];rw [if_pos h9];simp only [Sem.run_bind,nz,Result.andThen_ok,hin];cases ae
    ·simp [←e3]
    ·simp [←e3,hQ]
   ·have sw:qe P (q+1) (i+1) cu=true∧(isAgg f.type).run P w = .ok false w:=by
     simp only [isAgg,Sem.run_bind];split at fY
     ·rename_i k hk;refine⟨fY,?_⟩;rw [Go.run_underlying hk];rfl
     ·rename_i hk;refine⟨fY,?_⟩;rw [Go.run_underlying hk];rfl
     ·rename_i hk;refine⟨fY,?_⟩;rw [Go.run_underlying hk];rfl
     ·rename_i gs hk;exact absurd ⟨gs,hk⟩ eA
     ·cases fY
    exact Lt b' pg h9 sw.2 (by rw [x6,Ls b' (λgs h=>eA ⟨gs,h⟩)]at he;exact he) aA hu nH nx λq' uO uP mG l7 CR ab ai=>bv sw.1 mG l7 CR ab ai
def Lx(b':eF P tt=true){t:TypeId}{cu:List (Nat×TypeId×Nat)}{fj iD:Nat}{z:List V}{qh:List (Nat×TypeId)}(ah:look tt t=some {k:=.b0 cu,size:=fj,bytes:=iD,zero:=z,h2:=qh})(he:BY P t=true){xs ys:List V}{r:Bool}(ak:hB (kl tt 4 cu) xs ys=some r)
 {gm ol:Value} (aA:dc M gm (.agg xs)) (hu:dc M ol (.agg ys)):∃vs us,gm = .agg ⟨vs⟩∧ol = .agg ⟨us⟩∧(Op.equalIn 10000 t (.agg ⟨vs⟩) (.agg ⟨us⟩)).run P w = .ok r w∧∀op a b,(eqGuard op t a b (.agg ⟨vs⟩) (.agg ⟨us⟩)).run P w = .ok () w:=by
 obtain⟨row⟩:=d_ b' ah;cases aA with
 |agg vs _ hn ab fl=>
  cases hu with
  |agg us _ xH kK Yn=>
   refine⟨vs,us,rfl,rfl,?_⟩
   unfold BY at he;split at he
   case h_2=>cases he
   rename_i uN l';simp only [Bool.and_eq_true,Bool.not_eq_true']at he;obtain⟨⟨ai,ay⟩,bg⟩:=he;have uQ:P.fieldsOf t=uN:=by simp [Program.fieldsOf,l']
   have CS:row.desc = .struct uN:=Option.some.inj (row.hd.symm.trans l')
   have o9:cu=uN.toList.map λf=>(f.offset,f.type,P.cellsOf f.type):=by
    have:=row.hk
    rw [CS]at this;simp [jq]at this;exact this.symm
   refine⟨?_,λop a b=>run_eqGuard_agg w op t a b _ _ ay⟩
   rw [run_equalIn_agg w 9999 t _ _ (by rw [uQ];exact l') ai,uQ]
   refine Yi b' 4 (d:=9994) (i:=0) (xs:=xs) (ys:=ys) bg (by rw [o9]at ak;exact ak) (λj v x bQ dh=>fl j v x (by simpa using bQ) dh) (λj v x bQ dh=>Yn j v x (by simpa using bQ) dh) (by omega) (by omega)
def Yo(h:Hyp P K N M β g tmps w p tt){op:BinOp}{t t2:TypeId}{x y:Operand}(ax:o.op = .binOp op t x y t2)(hs:step1 (gd P) tt ops g p o=some (.go f))(cv:∀q,q∈f.a6→q):Yields P K M β g f o tmps w:=by
 simp only [step1,ax]at hs;split at hs
 case h_3=>cases hs
 case h_1=>
  rename_i xs ys ha hb;have mI:=lp (dL (ds:=[]) h.bn h.dA ha);have ma:=lp (dL (ds:=[]) h.bn h.dA hb);split at hs
  case h_2=>cases hs
  rename_i cu fj iD z _ ah;rw [Bool.cond_eq_ite]at hs;split at hs
  case isFalse=>cases hs
  rename_i he;split at hs
  ·rename_i r ak;cases hs;obtain⟨vs,us,e1,e2,ab,ai⟩:=Lx (w:=w) (M:=M) h.tt ah he ak mI ma;exact eG h.bn (nG ax e1 e2 (ai _ _ _) (by rw [run_eql_struct,ab];rfl)) (.v _ _ (.bool _))
  ·rename_i r ak;cases hs;obtain⟨vs,us,e1,e2,ab,ai⟩:=Lx (w:=w) (M:=M) h.tt ah he ak mI ma;exact eG h.bn (nG ax e1 e2 (ai _ _ _) (by rw [run_neq_struct,ab];rfl)) (.v _ _ (.bool _))
  ·cases hs
 rename_i a b ha hb;simp only [Option.map_eq_some_iff]at hs;obtain⟨⟨z,a6⟩,ek,hs⟩:=hs;cases hs;have mI:=dL (ds:=[]) h.bn h.dA ha;have ma:=dL (ds:=[]) h.bn h.dA hb;unfold Kf at ek;split at ek
 ·rename_i c6 m ar n;have e1:=jZ mI;have e2:=jZ ma;split at ek
  ·rename_i z0 hsh;cases ek;obtain⟨v,aA,ak⟩:=XW (P:=P) (w:=w) (M:=M) (k':=ar) hsh cv t;exact eG h.bn (nG ax e1 e2 (qB (by simp) (by simp)) aA) (.v _ _ ak)
  rw [Bool.cond_eq_ite]at ek;split at ek
  case isFalse=>cases ek
  rename_i hk;simp only [decide_eq_true_eq]at hk;subst hk;obtain⟨v,aA,ak⟩:=XV (P:=P) (w:=w) (M:=M) ek cv t;exact eG h.bn (nG ax e1 e2 (qB (by simp) (by simp)) aA) (.v _ _ ak)
 ·have e1:=kp mI;have e2:=kp ma;obtain⟨v,aA,ak⟩:=XX (P:=P) (w:=w) (M:=M) ek cv t;exact eG h.bn (nG ax e1 e2 (qB (by simp) (by simp)) aA) (.v _ _ ak)
 ·rename_i cj ls;have e1:=qf mI;have e2:=qf ma;obtain⟨dep,hm⟩:∃d,Op.maxDepth=d+1:=⟨9999,rfl⟩;cases ah:look tt t with
  |none=>rw [ah]at ek;simp at ek
  |some aD=>
   rw [ah]at ek;obtain⟨r⟩:=d_ h.tt ah;split at ek<;>cases ek
   ·rename_i hk;simp at hk
    refine eG h.bn (v:=.bool (cj == ls)) (nG ax e1 e2 (qB (by simp) (by simp)) ?_) (.v _ _ (.bool _))
    simp only [binOp,Sem.run_bind];rw [Op.equal,hm,Op.equalIn];simp [r.run_underlying,CM r hk]
   ·rename_i hk;simp at hk
    refine eG h.bn (v:=.bool (!(cj == ls))) (nG ax e1 e2 (qB (by simp) (by simp)) ?_) (.v _ _ (.bool _))
    simp only [binOp,Sem.run_bind];rw [Op.equal,hm,Op.equalIn];simp [r.run_underlying,CM r hk]
 ·cases ah:look tt t with
  |none=>rw [ah]at ek;simp at ek
  |some aD=>
   rw [ah]at ek;simp only [Option.map_some]at ek;obtain⟨r⟩:=d_ h.tt ah;rw [Bool.cond_eq_ite]at ek;split at ek
   case isFalse=>cases ek
   rename_i hc;simp only [Bool.and_eq_true]at hc
   have Ly:(eqGuard op t x y ((⟨tmps,[]⟩:Act).eval x) ((⟨tmps,[]⟩:Act).eval y)).run P w = .ok () w:=by
    refine qB ?_ (λ_ _=>hc.2)
    rintro cs ds ⟨_,bO⟩
    rw [bO]at ma;have CT:=hc.1;unfold xw at CT;split at CT<;>first|(cases lp ma;done)|(cases CT;done)
   split at ek<;>cases ek
   ·rename_i res hn;obtain⟨ab,ai⟩:=Ln (w:=w) r mI ma hc.1 hn;refine eG h.bn (v:=.bool res) (nG ax rfl rfl Ly ?_) (.v _ _ (.bool _));rw [ai .eql];simp [ab]
   ·rename_i res hn;obtain⟨ab,ai⟩:=Ln (w:=w) r mI ma hc.1 hn;refine eG h.bn (v:=.bool (!res)) (nG ax rfl rfl Ly ?_) (.v _ _ (.bool _));rw [ai .neq];simp [ab]
def Yp(h:Hyp P K N M β g tmps w p tt){s:TypeId}{x:Operand}{i:Nat}(ax:o.op = .fieldAddr s x i)(hs:step1 cd tt ops g p o=some (.go f)):Yields P K M β g f o tmps w:=by
 simp only [step1,ax]at hs;split at hs
 ·rename_i q off cu fj iD z _ hd ah;obtain⟨r⟩:=d_ h.tt ah;split at hs
  case h_2=>cases hs
  rename_i cL gu sy bh;rw [Bool.cond_eq_ite]at hs;split at hs
  case isFalse=>cases hs
  rename_i hc;cases hs;obtain⟨b,hb,aA⟩:=l2 (dL (ds:=[]) h.bn h.dA hd);refine eG h.bn (v:=.pointer (some ⟨b,off+cL,none⟩)) ?_ (.ptr _ _ _ hb);simp only [execOp,ax,aA];exact hF _ (Kv r rfl bh (by simpa using hc) b off)
 ·rename_i cs cu fj iD z _ hd ah;obtain⟨r⟩:=d_ h.tt ah;split at hs
  case h_2=>cases hs
  rename_i cL gu sy bh;split at hs
  case h_2=>cases hs
  rename_i sj x8;rw [Bool.cond_eq_ite]at hs;split at hs
  case isFalse=>cases hs
  rename_i hc;simp only [Bool.and_eq_true,Nat.ble_eq]at hc;obtain⟨b,off,val,aA,cX,ab,ak⟩:=xJ (dL (ds:=[]) h.bn h.dA hd)
  have el:(execOp (Act.eval ⟨tmps,[]⟩) o).run P w = .ok (.value (.pointer (some ⟨b,off+cL,none⟩))) w:=by
   simp only [execOp,ax,aA];exact hF _ (Kv r rfl bh hc.1 b off)
  simp only [V.cells]at cX ab ak;rw [Bool.cond_eq_ite]at hs;split at hs
  ·cases hs;have hlen:((cs.drop cL).take sy).length=sy:=by simp;omega
   refine eG h.bn el (.eB b (off+cL) _ (λj=>val (cL+j)) (λj hj=>?_) (λj hj=>?_) (λj c hj=>?_))
   ·simp only [V.cells,hlen]at hj;rw [Nat.add_assoc];exact cX _ (by omega)
   ·simp only [V.cells,hlen]at hj;exact ab _ (by omega)
   ·simp only [V.cells]at hj;rw [List.getElem?_take]at hj;split at hj
    ·rw [List.getElem?_drop]at hj;exact ak _ c hj
    ·cases hj
  ·rw [Bool.cond_eq_ite]at hs;split at hs
   case isFalse=>cases hs
   rename_i dW;split at hs
   case h_2=>cases hs
   rename_i c im;rw [Bool.cond_eq_ite]at hs;split at hs
   ·cases hs
   ·rename_i Yq;cases hs;have j_:=si (x:=c) (by simpa using Yq)
    refine eG h.bn el (.eB b (off+cL) c (λj=>val (cL+j)) (λj hj=>?_) (λj hj=>?_) (λj gk hj=>?_))
    ·rw [j_]at hj;rw [Nat.add_assoc];exact cX _ (by have:=(List.getElem?_eq_some_iff.1 im).1;simp at hj;omega)
    ·rw [j_]at hj;exact ab _ (by have:=(List.getElem?_eq_some_iff.1 im).1;simp at hj;omega)
    ·rw [j_]at hj;cases j with
     |zero=>simp at hj;subst hj;exact ak _ _ im
     |succ j=>simp at hj
 ·cases hs
def Yr(h:Hyp P K N M β g tmps w p tt){s:TypeId}{x:Operand}{i:Nat}(ax:o.op = .field s x i)(hs:step1 cd tt ops g p o=some (.go f)):Yields P K M β g f o tmps w:=by
 simp only [step1,ax]at hs;split at hs
 case h_3=>cases hs
 case h_2=>
  rename_i cs cu fj iD z _ hd ah;obtain⟨r⟩:=d_ h.tt ah;split at hs
  case h_2=>cases hs
  rename_i cL gu sy bh;split at hs
  case h_2=>cases hs
  rename_i sj c x8 im;obtain⟨CU⟩:=d_ h.tt x8;rw [Bool.cond_eq_ite]at hs;split at hs
  ·cases hs
  rename_i hc;simp only [Bool.or_eq_true,not_or,Bool.not_eq_true,Bool.not_eq_true',Bool.not_eq_false,Nat.beq_eq]at hc;cases hs;have jR:=dL (ds:=[]) h.bn h.dA hd;generalize Ys:(⟨tmps,[]⟩:Act).eval x=gm at jR
  cases jR with
  |agg vs _ hn ab ak=>
   have cV:cL<cs.length:=(List.getElem?_eq_some_iff.1 im).1;have eg:vs[cL]? = some vs[cL]:=List.getElem?_eq_getElem (by omega)
   obtain⟨ha,hb⟩:=Kw (w:=w) r rfl bh CU vs (by omega)
   refine eG h.bn (v:=vs[cL]) ?_ (ak _ _ c eg im);simp only [execOp,ax,Ys];exact hF _ (hb hc.1.1 _ eg)
 rename_i cs cu fj iD z _ hd ah;obtain⟨r⟩:=d_ h.tt ah;split at hs
 case h_2=>cases hs
 rename_i cL gu sy bh;split at hs
 case h_2=>cases hs
 rename_i sj x8;obtain⟨CU⟩:=d_ h.tt x8;rw [Bool.cond_eq_ite]at hs;split at hs
 case isFalse=>cases hs
 rename_i hc;simp only [Nat.ble_eq]at hc;obtain⟨vs,aA,hlen,ab,ak⟩:=W1 (dL (ds:=[]) h.bn h.dA hd);obtain⟨ha,hb⟩:=Kw (w:=w) r rfl bh CU vs (by omega)
 rw [Bool.cond_eq_ite]at hs;split at hs
 ·rename_i gl;cases hs;refine eG h.bn (v:=.agg ⟨(vs.drop cL).take sy⟩) ?_ (.v _ _ (.agg _ _ (by simp;omega) (λv aA=>ab v (List.mem_of_mem_drop (List.mem_of_mem_take aA))) (λj v c aA il=>?_)))
  ·simp only [execOp,ax,aA];exact hF _ (ha gl)
  ·rw [List.getElem?_take]at aA il;split at aA
   ·rename_i hj;rw [if_pos hj,List.getElem?_drop]at il;rw [List.getElem?_drop]at aA;exact ak _ v c aA il
   ·cases aA
 ·rename_i gl;split at hs
  case h_2=>cases hs
  rename_i c im;cases hs;have cV:cL<cs.length:=(List.getElem?_eq_some_iff.1 im).1;have eg:vs[cL]? = some vs[cL]:=List.getElem?_eq_getElem (by omega)
  refine eG h.bn (v:=vs[cL]) ?_ (.v _ _ (ak _ _ c eg im));simp only [execOp,ax,aA];exact hF _ (hb (by simpa using gl) _ eg)
def Yt{x y:V}(aA:f0 x y){k b off:Nat}{val:Nat→Value}(hk:x.cells.length=k)(cX:∀q,q<k→M b (off+q)=some (val q))(ab:∀q,q<k→(val q).oneCell'=true)
 (ak:∀(q:Nat) c,x.cells[q]? = some c→dc M (val q) c):co M β (.pointer (some ⟨b,off,none⟩)) (.eB y):=by
 subst hk;have b_:=aA M _ (Ku ab ak);cases hx:x.isAgg with
 |true=>
  rw [hx]at b_;simp only [cond_true]at b_;cases b_ with
  |agg vs cs hn kK eD=>
   have hlen:cs.length=x.cells.length:=by simpa using hn.symm
   refine .eB b off _ val (λj hj=>cX j (by simp only [V.cells]at hj;omega)) (λj hj=>ab j (by simp only [V.cells]at hj;omega)) (λj c hj=>?_)
   simp only [V.cells]at hj;have qv:j<x.cells.length:=by have:=(List.getElem?_eq_some_iff.1 hj).1;omega
   exact eD j (val j) c (by simp [qv]) hj
  |any _ kK=>simp [Value.oneCell']at kK
 |false=>
  rw [hx]at b_;simp only [cond_false]at b_;have sz:=si hx;have fP:=ab 0 (by rw [sz];simp)
  have Yu:y.isAgg=false:=by
   cases y<;>first|rfl|skip
   exfalso
   generalize val 0=u at b_ fP
   cases b_;simp [Value.oneCell']at fP
  have CV:=si Yu;refine .eB b off y val (λj hj=>cX j (by rw [sz];rw [CV]at hj;exact hj)) (λj hj=>ab j (by rw [sz];rw [CV]at hj;exact hj)) (λj c hj=>?_)
  rw [CV]at hj;cases j with
  |zero=>simp at hj;subst hj;exact b_
  |succ j=>simp at hj
def Yv(h:Hyp P K N M β g tmps w p tt){t:TypeId}{x i:Operand}(ax:o.op = .indexAddr t x i)(hs:step1 cd tt ops g p o=some (.go f))(cv:∀q,q∈f.a6→q):Yields P K M β g f o tmps w:=by
 simp only [step1,ax]at hs;split at hs
 case h_2=>cases hs
 rename_i k n get kk j e fj iD z _ hx hi ah;obtain⟨r⟩:=d_ h.tt ah;split at hs
 case h_2=>cases hs
 rename_i ar size Lo z2 eE;obtain⟨dE⟩:=d_ h.tt eE;rw [Bool.cond_eq_ite]at hs;split at hs
 case isFalse=>cases hs
 rename_i hc;simp only [Bool.and_eq_true,Nat.beq_eq,Nat.ble_eq]at hc;obtain⟨rfl,aic⟩:=hc
 have qC:∃(y:V) (rs:List eR) (a6:List Prop),f={e:=some {d:=.eB y},rs,a6}∧f0 (get j.toNat) y∧aP j n=true:=by
  split at hs
  ·rename_i y rs eh;cases hs;exact⟨_,_,_,rfl,cv _ (by simp),cv (aP j n=true) (by simp)⟩
  ·cases hs;exact⟨_,_,_,rfl,λ_ _ h=>h,cv (aP j n=true) (by simp)⟩
  ·cases hs
 obtain⟨y,rs,a6,rfl,cS,e6⟩:=qC;have e6:=Li e6;have CW:=jZ (dL (ds:=[]) h.bn h.dA hi);rcases o7 (dL (ds:=[]) h.bn h.dA hx) with⟨_,so⟩|⟨b,off,cap,val,aA,_,hk,cX,ab,ak⟩
 ·omega
 ·have cV:j.toNat<n:=by omega
  have b_:co M β (.pointer (some ⟨b,off+j.toNat*k,none⟩)) (.eB y):=
   Yt cS (hk _ cV) (λq aR=>cX _ q cV aR) (λq aR=>ab _ q cV aR) (λq c aR=>ak _ q c cV aR)
  refine eG h.bn (v:=.pointer (some ⟨b,off+j.toNat*k,none⟩)) ?_ b_;simp only [execOp,ax,aA,CW];exact hF _ (W5 r rfl dE e6.1 e6.2)
def Yw(h:Hyp P K N M β g tmps w p tt){t:TypeId}{x i:Operand}(ax:o.op = .index t x i)(hs:step1 cd tt ops g p o=some (.go f))(cv:∀q,q∈f.a6→q):Yields P K M β g f o tmps w:=by
 simp only [step1,ax]at hs;split at hs
 case h_2=>cases hs
 rename_i l kk j fj iD z _ hx hi ah;obtain⟨r⟩:=d_ h.tt ah;cases hs;have hb:=Li (cv (aP j l.length=true) (by simp))
 have ex:=kp (dL (ds:=[]) h.bn h.dA hx);have CW:=jZ (dL (ds:=[]) h.bn h.dA hi);refine eG h.bn (v:=.int .u8 (l.getD j.toNat 0).toNat) ?_ (.v _ _ (.int _ _));simp only [execOp,ax,ex,CW];exact hF _ (W6 r rfl hb.1 hb.2)
def Yx{k n m:Nat}{get:Nat→V}{a:Nat}{b off cap:Nat}
 {val:Nat→Nat→Value} (hk:∀i,i<n→(get i).cells.length=k) (cX:∀i j,i<n→j<k→M b (off+i*k+j)=some (val i j)) (ab:∀i j,i<n→j<k→(val i j).oneCell'=true)
 (ak:∀(i j:Nat) c,i<n→(get i).cells[j]? = some c→dc M (val i j) c) (hm:a+m≤n) (hc:m≤cap):
 dc M (.slice (some ⟨b,off+a*k,none⟩) m cap) (.bC k m λi=>get (a+i)):=by
 refine .bC b (off+a*k) k m cap _ (λi j=>val (a+i) j) hc (λi hi=>hk _ (by omega)) (λi j hi hj=>?_) (λi j hi hj=>ab _ _ (by omega) hj) (λi j c hi j_=>ak _ _ _ (by omega) j_)
 have:=cX (a+i) j (by omega) hj
 rw [Nat.add_mul]at this
 rwa [show off+a*k+i*k+j=off+(a*k+i*k)+j by omega]
def x9{t e:TypeId}{aD cg:ef}(r:Row P t aD)(hk:aD.k = .bC e)(dE:Row P e cg){base:Option Addr}{n cap:Nat}{lo hi:Option Value}{a b:Nat}
 (ip:lo=none∧a=0∨∃k,lo=some (.int k a)) (hR:hi=none∧b=n∨∃k,hi=some (.int k b)) (kQ:a≤b) (nI:b≤n) (kr:n≤cap):
 (Instr.sliceAt t (.slice base n cap) lo hi none).run P w = .ok (.slice (if cap=a then base else base.map (·.add (a*cg.size))) (b-a) (cap-a)) w:=by
 have hu:=r.run_underlying w;rw [mD r hk]at hu;have x':b≤cap:=by omega
 rcases ip with⟨rfl,rfl⟩|⟨c6,rfl⟩<;>rcases hR with⟨rfl,rfl⟩|⟨ar,rfl⟩
 ·simp [Instr.sliceAt,hu,Instr.slice,Instr.sliceBounds,dE.run_sizeOf]
 ·simp [Instr.sliceAt,hu,Instr.slice,Instr.sliceBounds,Instr.sliceBound,asIntOf,dE.run_sizeOf,x']
 ·simp [Instr.sliceAt,hu,Instr.slice,Instr.sliceBounds,Instr.sliceBound,asIntOf,dE.run_sizeOf,kQ]
 ·simp [Instr.sliceAt,hu,Instr.slice,Instr.sliceBounds,Instr.sliceBound,asIntOf,dE.run_sizeOf,x',kQ]
end
section
variable {P:Program} {K:Ctx} {N:Nat} {M:Mem} {β:Nat→Option Nat} {st:aF} {g:db} {tmps:Array Value} {w:World} {o:Oper} {f:jl} {p:Path} {tt:dr} {cd:fN} {ops:List Oper}
def om{t:TypeId}{x:Operand}{lo hi lX:Option Operand}(ax:o.op = .slice t x lo hi lX){v u:Value}(hx:(⟨tmps,[]⟩:Act).eval x=v){a b:Option Value}(ha:lo.map (⟨tmps,[]⟩:Act).eval=a)(hb:hi.map (⟨tmps,[]⟩:Act).eval=b){c:Option Value}(hm:lX.map (⟨tmps,[]⟩:Act).eval=c)
 (h:(Instr.sliceAt t v a b c).run P w = .ok u w):(execOp (Act.eval ⟨tmps,[]⟩) o).run P w = .ok (.value u) w:=by
 simp only [execOp,ax,hx,ha,hb,hm];exact hF _ h
def x_{t:TypeId}{aD:ef}(r:Row P t aD)(hk:aD.k = .str){l:ajK}{lo hi:Option Value}{a b:Nat}
 (ip:lo=none∧a=0∨∃k,lo=some (.int k a)) (hR:hi=none∧b=l.length∨∃k,hi=some (.int k b)) (kQ:a≤b) (nI:b≤l.length):
 (Instr.sliceAt t (.string ⟨⟨l⟩⟩) lo hi none).run P w = .ok (.string ⟨⟨(l.take b).drop a⟩⟩) w:=by
 have hu:=r.run_underlying w;rw [nu r hk]at hu;have hs:(⟨⟨l⟩⟩:ByteArray).size=l.length:=rfl
 have hx:(⟨⟨l⟩⟩:ByteArray).extract a b=⟨⟨(l.take b).drop a⟩⟩:=by
  have:=ByteArray.extract_mk l a b
  rw [List.drop_take];exact this
 rcases ip with⟨rfl,rfl⟩|⟨c6,rfl⟩<;>rcases hR with⟨rfl,rfl⟩|⟨ar,rfl⟩
 ·simp [Instr.sliceAt,hu,Instr.slice,Instr.sliceBounds]
 ·simp [Instr.sliceAt,hu,Instr.slice,Instr.sliceBounds,Instr.sliceBound,asIntOf,nI,hs,hx]
 ·simp [Instr.sliceAt,hu,Instr.slice,Instr.sliceBounds,Instr.sliceBound,asIntOf,kQ,hs,hx]
 ·simp [Instr.sliceAt,hu,Instr.slice,Instr.sliceBounds,Instr.sliceBound,asIntOf,nI,kQ,hs,hx]
def uR{v:Value}{k n:Nat}{get:Nat→V}(aA:co M β v (.v (.bC k n get))){a b:Nat}(kQ:a≤b)(nI:b≤n){base:Option Addr}{cap:Nat}(qD:v = .slice base n cap)(kr:n≤cap):
 dc M (.slice (if cap=a then base else base.map (·.add (a*k))) (b-a) (cap-a)) (.bC k (b-a) λi=>get (a+i)):=by
 rcases o7 aA with⟨ab|⟨a0,ab⟩,ai⟩|⟨l9,off,K3,val,ab,hc,hk,cX,kK,ak⟩
 ·rw [qD]at ab;cases ab;have:b=0:=by omega
  subst this;have:a=0:=by omega
  subst this;exact .jK _ _
 ·rw [qD]at ab;cases ab;have:b=0:=by omega
  subst this;have:a=0:=by omega
  subst this;exact .lU _ _ _
 ·rw [qD]at ab;cases ab;by_cases Lz:cap=a
  ·rw [if_pos Lz];have:b-a=0:=by omega
   rw [this];exact .bC l9 off k 0 _ _ (λ_ _=>undef) (Nat.zero_le _) (by simp) (by simp) (by simp) (by simp)
  ·rw [if_neg Lz];simp only [Option.map_some,addr_add];exact Yx hk cX kK ak (by omega) (by omega)
def Yy(h:Hyp P K N M β g tmps w p tt){t:TypeId}{x:Operand}{lo hi lX:Option Operand}(ax:o.op = .slice t x lo hi lX)(hs:step1 cd tt ops g p o=some (.go f))(cv:∀q,q∈f.a6→q):Yields P K M β g f o tmps w:=by
 have fc:∀{y:Option Operand} {kk:IntKind} {n:Int},y.map (λy=>rd g.env g.bV p tt o.type y)=some (some (.v (.int kk n)))→y.map (⟨tmps,[]⟩:Act).eval=some (.int kk n):=by
  intro y kk n b_;cases y with
  |none=>simp at b_
  |some y=>
   simp at b_
   simp [jZ (dL (ds:=[]) h.bn h.dA b_)]
 have ph:∀{y:Option Operand},y.map (λy=>rd g.env g.bV p tt o.type y)=none→y.map (⟨tmps,[]⟩:Act).eval=none:=by
  intro y b_;simp at b_;simp [b_]
 simp only [step1,ax]at hs;split at hs
 ·rename_i fj iD z _ ah;obtain⟨r⟩:=d_ h.tt ah;split at hs
  ·rename_i l hx ip hR;cases hs;have ex:=kp (dL (ds:=[]) h.bn h.dA hx);have:=x_ (w:=w) r rfl (l:=l) (lo:=none) (hi:=none) (a:=0) (b:=l.length) (.inl ⟨rfl,rfl⟩) (.inl ⟨rfl,rfl⟩) (by omega) (by omega)
   simp at this
   exact eG h.bn (om ax ex (ph ip) (ph hR) rfl this) (.v _ _ (.str _))
  ·rename_i l c6 a hx ip hR;cases hs;have ex:=kp (dL (ds:=[]) h.bn h.dA hx);have hb:=oj (cv (gb a l.length=true) (by simp))
   obtain⟨dF,rfl⟩:=Int.eq_ofNat_of_zero_le hb.1;have:=x_ (w:=w) r rfl (l:=l) (lo:=some (.int c6 dF)) (hi:=none) (a:=dF) (b:=l.length) (.inr ⟨_,rfl⟩) (.inl ⟨rfl,rfl⟩) (by omega) (by omega)
   simp at this
   exact eG h.bn (om ax ex (fc ip) (ph hR) rfl this) (.v _ _ (.str _))
  ·rename_i l ar b hx ip hR;cases hs;have ex:=kp (dL (ds:=[]) h.bn h.dA hx);have hb:=oj (cv (gb b l.length=true) (by simp))
   obtain⟨bM,rfl⟩:=Int.eq_ofNat_of_zero_le hb.1;have:=x_ (w:=w) r rfl (l:=l) (lo:=none) (hi:=some (.int ar bM)) (a:=0) (b:=bM) (.inl ⟨rfl,rfl⟩) (.inr ⟨_,rfl⟩) (by omega) (by omega)
   simp at this
   exact eG h.bn (om ax ex (ph ip) (fc hR) rfl this) (.v _ _ (.str _))
  ·rename_i l c6 a ar b hx ip hR;cases hs;have ex:=kp (dL (ds:=[]) h.bn h.dA hx);have hb:=Lk (cv (np a b l.length=true) (by simp))
   obtain⟨dF,rfl⟩:=Int.eq_ofNat_of_zero_le hb.1;obtain⟨bM,rfl⟩:=Int.eq_ofNat_of_zero_le (a:=b) (by omega)
   have:=x_ (w:=w) r rfl (l:=l) (lo:=some (.int c6 dF)) (hi:=some (.int ar bM)) (a:=dF) (b:=bM) (.inr ⟨_,rfl⟩) (.inr ⟨_,rfl⟩) (by omega) (by omega)
   exact eG h.bn (om ax ex (fc ip) (fc hR) rfl this) (.v _ _ (.str _))
  ·cases hs
 ·rename_i e fj iD z _ ah;obtain⟨r⟩:=d_ h.tt ah;split at hs
  ·rename_i c6 size uS i8 k n get ar a eE hx ip hR;obtain⟨dE⟩:=d_ h.tt eE;rw [Bool.cond_eq_ite]at hs;split at hs
   case isFalse=>cases hs
   rename_i gy;simp only [Nat.beq_eq]at gy;subst gy
   have qC:∃(y:V) (rs:List eR) (a6:List Prop),f={e:=some {d:=.v y},rs,a6}∧f0 (.bC k (n-a.toNat) λi=>get (a.toNat+i)) y∧gb a n=true:=by
    split at hs
    ·rename_i y rs eh;cases hs;exact⟨_,_,_,rfl,cv _ (by simp),cv (gb a n=true) (by simp)⟩
    ·cases hs;exact⟨_,_,_,rfl,λ_ _ h=>h,cv (gb a n=true) (by simp)⟩
    ·cases hs
   obtain⟨y,rs,a6,rfl,aA,hb⟩:=qC;have hb:=oj hb;obtain⟨dF,rfl⟩:=Int.eq_ofNat_of_zero_le hb.1;have js:=dL (ds:=[]) h.bn h.dA hx;obtain⟨base,cap,ex,kr⟩:=qg js;have:=x9 (w:=w) r rfl dE (base:=base) (n:=n) (cap:=cap) (lo:=some (.int ar dF)) (hi:=none) (a:=dF) (b:=n) (.inr ⟨_,rfl⟩) (.inl ⟨rfl,rfl⟩) (by omega) (by omega) kr
   refine eG h.bn (om ax ex (fc ip) (ph hR) rfl this) (.v _ _ (aA _ _ ?_));have:=uR js (a:=dF) (b:=n) (by omega) (by omega) ex kr
   simpa using this
  ·rename_i c6 size uS i8 k n get ar b eE hx ip hR;obtain⟨dE⟩:=d_ h.tt eE;rw [Bool.cond_eq_ite]at hs;split at hs
   case isFalse=>cases hs
   rename_i gy;simp only [Nat.beq_eq]at gy;subst gy
   have qC:∃(y:V) (rs:List eR) (a6:List Prop),f={e:=some {d:=.v y},rs,a6}∧f0 (.bC k b.toNat get) y∧gb b n=true:=by
    split at hs
    ·rename_i y rs eh;cases hs;exact⟨_,_,_,rfl,cv _ (by simp),cv (gb b n=true) (by simp)⟩
    ·cases hs;exact⟨_,_,_,rfl,λ_ _ h=>h,cv (gb b n=true) (by simp)⟩
    ·cases hs
   obtain⟨y,rs,a6,rfl,aA,hb⟩:=qC;have hb:=oj hb;obtain⟨bM,rfl⟩:=Int.eq_ofNat_of_zero_le hb.1;have js:=dL (ds:=[]) h.bn h.dA hx;obtain⟨base,cap,ex,kr⟩:=qg js;have:=x9 (w:=w) r rfl dE (base:=base) (n:=n) (cap:=cap) (lo:=none) (hi:=some (.int ar bM)) (a:=0) (b:=bM) (.inl ⟨rfl,rfl⟩) (.inr ⟨_,rfl⟩) (by omega) (by omega) kr
   refine eG h.bn (om ax ex (ph ip) (fc hR) rfl this) (.v _ _ (aA _ _ ?_));have:=uR js (a:=0) (b:=bM) (by omega) (by omega) ex kr
   simpa using this
  ·rename_i c6 size uS i8 k n get ar a eS b eE hx ip hR;obtain⟨dE⟩:=d_ h.tt eE;rw [Bool.cond_eq_ite]at hs;split at hs
   case isFalse=>cases hs
   rename_i gy;simp only [Nat.beq_eq]at gy;subst gy
   have qC:∃(y:V) (rs:List eR) (a6:List Prop),f={e:=some {d:=.v y},rs,a6}∧f0 (.bC k (b.toNat-a.toNat) λi=>get (a.toNat+i)) y∧np a b n=true:=by
    split at hs
    ·rename_i y rs eh;cases hs;exact⟨_,_,_,rfl,cv _ (by simp),cv (np a b n=true) (by simp)⟩
    ·cases hs;exact⟨_,_,_,rfl,λ_ _ h=>h,cv (np a b n=true) (by simp)⟩
    ·cases hs
   obtain⟨y,rs,a6,rfl,aA,hb⟩:=qC;have hb:=Lk hb;obtain⟨dF,rfl⟩:=Int.eq_ofNat_of_zero_le hb.1;obtain⟨bM,rfl⟩:=Int.eq_ofNat_of_zero_le (a:=b) (by omega)
   have js:=dL (ds:=[]) h.bn h.dA hx;obtain⟨base,cap,ex,kr⟩:=qg js;have:=x9 (w:=w) r rfl dE (base:=base) (n:=n) (cap:=cap) (lo:=some (.int ar dF)) (hi:=some (.int eS bM)) (a:=dF) (b:=bM) (.inr ⟨_,rfl⟩) (.inr ⟨_,rfl⟩) (by omega) (by omega) kr
   refine eG h.bn (om ax ex (fc ip) (fc hR) rfl this) (.v _ _ (aA _ _ ?_));have:=uR js (a:=dF) (b:=bM) (by omega) (by omega) ex kr
   simpa using this
  ·rename_i c6 size uS i8 k n get eE hx ip hR;obtain⟨dE⟩:=d_ h.tt eE;rw [Bool.cond_eq_ite]at hs;split at hs
   case isFalse=>cases hs
   rename_i gy;simp only [Nat.beq_eq]at gy;subst gy;cases hs;have js:=dL (ds:=[]) h.bn h.dA hx;obtain⟨base,cap,ex,kr⟩:=qg js;have:=x9 (w:=w) r rfl dE (base:=base) (n:=n) (cap:=cap) (lo:=none) (hi:=none) (a:=0) (b:=n) (.inl ⟨rfl,rfl⟩) (.inl ⟨rfl,rfl⟩) (by omega) (by omega) kr
   refine eG h.bn (om ax ex (ph ip) (ph hR) rfl this) (.v _ _ ?_);have:=uR js (a:=0) (b:=n) (by omega) (by omega) ex kr
   simpa using this
  ·cases hs
 ·rename_i m e fj iD z _ ah;obtain⟨r⟩:=d_ h.tt ah;split at hs
  case h_2=>cases hs
  rename_i size uS i8 k n get ar b eS c eE hx hR hm;obtain⟨dE⟩:=d_ h.tt eE;rw [Bool.cond_eq_ite]at hs;split at hs
  case isFalse=>cases hs
  rename_i gy;simp only [Nat.beq_eq]at gy;subst gy;cases hs;have x':=cv (b=c) (by simp)
  subst x';have hb:=oj (cv (gb b n=true) (by simp))
  obtain⟨bM,rfl⟩:=Int.eq_ofNat_of_zero_le hb.1;have js:=dL (ds:=[]) h.bn h.dA hx;obtain⟨base,cap,ex,kr⟩:=qg js;have nI:bM≤n:=by omega
  have hu:=r.run_underlying w;rw [mD r rfl]at hu
  have el:(Instr.sliceAt t (.slice base n cap) none (some (.int ar bM)) (some (.int eS bM))).run P w = .ok (.slice (if bM=0 then base else base.map (·.add (0*k))) bM bM) w:=by
   have ab:bM≤cap:=by omega
   simp [Instr.sliceAt,hu,Instr.slice,Instr.sliceBounds,Instr.sliceBound,asIntOf,dE.run_sizeOf,ab]
  have Yz:(if bM=0 then base else base.map (·.add (0*k)))=base:=by
   split
   ·rfl
   ·cases base with
    |none=>rfl
    |some a=>simp [Addr.add]
  rw [Yz]at el;have em:(some m).map (⟨tmps,[]⟩:Act).eval=some (.int eS bM):=fc (y:=some m) hm;refine eG h.bn (om ax ex rfl (fc hR) em el) (.full base k _ get ?_);have LA:=uR js (a:=0) (b:=bM) (by omega) nI ex kr
  simp only [Nat.sub_zero]at LA ⊢;have LB:dc M (.slice (if cap=0 then base else base.map (·.add (0*k))) bM cap) (.bC k bM get):=by simpa using LA
  have e6:(if cap=0 then base else base.map (·.add (0*k)))=base:=by
   split
   ·rfl
   ·cases base with
    |none=>rfl
    |some a=>simp [Addr.add]
  rw [e6]at LB;cases LB with
  |jK=>exact .jK _ _
  |lU a=>exact .lU _ _ _
  |bC p6 off k n cap get val hc hk cX ab h=>exact .bC p6 off k _ _ get val (Nat.le_refl _) hk cX ab h
 ·cases hs
def LC{c:Call}(ax:o.op = .call c)(hc:c.callee = .builtin .len){a:Operand}(fz:c.args.toList=[a]){t:TypeId}(fY:c.argTypes.toList[0]? = some t){gm v:Value}(ha:(⟨tmps,[]⟩:Act).eval a=gm)
 (h:∀ty,(Builtin.len_ #[t] ty #[gm]).run P w = .ok v w):(execOp (Act.eval ⟨tmps,[]⟩) o).run P w = .ok (.value v) w:=by
 have qp:c.args = #[a]:=by apply Array.ext';simpa using fz
 have Cu:∀ty,(Builtin.len_ c.argTypes ty #[gm]).run P w = .ok v w:=by
  intro ty;have h0:c.argTypes[0]? = some t:=by simpa using fY
  have:=h ty
  simp only [Builtin.len_,h0]at this ⊢;exact this
 simp only [execOp,ax,resolve,hc,qp,Sem.run_bind,Sem.run_pure,Result.andThen_ok,invoke,builtin,List.map_toArray,List.map_cons,List.map_nil,ha];simp [Cu]
def LD{F:Nat→Option Nat}{l cz:List D}(h:jm F l=some cz):cz.length=l.length:=(r' h).1.symm
def YA {c : Call} (ax : o.op = .call c) {x : Operand} (hc : c.callee = .value x) {fn : FuncId} {vs : List Value} (hx : (⟨tmps, []⟩ : Act).eval x = .func (.func fn) #[] ⟨vs⟩) {fd : Func} (bh : P.funcs[fn]? = some fd) (hb : fd.body.isSome = true) (hn : fd.name ≠ "runtime.NumGoroutine") :
 (execOp (Act.eval ⟨tmps,[]⟩) o).run P w = .ok (.enter fn ⟨c.args.toList.map (⟨tmps,[]⟩:Act).eval++vs⟩) w:=by
 have nI:fd.body≠none:=by intro bz;rw [bz]at hb;cases hb
 simp [execOp,ax,resolve,hc,hx,Deferred.ofValue,invoke,callFunc,bh,nI,hn]
def LE{F:TypeId→Operand→Option D}:∀{xs:List Operand} {ts:List TypeId} {ds:List D},jJ F xs ts=some ds→ds.length=xs.length∧∀(i:Nat) x d,xs[i]? = some x→ds[i]? = some d→∃t,F t x=some d
 |[],ts,ds,h=>by simp [jJ]at h;subst h;simp
 |x::xs,[],ds,h=>by simp [jJ]at h
 |x::xs,t::ts,ds,h=>by
  simp only [jJ]at h;split at h
  case h_2=>cases h
  rename_i d YB hd gw;cases h;obtain⟨ab,ai⟩:=LE gw;refine⟨by simp [ab],λi y e b_ he=>?_⟩
  cases i with
  |zero=>simp at b_ he;subst b_;subst he;exact⟨t,hd⟩
  |succ i=>simp at b_ he;exact ai i y e b_ he
mutual
def LF{ρ:List Nat}:∀(d:D) {dT:D},ec (idx ρ) d=some dT→ec (λj=>ρ[j]?) dT=some d
 |.v x,dT,h=>by simp [ec]at h;subst h;simp [ec]
 |.ptr r off,dT,h=>by
  simp only [ec,Option.map_eq_some_iff]at h;obtain⟨j,hj,rfl⟩:=h;simp [ec,xX hj]
 |.cn r off u,dT,h=>by
  simp only [ec,Option.map_eq_some_iff]at h;obtain⟨j,hj,rfl⟩:=h;simp [ec,xX hj]
 |.eB x,dT,h=>by simp [ec]at h;subst h;simp [ec]
 |.full k n get,dT,h=>by simp [ec]at h;subst h;simp [ec]
 |.fn g eK,dT,h=>by
  simp only [ec,Option.map_eq_some_iff]at h;obtain⟨l,ah,rfl⟩:=h;simp [ec,ya eK ah]
 |.agg cs,dT,h=>by
  simp only [ec,Option.map_eq_some_iff]at h;obtain⟨l,ah,rfl⟩:=h;simp [ec,ya cs ah]
 |.cf cs,dT,h=>by
  simp only [ec,Option.map_eq_some_iff]at h;obtain⟨l,ah,rfl⟩:=h;simp [ec,ya cs ah]
def ya{ρ:List Nat}:∀(l:List D) {cz:List D},jm (idx ρ) l=some cz→jm (λj=>ρ[j]?) cz=some l
 |[],cz,h=>by simp [jm]at h;subst h;simp [jm]
 |d::l,cz,h=>by
  simp only [jm]at h;split at h
  case h_2=>cases h
  rename_i d1 hl hd ah;cases h;simp [jm,LF d hd,ya l ah]
end
def LG{ρ:List Nat}:∀{b bM:List aS},kI (idx ρ) b=some bM→kI (λj=>ρ[j]?) bM=some b
 |[],bM,h=>by simp [kI]at h;subst h;simp [kI]
 |e::l,bM,h=>by
  simp only [kI]at h;split at h
  case h_2=>cases h
  rename_i e1 hl he ah;cases h;simp only [xx,Option.map_eq_some_iff]at he;obtain⟨d,hd,rfl⟩:=he;simp [kI,xx,LF _ hd,LG ah]
def LH{ρ:List Nat}:∀{bs mH:List (List aS)},ih (idx ρ) bs=some mH→ih (λj=>ρ[j]?) mH=some bs
 |[],mH,h=>by simp [ih]at h;subst h;simp [ih]
 |b::l,mH,h=>by
  simp only [ih]at h;split at h
  case h_2=>cases h
  rename_i cj hl hb ah;cases h;simp [ih,LG hb,LH ah]
def YC{st:aF}(h:bE P K M β st tmps w){ρ:List Nat}{bs H1:List (List aS)}(hn:kJ ρ=true)(i7:boxes st.H ρ=some bs)(ka:ih (idx ρ) bs=some H1)
 {os:List Nat} {out:Out} {v:Value} {w':World} {M':Mem} {β':Nat→Option Nat} (hI:bE P (iG M β st tmps w ρ os) M' β' {env:=gv out,H:=cQ 0 H1,aU:=ρ.length} #[v] w'):
 M.le M'∧bE P K M' β {st with env:=fV os st.env} tmps w'∧
 (∀d own,out = .ret d own→∀dT,ec (λj=>ρ[j]?) d=some dT→co M' β v dT∧∀T l0,own=some T→km P K M' β {st with env:=fV os st.env} tmps w' l0 v T)∧
 (∀x,out = .be x→dc M' v x):=by
 obtain⟨cS,e6⟩:=qt i7;have fg:H1.length=ρ.length:=by rw [(sr ka).1,cS]
 obtain⟨ab,ai,ay,bg⟩:=CH h hn i7 (LH ka) fg hI
 have iH:∀r,look (jn ρ bs++st.H) r=look st.H r:=by
  intro r;obtain⟨bQ,dh⟩:=CA (H:=st.H) (ρ:=ρ) (bs:=bs) cS hn r;by_cases hj:∃(j:Nat),ρ[j]? = some r
  ·obtain⟨j,hj⟩:=hj;rw [bQ j hj,(e6 j r hj).1]
  ·exact dh λj bz=>hj ⟨j,bz⟩
 have eM:∀l,({env:=fV os st.env,H:=jn ρ bs++st.H,aU:=st.aU}:aF).at l=({st with env:=fV os st.env}:aF).at l:=by
  intro l;cases l with
  |slot s=>rfl
  |cell r i=>simp only [aF.at,iH]
 refine⟨ab,ai.sub rfl (λl e ah=>⟨e,by rw [eM];exact ah,rfl,λ_ h=>h⟩) (λr cs ak=>⟨cs,by rw [←ak];exact iH r,rfl⟩),λd own hd dT iB=>?_,bg⟩
 obtain⟨bQ,dh⟩:=ay d own hd dT iB;refine⟨bQ,λT l0 aN=>?_⟩
 obtain⟨e5,gH,sl⟩:=dh T l0 aN;exact⟨e5,λl e T' b ah=>gH l e T' b (by rw [eM];exact ah),λb r cs hb ak=>sl b r cs hb (by rw [←ak];exact iH r)⟩
def LI(P:Program)(K:Ctx)(M:Mem)(β:Nat→Option Nat)(g:db)(s:lk)(o:Oper)(tmps:Array Value)(w:World):Prop:=
 match s with
 |.go f=>(∀q,q∈f.a6→q)→Yields P K M β g f o tmps w
 |.be x hs a6=>(∀q,q∈a6→q)→XU P K M β g x hs o tmps w
def LJ{os:List Nat}{env:List (Nat×aS)}{s:Nat}{e:aS}(h:look env s=some e):∃bP,look (fV os env) s=some bP∧bP.d=e.d:=by
 rw [kM,h];split
 ·exact⟨_,rfl,rfl⟩
 ·exact⟨_,rfl,rfl⟩
def CX{g:db}(h:eZ P K N M β g tmps w){xs:List Operand}{ts:List TypeId}:∀{os:List Nat} {hd:List (Nat×Option Nat×TypeId)},handed tt g xs ts os=some hd→∀{vs:List Value},
 (∀(i:Nat) t,xs[i]? = some (.tmp t)→vs[i]? = some (tmps.getD t undef))→(∀(i:Nat),xs[i]? = some (.const (.slice none 0 0))→vs[i]? = some (.slice none 0 0))→
 Handed {env:=g.env,H:=g.H,aU:=g.aU} tmps vs hd
 |[],hd,bz,vs,_,_=>by
  simp [handed]at bz;subst bz;exact⟨by simp,by simp,by simp⟩
 |i::os,hd,bz,vs,ab,ai=>by
  simp only [handed]at bz;split at bz
  ·rename_i t l hx ah;have bv:=CX h ah ab ai;split at bz
   case h_2=>cases bz
   rename_i d e he;rw [Bool.cond_eq_ite]at bz;split at bz
   case isFalse=>cases bz
   rename_i hc;simp only [Bool.and_eq_true,List.all_eq_true,Bool.not_eq_true']at hc;cases bz;refine⟨λkn h4 T hm=>?_,λkn T hm=>?_,λkn qw h4 T T' hm iq=>?_⟩
   ·rcases List.mem_cons.1 hm with hm|hm
    ·cases hm;exact⟨_,he,rfl,ab i t hx⟩
    ·exact bv.some kn h4 T hm
   ·rcases List.mem_cons.1 hm with hm|hm
    ·cases hm
    ·exact bv.none kn T hm
   ·rcases List.mem_cons.1 hm with hm|hm<;>rcases List.mem_cons.1 iq with iq|iq
    ·cases hm;cases iq;rfl
    ·cases hm;have:=(hc.2 _ iq).1
     simp at this
    ·cases iq;have:=(hc.2 _ hm).1
     simp at this
    ·exact bv.inj kn qw h4 T T' hm iq
  ·rename_i l hx ah;have bv:=CX h ah ab ai;split at bz
   case h_2=>cases bz
   rename_i e fj iD z _ he;rw [Bool.cond_eq_ite]at bz;split at bz
   case isFalse=>cases bz
   cases bz;refine⟨λkn h4 T hm=>?_,λkn T hm=>?_,λkn qw h4 T T' hm iq=>?_⟩
   ·rcases List.mem_cons.1 hm with hm|hm
    ·cases hm
    ·exact bv.some kn h4 T hm
   ·rcases List.mem_cons.1 hm with hm|hm
    ·cases hm;exact ai i hx
    ·exact bv.none kn T hm
   ·rcases List.mem_cons.1 hm with hm|hm<;>rcases List.mem_cons.1 iq with iq|iq
    ·cases hm
    ·cases hm
    ·cases iq
    ·exact bv.inj kn qw h4 T T' hm iq
  ·cases bz
def YD(h:Hyp P K N M β g tmps w p tt){c:Call}(ax:o.op = .call c){x:Operand}(hc:c.callee = .value x){fn:FuncId}{eK ds:List D}(hx:rd g.env g.bV p tt o.type x=some (.fn fn eK))
 (gw:jJ (rd g.env g.bV p tt) c.args.toList c.argTypes.toList=some ds) {s:lk} (hs:r6 (gd P) tt g p c.args.toList c.argTypes.toList fn (ds++eK)=some s):
 LI P K M β g s o tmps w:=by
 obtain⟨vs,aA,hlen,ak⟩:=Kt (dL (ds:=[]) h.bn h.dA hx);obtain⟨fO,i6⟩:=LE gw
 have fz:∀(i:Nat) v d,(c.args.toList.map (⟨tmps,[]⟩:Act).eval++vs)[i]? = some v→(ds++eK)[i]? = some d→co M β v d:=by
  intro i v d eg pe;by_cases hi:i<c.args.toList.length
  ·rw [List.getElem?_append_left (by simpa using hi),List.getElem?_map,Option.map_eq_some_iff]at eg
   obtain⟨y,b_,rfl⟩:=eg;rw [List.getElem?_append_left (by omega)]at pe
   obtain⟨ty,fY⟩:=i6 i y d b_ pe;exact dL h.bn h.dA fY
  ·rw [List.getElem?_append_right (by simp;simp at hi;omega)]at eg
   rw [List.getElem?_append_right (by omega)]at pe
   refine ak _ v d eg ?_;rw [fO]at pe;simpa using pe
 have LK:(c.args.toList.map (⟨tmps,[]⟩:Act).eval++vs).length=(ds++eK).length:=by simp at fO ⊢;omega
 unfold r6 at hs
 dsimp only at hs
 generalize jP:lW g.H 2 (dedup ((ds++eK).flatMap refs))=ρ at hs
 split at hs
 case h_2=>cases hs
 rename_i out cw os rs eh;split at hs
 case h_2=>cases hs
 rename_i h3 H1 hd LL ka qu;rw [Option.bind_eq_some_iff]at ka;obtain⟨bs,i7,ka⟩:=ka;rw [Bool.cond_eq_ite]at hs;split at hs
 ·cases hs
 rename_i LM
 have hn:kJ ρ=true:=by
  have:(!kJ ρ || !(List.isEmpty p||List.isEmpty os))=false:=by simpa using LM
  simp only [Bool.or_eq_false_iff,Bool.not_eq_false']at this;exact this.1
 have ej:=CX h.bn qu (vs:=c.args.toList.map (⟨tmps,[]⟩:Act).eval++vs) (λi t ce=>by
  rw [List.getElem?_append_left (by simpa using(List.getElem?_eq_some_iff.1 ce).1),List.getElem?_map,ce];rfl) (λi ce=>by
  rw [List.getElem?_append_left (by simpa using(List.getElem?_eq_some_iff.1 ce).1),List.getElem?_map,ce];rfl)
 have dP:=K_ (st:={env:=g.env,H:=g.H,aU:=g.aU}) h.bn.bn hn i7 ka LK fz LL ej;have fg:H1.length=ρ.length:=by rw [(sr ka).1,(qt i7).1]
 -- xR jN contract YE, aid jN boxes behind it
 have key:∀{qE:List (List aS)},fS P fn h3 (pc hd) H1 out qE→(execOp (Act.eval ⟨tmps,[]⟩) o).run P w = .ok (.enter fn ⟨c.args.toList.map (⟨tmps,[]⟩:Act).eval++vs⟩) w∧
  Calls P fn ⟨c.args.toList.map (⟨tmps,[]⟩:Act).eval++vs⟩ w λe w'=>∃v M' β',e=nB out v∧
   bE P (iG M β {env:=g.env,H:=g.H,aU:=g.aU} tmps w ρ (nE hd)) M' β' {env:=gv out,H:=cQ 0 qE,aU:=ρ.length} #[v] w':=by
  intro qE YF;obtain⟨⟨fd,kq,CY,h9⟩,YG⟩:=YF;refine⟨YA ax hc aA kq CY h9,(YG _ w _ M _ (by rw [LK,LD LL]) dP (λr b hb=>hb)).mono ?_⟩
  rintro e w' ⟨o',H',v,M',β',⟨rfl,rfl⟩,he,cK⟩
  rw [fg]at cK;exact⟨v,M',β',he,cK⟩
 -- jN boxes as aie aif, named aig and back
 have back:∀{qE YH:List (List aS)},ih (λj=>ρ[j]?) qE=some YH→qE.length=ρ.length→∀{v:Value} {w':World} {M':Mem} {β':Nat→Option Nat},
  bE P (iG M β {env:=g.env,H:=g.H,aU:=g.aU} tmps w ρ (nE hd)) M' β' {env:=gv out,H:=cQ 0 qE,aU:=ρ.length} #[v] w'→_:=
  λhx ah _ _ _ _ hp=>CH (st:={env:=g.env,H:=g.H,aU:=g.aU}) h.bn.bn hn i7 hx ah hp
 have LN:∀{v:Value} {w':World} {M':Mem} {β':Nat→Option Nat},
  bE P (iG M β {env:=g.env,H:=g.H,aU:=g.aU} tmps w ρ (nE hd)) M' β' {env:=gv out,H:=cQ 0 H1,aU:=ρ.length} #[v] w'→
  M.le M'∧bE P K M' β {env:=fV (nE hd) g.env,H:=g.H,aU:=g.aU} tmps w'∧
  (∀d own,out = .ret d own→∀dT,ec (λj=>ρ[j]?) d=some dT→co M' β v dT∧∀T l0,own=some T→km P K M' β {env:=fV (nE hd) g.env,H:=g.H,aU:=g.aU} tmps w' l0 v T)∧
  (∀x,out = .be x→dc M' v x):=by
  intro v w' M' β' hp;exact YC (st:={env:=g.env,H:=g.H,aU:=g.aU}) h.bn.bn hn i7 ka hp
 cases out with
 |ret d own=>
  cases cw with
  |none=>
   simp only [Option.map_eq_some_iff]at hs;obtain⟨dT,iB,rfl⟩:=hs;intro cv;obtain⟨ab,ai⟩:=key (cv _ (List.mem_singleton.2 rfl));refine .inr (.inr ⟨fn,_,ab,ai.mono ?_⟩)
   rintro e w' ⟨v,M',β',he,hp⟩
   obtain⟨cX,cK,CZ,_⟩:=LN hp;refine⟨v,he,M',β,cX,λ_ _ h=>h,λ_ _ h=>.inl h,cK,λe1 mF=>?_⟩
   cases mF;exact CZ d own rfl dT iB
  |some cw=>
   dsimp only at hs
   split at hs
   case h_2=>cases hs
   rename_i dT hh iB qz;rw [Bool.cond_eq_ite]at hs;split at hs
   case isFalse=>cases hs
   rename_i ah;cases hs;intro cv;obtain⟨ab,ai⟩:=key (cv _ (List.mem_singleton.2 rfl));refine .inr (.inr ⟨fn,_,ab,ai.mono ?_⟩)
   rintro e w' ⟨v,M',β',he,hp⟩
   obtain⟨cX,cK,CZ,_⟩:=back qz (by simpa using ah) hp
   refine⟨v,he,M',β,cX,λ_ _ h=>h,λ_ _ h=>.inl h,cK,λe1 mF=>?_⟩
   cases mF;exact CZ d own rfl dT iB
 |be x=>
  cases cw with
  |none=>
   cases hs;intro cv;obtain⟨ab,ai⟩:=key (cv _ (List.mem_singleton.2 rfl));refine .inr ⟨fn,_,ab,ai.mono ?_⟩
   rintro e w' ⟨v,M',β',he,hp⟩
   obtain⟨cX,cK,_,C0⟩:=LN hp;exact⟨v,M',he,C0 x rfl,cK.mz λs e he=>LJ he⟩
  |some cw=>
   dsimp only at hs
   split at hs
   case h_2=>cases hs
   rename_i hh qz;rw [Bool.cond_eq_ite]at hs;split at hs
   case isFalse=>cases hs
   rename_i ah;cases hs;intro cv;obtain⟨ab,ai⟩:=key (cv _ (List.mem_singleton.2 rfl));refine .inr ⟨fn,_,ab,ai.mono ?_⟩
   rintro e w' ⟨v,M',β',he,hp⟩
   obtain⟨cX,cK,_,C0⟩:=back qz (by simpa using ah) hp
   exact⟨v,M',he,C0 x rfl,cK.mz λs e he=>LJ he⟩
end
section
variable {P:Program} {K:Ctx} {N:Nat} {M:Mem} {β:Nat→Option Nat} {st:aF} {g:db} {tmps:Array Value} {w:World} {o:Oper} {f:jl} {p:Path} {tt:dr} {ops:List Oper}
def LO(h:Hyp P K N M β g tmps w p tt){c:Call}(ax:o.op = .call c)(hc:c.callee = .builtin .len){d:D}(hd:mapM' (λy=>rd g.env g.bV p tt o.type y) c.args.toList=some [d]){aD:ef}
 (ah:(c.argTypes.toList[0]?).bind (look tt)=some aD) {n:Nat} (hk:(∃l,d = .v (.str l)∧aD.k = .str∧n=l.length)∨(∃k get e,d = .v (.bC k n get)∧aD.k = .bC e)):
 Yields P K M β g {e:=some {d:=.v (.int .i64 n)},rs:=g.rs} o tmps w:=by
 obtain⟨fO,i6⟩:=o8 hd;rw [Option.bind_eq_some_iff]at ah;obtain⟨t,ce,ah⟩:=ah;obtain⟨r⟩:=d_ h.tt ah
 obtain⟨a,ha⟩:∃a,c.args.toList=[a]:=by
  cases ht:c.args.toList with
  |nil=>rw [ht]at fO;simp at fO
  |cons a l=>
   rw [ht]at fO;simp at fO
   exact⟨a,by rw [fO]⟩
 have mI:=dL (ds:=[]) h.bn h.dA (i6 0 a d (by rw [ha];rfl) rfl)
 rcases hk with⟨l,rfl,hk,rfl⟩|⟨k,get,e,rfl,hk⟩
 ·have nF:=kp mI;refine eG h.bn (LC ax hc ha ce nF (λty=>?_)) (.v _ _ (.int _ _))
  have hs:(⟨⟨l⟩⟩:ByteArray).size=l.length:=rfl;simp [Builtin.len_,r.run_underlying,nu r hk,goInt,hs]
 ·obtain⟨base,cap,nF,_⟩:=qg mI;refine eG h.bn (LC ax hc ha ce nF (λty=>?_)) (.v _ _ (.int _ _))
  simp [Builtin.len_,r.run_underlying,mD r hk,goInt]
def YI(h:Hyp P K N M β g tmps w p tt){c:Call}(ax:o.op = .call c)(hc:c.callee = .builtin .min){k:IntKind}{a b:Int}(hd:mapM' (λy=>rd g.env g.bV p tt o.type y) c.args.toList=some [.v (.int k a),.v (.int k b)]):
 Yields P K M β g {e:=some {d:=.v (.int k (bif decide (b<a)then b else a))},rs:=g.rs} o tmps w:=by
 obtain⟨fO,i6⟩:=o8 hd
 obtain⟨x,y,ko⟩:∃x y,c.args.toList=[x,y]:=by
  cases ht:c.args.toList with
  |nil=>rw [ht]at fO;simp at fO
  |cons x l=>
   cases l with
   |nil=>rw [ht]at fO;simp at fO
   |cons y l=>
    rw [ht]at fO;simp at fO
    exact⟨x,y,by rw [fO]⟩
 have ex:=jZ (dL (ds:=[]) h.bn h.dA (i6 0 x _ (by rw [ko];rfl) rfl))
 have C1:=jZ (dL (ds:=[]) h.bn h.dA (i6 1 y _ (by rw [ko];rfl) rfl))
 have qp:c.args = #[x,y]:=by apply Array.ext';simpa using ko
 refine eG h.bn (v:=.int k (bif decide (b<a)then b else a)) ?_ (.v _ _ (.int _ _))
 simp only [execOp,ax,resolve,hc,qp,Sem.run_bind,Sem.run_pure,Result.andThen_ok,invoke,builtin,List.map_toArray,List.map_cons,List.map_nil,ex,C1];by_cases kQ:b<a<;>simp [Builtin.min_,Builtin.min2,kQ]
def YJ(h:Hyp P K N M β g tmps w p tt){c:Call}(ax:o.op = .call c)(hc:c.callee = .builtin .max){k:IntKind}{a b:Int}(hd:mapM' (λy=>rd g.env g.bV p tt o.type y) c.args.toList=some [.v (.int k a),.v (.int k b)]):
 Yields P K M β g {e:=some {d:=.v (.int k (bif decide (a<b)then b else a))},rs:=g.rs} o tmps w:=by
 obtain⟨fO,i6⟩:=o8 hd
 obtain⟨x,y,ko⟩:∃x y,c.args.toList=[x,y]:=by
  cases ht:c.args.toList with
  |nil=>rw [ht]at fO;simp at fO
  |cons x l=>
   cases l with
   |nil=>rw [ht]at fO;simp at fO
   |cons y l=>
    rw [ht]at fO;simp at fO
    exact⟨x,y,by rw [fO]⟩
 have ex:=jZ (dL (ds:=[]) h.bn h.dA (i6 0 x _ (by rw [ko];rfl) rfl))
 have C1:=jZ (dL (ds:=[]) h.bn h.dA (i6 1 y _ (by rw [ko];rfl) rfl))
 have qp:c.args = #[x,y]:=by apply Array.ext';simpa using ko
 refine eG h.bn (v:=.int k (bif decide (a<b)then b else a)) ?_ (.v _ _ (.int _ _))
 simp only [execOp,ax,resolve,hc,qp,Sem.run_bind,Sem.run_pure,Result.andThen_ok,invoke,builtin,List.map_toArray,List.map_cons,List.map_nil,ex,C1];by_cases kQ:a<b<;>simp [Builtin.max_,Builtin.max2,kQ]
def YK(h:Hyp P K N M β g tmps w p tt){cd:fN}{x:Operand}{s t:TypeId}{ok:Bool}(ax:o.op = .typeAssert x s t ok)(hs:step1 cd tt ops g p o=some (.go f)):Yields P K M β g f o tmps w:=by
 simp only [step1,ax]at hs;split at hs
 case h_2=>cases hs
 rename_i h4 y k fj iD z _ hx ah;obtain⟨r⟩:=d_ h.tt ah;have ak:=dL (ds:=[]) h.bn h.dA hx;obtain⟨u,aA,hu⟩:=B1 ak;have LP:k ≠ .lT:=by rintro rfl;simp at hs
 have CS:∀i,r.desc ≠ .interface i:=by
  intro i hd;have:=r.hk
  rw [hd]at this;simp [jq]at this;exact LP this.symm
 have fu:(bif Nat.beq h4 t then(some (lk.go {e:=some {d:=(bif ok then .cf [.v y,.v (.bool true)]else .v y)},rs:=g.rs}))else none)=some (.go f):=by
  cases k<;>first|exact(LP rfl).elim|exact hs
 rw [Bool.cond_eq_ite]at fu;split at fu
 case isFalse=>cases fu
 rename_i hb;have bO:h4=t:=by simpa using hb
 subst bO;cases fu
 have el:(Instr.typeAssert (.iface h4 u) s h4 ok).run P w = .ok (bif ok then .tuple #[u,.bool true]else u) w:=by
  unfold Instr.typeAssert;simp only [Sem.run_bind,r.run_underlying,Result.andThen_ok];cases hd:r.desc<;>first|exact(CS _ hd).elim|(cases ok<;>simp)
 refine eG h.bn (v:=bif ok then .tuple #[u,.bool true]else u) ?_ ?_
 ·simp only [execOp,ax,aA];exact hF _ el
 ·cases ok
  ·exact .v _ _ hu
  ·refine .cf [u,.bool true] _ rfl λi v c aA hc=>?_
   match i with
   | 0=>simp at aA hc;subst aA;subst hc;exact .v _ _ hu
   | 1=>simp at aA hc;subst aA;subst hc;exact .v _ _ (.bool _)
   |i+2=>simp at aA
def LQ(h:Hyp P K N M β g tmps w p tt){s:lk}(hs:step1 (gd P) tt ops g p o=some s):LI P K M β g s o tmps w:=by
 cases ax:o.op with
 |move x=>cases s with
  |go f=>exact λ_=>X1 h ax hs
  |be x fu a6=>simp only [step1,ax]at hs;repeat' (first |(split at hs) |(rw [Bool.cond_eq_ite]at hs) |(cases hs;done))
 |assign x=>cases s with
  |go f=>exact λ_=>X2 h ax hs
  |be x fu a6=>simp only [step1,ax]at hs;repeat' (first |(split at hs) |(rw [Bool.cond_eq_ite]at hs) |(cases hs;done))
 |pick c a b=>
  cases c with
  |tmp c=>cases s with
   |go f=>exact λ_=>X3 h ax hs
   |be x fu a6=>simp only [step1,ax]at hs;repeat' (first |(split at hs) |(simp at hs;done))
  |_=>simp [step1,ax]at hs
 |alloc t=>cases s with
  |go f=>exact λ_=>X4 h ax hs
  |be x fu a6=>simp only [step1,ax]at hs;repeat' (first |(split at hs) |(cases hs;done))
 |box t x=>cases s with
  |go f=>exact λ_=>X5 h ax hs
  |be x fu a6=>simp only [step1,ax]at hs;repeat' (first |(split at hs) |(rw [Bool.cond_eq_ite]at hs) |(cases hs;done))
 |build t parts=>cases s with
  |go f=>exact λ_=>X6 h ax hs
  |be x fu a6=>simp only [step1,ax]at hs;repeat' (first |(split at hs) |(rw [Bool.cond_eq_ite]at hs) |(simp at hs;done) |(cases hs;done))
 |buildSlice t len parts=>cases s with
  |go f=>exact λcv=>X8 h ax hs cv
  |be x fu a6=>simp only [step1,ax]at hs;repeat' (first |(split at hs) |(rw [Bool.cond_eq_ite]at hs) |(cases hs;done))
 |load t a=>cases s with
  |go f=>exact λ_=>X9 h ax hs
  |be x fu a6=>simp only [step1,ax]at hs;repeat' (first |(split at hs) |(rw [Bool.cond_eq_ite]at hs) |(simp at hs;done) |(cases hs;done))
 |store t a x=>cases s with
  |go f=>exact λ_=>X' h ax hs
  |be x fu a6=>simp only [step1,ax]at hs;repeat' (first |(split at hs) |(rw [Bool.cond_eq_ite]at hs) |(cases hs;done))
 |nilCheck x=>cases s with
  |go f=>exact λ_=>X_ h ax hs
  |be x fu a6=>simp only [step1,ax]at hs;repeat' (first |(split at hs) |(simp at hs;done))
 |binOp op t x y t2=>cases s with
  |go f=>exact λcv=>Yo h ax hs cv
  |be x fu a6=>simp only [step1,ax]at hs;repeat' (first |(split at hs) |(rw [Bool.cond_eq_ite]at hs) |(simp at hs;done))
 |unOp op t x=>cases s with
  |go f=>exact λ_=>Ya h ax hs
  |be x fu a6=>simp only [step1,ax]at hs;repeat' (first |(split at hs) |(simp at hs;done))
 |convert a b x=>cases s with
  |go f=>exact λcv=>Yb h ax hs cv
  |be x fu a6=>simp only [step1,ax]at hs;repeat' (first |(split at hs) |(simp at hs;done))
 |makeInterface t x=>cases s with
  |go f=>exact λ_=>Ye h ax hs
  |be x fu a6=>simp only [step1,ax]at hs;repeat' (first |(split at hs) |(simp at hs;done))
 |makeFunc fn first eK=>
  cases fn with
  |func fn=>cases s with
   |go f=>exact λ_=>Yf h ax hs
   |be x fu a6=>simp only [step1,ax]at hs;rw [Bool.cond_eq_ite]at hs;split at hs<;>simp at hs
  |_=>simp [step1,ax]at hs
 |slice t x lo hi lX=>cases s with
  |go f=>exact λcv=>Yy h ax hs cv
  |be x fu a6=>simp only [step1,ax]at hs;repeat' (first |(split at hs) |(rw [Bool.cond_eq_ite]at hs) |(simp at hs;done))
 |fieldAddr a x i=>cases s with
  |go f=>exact λ_=>Yp h ax hs
  |be x fu a6=>simp only [step1,ax]at hs;repeat' (first |(split at hs) |(rw [Bool.cond_eq_ite]at hs) |(simp at hs;done))
 |field a x i=>cases s with
  |go f=>exact λ_=>Yr h ax hs
  |be x fu a6=>simp only [step1,ax]at hs;repeat' (first |(split at hs) |(rw [Bool.cond_eq_ite]at hs) |(simp at hs;done))
 |indexAddr t x i=>cases s with
  |go f=>exact λcv=>Yv h ax hs cv
  |be x fu a6=>simp only [step1,ax]at hs;repeat' (first |(split at hs) |(rw [Bool.cond_eq_ite]at hs) |(simp at hs;done))
 |index t x i=>cases s with
  |go f=>exact λcv=>Yw h ax hs cv
  |be x fu a6=>simp only [step1,ax]at hs;repeat' (first |(split at hs) |(simp at hs;done))
 |typeAssert x a t ok=>cases s with
  |go f=>exact λ_=>YK h ax hs
  |be x fu a6=>simp only [step1,ax]at hs;repeat' (first |(split at hs) |(rw [Bool.cond_eq_ite]at hs) |(simp at hs;done) |(cases hs;done))
 |extract x i=>cases s with
  |go f=>exact λ_=>Yg h ax hs
  |be x fu a6=>simp only [step1,ax]at hs;repeat' (first |(split at hs) |(simp at hs;done))
 |call c=>
  simp only [step1,ax]at hs;split at hs
  ·rename_i x mb;split at hs
   case h_2=>cases hs
   rename_i fn eK ds hx gw;exact YD h ax mb hx gw hs
  ·rename_i mb;split at hs
   ·rename_i l _ _ _ _ hd ah;cases hs;exact λ_=>LO h ax mb hd ah (.inl ⟨l,rfl,rfl,rfl⟩)
   ·rename_i k n get _ _ _ _ _ hd ah;cases hs;exact λ_=>LO h ax mb hd ah (.inr ⟨k,get,_,rfl,rfl⟩)
   ·cases hs
  ·rename_i mb;split at hs
   case h_2=>cases hs
   rename_i t x e aih uS i8 _ t2 fz fg eE;split at hs
   case h_3=>cases hs
   case h_2=>
    rename_i cg k n get d2 y rs hle oo i6 eh;rw [Bool.cond_eq_ite]at hs;split at hs
    case isFalse=>cases hs
    rename_i hc;simp only [Bool.and_eq_true,Nat.beq_eq,Nat.ble_eq]at hc;obtain⟨⟨⟨rfl,YL⟩,yb⟩,qF⟩:=hc;rw [Option.bind_eq_some_iff]at fg eE;obtain⟨YM,yc,fg⟩:=fg;obtain⟨C2,l5,eE⟩:=eE;have hQ:=dL (ds:=[]) h.bn h.dA i6;split at hs
    case h_2=>cases hs
    rename_i ar m jX e2 pi;rw [Bool.cond_eq_ite]at hs;split at hs
    case isFalse=>cases hs
    rename_i gy;simp only [Bool.and_eq_true,Nat.beq_eq,Nat.ble_eq]at gy;obtain⟨rfl,hm⟩:=gy;cases hs;intro cv;obtain⟨news,l6,ju⟩:=K7 h.bn.bn h.tt eE pi hQ;exact XA h.bn h.dA h.tt fg rfl hle ax mb fz yc l5 oo yb hm l6 ju (CL (cv (room (n+m) cg.bytes=true) (by simp))) (cv (f0 _ y) (by simp))
   rename_i cg k n get d2 aii aZ y rs hle oo i6 qm eh;rw [Bool.cond_eq_ite]at hs;split at hs
   case isFalse=>cases hs
   rename_i hc;simp only [Bool.and_eq_true,Nat.beq_eq,Nat.ble_eq]at hc;obtain⟨⟨⟨⟨rfl,rfl⟩,YL⟩,yb⟩,qF⟩:=hc;rw [Option.bind_eq_some_iff]at fg eE;obtain⟨YM,yc,fg⟩:=fg;obtain⟨C2,l5,eE⟩:=eE;have hQ:=dL (ds:=[]) h.bn h.dA i6;split at hs
   ·rename_i ar m jX e2 pi;rw [Bool.cond_eq_ite]at hs;split at hs
    case isFalse=>cases hs
    rename_i gy;simp only [Nat.beq_eq]at gy;subst gy;cases hs;intro cv;obtain⟨news,l6,ju⟩:=K7 h.bn.bn h.tt eE pi hQ;exact K1 h.bn h.dA h.tt fg rfl hle ax mb fz yc l5 oo qm rfl yb l6 ju (CL (cv (room (n+m) cg.bytes=true) (by simp))) (cv (f0 _ y) (by simp))
   ·rename_i l pi;rw [Bool.cond_eq_ite]at hs;split at hs
    case isFalse=>cases hs
    rename_i gy;simp only [Nat.beq_eq]at gy;cases hs;intro cv;have C3:=kp hQ;obtain⟨news,l6,ju⟩:=XE (P:=P) (w:=w) h.tt eE pi l M;rw [←C3,←gy]at l6;rw [←gy]at ju;exact K1 h.bn h.dA h.tt fg rfl hle ax mb fz yc l5 oo qm rfl yb l6 ju (CL (cv (room (n+l.length) cg.bytes=true) (by simp))) (cv (f0 _ y) (by simp))
   ·cases hs
  ·rename_i mb;split at hs
   ·rename_i k a ar b hd;rw [Bool.cond_eq_ite]at hs;split at hs
    case isFalse=>cases hs
    rename_i hk;have qG:k=ar:=by simpa using hk
    subst qG;cases hs;exact λ_=>YI h ax mb hd
   ·cases hs
  ·rename_i mb;split at hs
   ·rename_i k a ar b hd;rw [Bool.cond_eq_ite]at hs;split at hs
    case isFalse=>cases hs
    rename_i hk;have qG:k=ar:=by simpa using hk
    subst qG;cases hs;exact λ_=>YJ h ax mb hd
   ·cases hs
  ·cases hs
 |panic x=>cases s with
  |go f=>simp only [step1,ax]at hs;repeat' (first |(split at hs) |(simp at hs;done))
  |be y fu a6=>
   simp only [step1,ax]at hs;split at hs
   case h_2=>cases hs
   rename_i t z hd;cases hs;intro _;have ak:=dL (ds:=[]) h.bn h.dA hd;obtain⟨u,aA,hu⟩:=B1 ak;refine .inl ⟨.iface t u,?_,.iface t u z hu,rfl⟩;simp [execOp,ax,aA,Instr.panic]
 |_=>simp [step1,ax]at hs
end
inductive ck where
 |normal
 |exit (id:Nat)
 |ret
 |be (x:V)
def nJ(P:Program)(K:Ctx)(N:Nat)(eN:ck)(st:aF)(e:Exit)(a:Act)(w:World):Prop:=
 match eN with
 |.normal=>e = .normal∧a.defers=K.ds∧a.tmps.size=N∧∃M β,bE P K M β st a.tmps w
 |.exit id=>e = .exit id∧a.defers=K.ds∧a.tmps.size=N∧∃M β,bE P K M β st a.tmps w
 |.ret=>e = .ret∧a.defers=K.ds∧a.tmps.size=N∧∃M β,bE P K M β st a.tmps w
 |.be x=>∃v,e = .panic [{v,recovered:=false}]∧a.defers=K.ds∧∃M β,dc M v x∧bE P K M β st a.tmps w
section
variable {P:Program} {K:Ctx} {N:Nat} {M:Mem} {β:Nat→Option Nat} {st:aF} {g eL:db} {tmps:Array Value} {w:World} {o:Oper} {f:jl} {p:Path} {tt:dr} {ops:List Oper}
def bE.uT(h:bE P K M β st tmps w)(dU:Array Value):bE P K M β {env:=[],H:=st.H,aU:=st.aU} dU w:=by
 have ab:bE P K M β {env:=[],H:=st.H,aU:=st.aU} tmps w:=h.sub rfl (λl e ah=>by
  cases l with
  |slot s=>simp [aF.at,look]at ah
  |cell r i=>exact⟨e,ah,rfl,λ_ h=>h⟩) (λr cs ak=>⟨cs,ak,rfl⟩)
 have aA:∀l e,({env:=[],H:=st.H,aU:=st.aU}:aF).at l=some e→b9 dU w β l=b9 tmps w β l:=by
  intro l e ah;cases l with
  |slot s=>simp [aF.at,look]at ah
  |cell r i=>rfl
 constructor
 ·intro l e ah;rw [aA l e ah];exact ab.ez l e ah
 ·intro l e T ah aN;rw [aA l e ah];exact ab.own l e T ah aN
 ·intro l cz e aZ T T' b ah aN cF dK hb bO;rw [aA l e ah]at hb;rw [aA cz aZ cF]at bO;exact ab.uniq l cz e aZ T T' b ah aN cF dK hb bO
 ·intro l e T b r cs ah aN hb ak;rw [aA l e ah]at hb;exact ab.unbox l e T b r cs ah aN hb ak
 ·exact ab.box
 ·exact ab.inj
 ·exact ab.lt
 ·exact ab.mem
 ·exact ab.m0
 ·exact ab.frame
 ·exact ab.gO
 ·exact ab.hD
 ·exact ab.gj
def uU(h:eZ P K N M β g tmps w):∀{p:Path} {q:Prop},fe tmps p→under g p q→q
 |[],_,_,aR=>aR
 |(t,l9)::p,q,hp,aR=>by
  have ce:tmps.getD t undef = .bool l9:=hp (t,l9) (by simp)
  have yd:fe tmps p:=λx hx=>hp x (by simp [hx])
  simp only [under]at aR;split at aR
  ·rename_i b hb;refine uU h yd (aR ?_);unfold ud at hb;split at hb
   ·rename_i q' bM hc;cases hb;by_cases hv:fe tmps q'
    ·have:=qf ((h.cond t _ _ hc).1 hv)
     rw [ce]at this;cases this;rfl
    ·have:=(h.cond t _ _ hc).2 hv
     rw [ce]at this;cases this
   ·cases hb
   ·split at hb
    ·rename_i bM own he;cases hb;have:=qf (h.bn.ez (.slot t) _ he)
     simp only [b9]at this;rw [ce]at this;cases this;rfl
    ·cases hb
  ·exact uU h yd aR
def LR(h:eZ P K N M β g tmps w){opsA:Array Oper}(kR:opsA.toList=ops)(hp:mA ops g o=some p):Region.wanted o (yielded opsA tmps)=true↔fe tmps p:=by
 unfold mA at hp;split at hp
 ·rename_i hg;cases hp;simp [Region.wanted,hg,fe]
 ·rename_i j l9 hg;split at hp
  case h_2=>cases hp
  rename_i t ce
  have b_:yielded opsA tmps j=some l9↔tmps.getD t undef = .bool l9:=by
   unfold yielded;have:opsA[j]? = ops[j]? := by rw [←kR];simp
   rw [this,ce];simp only [Option.bind_some,Array.getD_eq_getD_getElem?];cases bz:tmps[t]? with
   |none=>simp [undef]
   |some v=>cases v<;>simp
  have hw:Region.wanted o (yielded opsA tmps)=true↔tmps.getD t undef = .bool l9:=by
   rw [←b_];simp [Region.wanted,hg]
  split at hp
  ·rename_i q b hc;cases hp;rw [hw];constructor
   ·intro uV x hx;rcases List.mem_append.1 hx with hx|hx
    ·by_cases hv:fe tmps q
     ·exact hv x hx
     ·have:=(h.cond t _ _ hc).2 hv
      rw [uV]at this;cases this
    ·simp at hx;subst hx;exact uV
   ·intro hv;exact hv (t,l9) (by simp)
  ·cases hp
  ·split at hp
   ·cases hp;rw [hw];exact⟨λh x hx=>by simp at hx;subst hx;exact h,λh=>h (t,l9) (by simp)⟩
   ·cases hp
def C4{t:Nat}{v:Value}{q:Path}(aR:∀x,x∈q→x.1≠t):fe (tmps.setIfInBounds t v) q↔fe tmps q:=by
 unfold fe;constructor<;>intro h x hx
 ·have:=h x hx
  rwa [Array.getD_eq_getD_getElem?,Array.getElem?_setIfInBounds_ne (Ne.symm (aR x hx)),←Array.getD_eq_getD_getElem?]at this
 ·have:=h x hx
  rwa [Array.getD_eq_getD_getElem?,Array.getElem?_setIfInBounds_ne (Ne.symm (aR x hx)),←Array.getD_eq_getD_getElem?]
def YN{t s:Nat}{v:Value}(h:s≠t):(tmps.setIfInBounds t v).getD s undef=tmps.getD s undef:=by
 rw [Array.getD_eq_getD_getElem?,Array.getElem?_setIfInBounds_ne (Ne.symm h),←Array.getD_eq_getD_getElem?]
def YO{bV:List (Nat×Path×D)}{t:Nat}(h:r9 bV t=true){s:Nat}{q:Path}{d:D}(hc:look bV s=some (q,d))(hs:s≠t):∀x,x∈q→x.1≠t:=by
 unfold r9 at h;rw [List.all_eq_true]at h;have:=h _ (oc hc)
 simp only [Bool.or_eq_true,Nat.beq_eq,List.all_eq_true,Bool.not_eq_true']at this;rcases this with ab|ab
 ·exact absurd ab hs
 ·intro x hx e;have:=ab x hx
  rw [e]at this;simp at this
def C5(h:∀t q d,look g.bV t=some (q,d)→(fe tmps q→co M β (tmps.getD t undef) d)∧(¬ fe tmps q→tmps.getD t undef=undef)){t:Nat}{v:Value}(bh:r9 g.bV t=true){M':Mem}{β':Nat→Option Nat}
 (cX:M.le M') (f':∀r b,β r=some b→β' r=some b):
 ∀s q d,look (del g.bV t) s=some (q,d)→(fe (tmps.setIfInBounds t v) q→co M' β' ((tmps.setIfInBounds t v).getD s undef) d)∧(¬ fe (tmps.setIfInBounds t v) q→(tmps.setIfInBounds t v).getD s undef=undef):=by
 intro s q d hc;rw [ns]at hc;by_cases hs:t=s
 ·simp [hs]at hc
 ·rw [if_neg hs]at hc;rw [C4 (YO bh hc (Ne.symm hs)),YN (Ne.symm hs)];exact⟨λhv=>(((h s q d hc).1 hv).mono cX).BN f',(h s q d hc).2⟩
def sA(ds:List Deferred):Act.eval ⟨tmps,ds⟩=Act.eval ⟨tmps,[]⟩:=by
 funext x;cases x<;>rfl
def LS{α:Type}:∀(a b:List (Nat×α)) (q:Nat),look (a++b) q=none→look a q=none∧look b q=none
 |[],b,q,h=>⟨rfl,h⟩
 |(j,x)::a,b,q,h=>by
  simp only [List.cons_append,dn]at h ⊢;by_cases hj:j=q
  ·simp [hj]at h
  ·simp only [hj,if_false]at h ⊢;exact LS a b q h
def eZ.C6(h:eZ P K N M β g tmps w){β':Nat→Option Nat}{hs:List (Nat×List aS)}(qH:∀r b,β' r=some b→β r=some b∨(look hs r).isSome=true):
 ∀s id,look g.ids s=some id→look (hs++g.H) id=none→∀b,β' id≠some b:=by
 intro s id hid ah b hb;obtain⟨ab,ai⟩:=LS _ _ _ ah;rcases qH id b hb with ay|ay
 ·exact h.fresh s id hid ai b ay
 ·rw [ab]at ay;cases ay
def uW(h:eZ P K N M β g tmps w)(b':eF P tt=true){opsA:Array Oper}(kR:opsA.toList=ops)(hs:ii (gd P) tt N ops g o=some (.go eL))(cv:∀q,q∈eL.a6→q){Q:Exit→Act→World→Prop}{next:Act→World→Prop}
 (qI:∀dU w' M' β',eZ P K N M' β' eL dU w'→next ⟨dU,K.ds⟩ w'):
 if Region.wanted o (yielded opsA tmps)then o.wp P ⟨tmps,K.ds⟩ w next Q∨(o.asks P ⟨tmps,K.ds⟩ w∧LetsOut Q)else next ((⟨tmps,K.ds⟩:Act).put o.dst undef) w:=by
 unfold ii at hs;split at hs
 case h_1=>cases hs
 rename_i p hp;have hw:=LR h kR hp;split at hs
 ·cases hs
 ·rw [Bool.cond_eq_ite]at hs;split at hs<;>cases hs
 rename_i f bh
 dsimp only at hs
 by_cases hv:fe tmps p
 ·rw [if_pos (
   hw.2 hv)]
  refine .inl ?_;have gx:=LQ (g:=g) (ops:=ops) ⟨h,hv,b'⟩ bh
  -- xR follows once jN value is there
  have main:(∀q,q∈f.a6→q)∧∀v w',hq P K M β g f tmps v w'→next ((⟨tmps,K.ds⟩:Act).put o.dst v) w':=by
   split at hs
   ·rename_i qJ;rw [Bool.cond_eq_ite]at hs;split at hs
    case isFalse=>cases hs
    rename_i qF;have uX:p=[]:=by simpa using qF
    subst uX;cases hs;refine⟨λq aR=>uU h hv (cv _ (List.mem_append_left _ (List.mem_map.2 ⟨q,aR,rfl⟩))),?_⟩
    rintro v w' ⟨M',β',cX,f',qH,cK,_⟩
    rw [qJ];exact qI tmps w' M' β' ⟨cK,h.size,h.C6 qH,λs q d hc=>⟨λhv=>(((h.cond s q d hc).1 hv).mono cX).BN f',(h.cond s q d hc).2⟩⟩
   ·rename_i t qJ;rw [Bool.cond_eq_ite]at hs;split at hs
    case isFalse=>cases hs
    rename_i hc;simp only [Bool.and_eq_true,Nat.blt_eq]at hc;have cV:t<tmps.size:=by rw [h.size];exact hc.1
    rcases p with _|⟨x,C7⟩<;>dsimp only at hs
    ·cases hs;refine⟨λq aR=>uU h hv (cv _ (List.mem_append_left _ (List.mem_map.2 ⟨q,aR,rfl⟩))),?_⟩
     rintro v w' ⟨M',β',cX,f',qH,cK,gx⟩
     rw [qJ];refine qI _ w' M' β' ⟨?_,by simpa using h.size,h.C6 qH,C5 h.cond hc.2 cX f'⟩
     cases he:f.e with
     |none=>exact cK.drop
     |some e=>
      obtain⟨ab,ai⟩:=gx e he;exact cK.put cV ab (λT aN=>ai T _ aN)
    ·split at hs
     ·rename_i e he qK l3;rw [Bool.cond_eq_ite]at hs;split at hs
      case isFalse=>cases hs
      rename_i jw;simp only [Bool.and_eq_true,List.all_eq_true,Nat.beq_eq,Bool.not_eq_true']at jw;cases hs;refine⟨λq aR=>uU h hv (cv _ (List.mem_append_left _ (List.mem_map.2 ⟨q,aR,rfl⟩))),?_⟩
      rintro v w' ⟨M',β',cX,f',qH,cK,gx⟩
      rw [qJ];obtain⟨ab,_⟩:=gx e he
      have iF:∀y,y∈x::C7→y.1≠t:=λy b_ e=>by
       have:=jw.1 y b_
       rw [e]at this;simp at this
      refine qI _ w' M' β' ⟨?_,by simpa using h.size,by have:=h.C6 qH;rw [qK]at this;exact this,λs q d dP=>?_⟩
      ·have:after g f={env:=g.env,H:=g.H,aU:=g.aU}:=by unfold after;rw [l3,qK,jw.2];rfl
       rw [this]at cK;exact cK.drop
      ·rw [dn]at dP;by_cases jp:t=s
       ·rw [if_pos jp]at dP;cases dP;subst jp;rw [C4 iF];refine⟨λ_=>?_,λhn=>absurd hv hn⟩
        have:(tmps.setIfInBounds t v).getD t undef=v:=by simp [cV]
        rw [this];exact ab
       ·rw [if_neg jp]at dP;exact C5 h.cond hc.2 cX f' s q d dP
     ·cases hs
  obtain⟨YP,hI⟩:=main;rcases gx YP with⟨v,w',el,kd⟩|⟨he,w',el,kd⟩|⟨fn,vs,el,qL⟩
  ·unfold Oper.wp;rw [sA,el];exact hI v w' kd
  ·unfold Oper.wp;rw [sA,el];exact hI undef w' kd
  ·unfold Oper.wp;rw [sA,el];refine qL.mono ?_
   rintro e w' ⟨v,rfl,kd⟩
   exact hI v w' kd
 ·have YQ:Region.wanted o (yielded opsA tmps)=false:=by
   rw [Bool.eq_false_iff];exact λbz=>hv (hw.1 bz)
  rw [YQ];simp only [Bool.false_eq_true,if_false];split at hs
  ·rename_i qJ;rw [Bool.cond_eq_ite]at hs;split at hs
   case isFalse=>cases hs
   rename_i qF;have uX:p=[]:=by simpa using qF
   subst uX;exact absurd (λx hx=>by cases hx) hv
  ·rename_i t qJ;rw [Bool.cond_eq_ite]at hs;split at hs
   case isFalse=>cases hs
   rename_i hc;simp only [Bool.and_eq_true,Nat.blt_eq]at hc;rcases p with _|⟨x,C7⟩<;>dsimp only at hs
   ·exact absurd (λx hx=>by cases hx) hv
   ·split at hs
    ·rename_i e he qK l3;rw [Bool.cond_eq_ite]at hs;split at hs
     case isFalse=>cases hs
     rename_i jw;simp only [Bool.and_eq_true,List.all_eq_true,Nat.beq_eq,Bool.not_eq_true']at jw;cases hs;rw [qJ]
     have iF:∀y,y∈x::C7→y.1≠t:=λy b_ e=>by
      have:=jw.1 y b_
      rw [e]at this;simp at this
     refine qI _ w M β ⟨h.bn.drop,by simpa using h.size,h.fresh,λs q d dP=>?_⟩
     rw [dn]at dP;by_cases jp:t=s
     ·rw [if_pos jp]at dP;cases dP;subst jp;rw [C4 iF];refine⟨λbz=>absurd bz hv,λ_=>?_⟩
      have cV:t<tmps.size:=by rw [h.size];exact hc.1
      simp [cV]
     ·rw [if_neg jp]at dP;exact C5 h.cond hc.2 (Mem.le_refl _) (λ_ _ h=>h) s q d dP
    ·cases hs
end
section
variable {P:Program} {K:Ctx} {N E:Nat} {M:Mem} {β:Nat→Option Nat} {st:aF} {g eL:db} {tmps:Array Value} {w:World} {o:Oper} {f:jl} {p:Path} {tt:dr} {ops:List Oper}
def LT(h:eZ P K N M β g tmps w)(b':eF P tt=true){opsA:Array Oper}(kR:opsA.toList=ops){x:V}{st:aF}{a6:List Prop}(hs:ii (gd P) tt N ops g o=some (.be x st a6))(cv:∀q,q∈a6→q){Q:Exit→Act→World→Prop}{next:Act→World→Prop}
 (qI:∀e dF w',nJ P K N (.be x) st e dF w'→Q e dF w'):
 if Region.wanted o (yielded opsA tmps)then o.wp P ⟨tmps,K.ds⟩ w next Q∨(o.asks P ⟨tmps,K.ds⟩ w∧LetsOut Q)else next ((⟨tmps,K.ds⟩:Act).put o.dst undef) w:=by
 unfold ii at hs;split at hs
 case h_1=>cases hs
 rename_i p hp;have hw:=LR h kR hp;split at hs
 ·cases hs
 ·rename_i y fu pj eA;rw [Bool.cond_eq_ite]at hs;split at hs
  case isFalse=>cases hs
  rename_i qF;have uX:p=[]:=by simpa using qF
  subst uX;cases hs;have hv:fe tmps []:=λx hx=>by cases hx
  rw [if_pos (hw.2 hv)];refine .inl ?_;have gx:=LQ (g:=g) (ops:=ops) ⟨h,hv,b'⟩ eA;rcases gx (λq aR=>cv q (List.mem_append_left _ aR)) with⟨v,el,ak,rfl⟩|⟨fn,vs,el,qL⟩
  ·unfold Oper.wp;rw [sA,el];exact qI _ _ _ ⟨v,rfl,rfl,M,β,ak,h.bn.mz λs e he=>⟨e,he,rfl⟩⟩
  ·unfold Oper.wp;rw [sA,el];refine qL.mono ?_
   rintro e w' ⟨v,M',rfl,ak,cK⟩
   exact qI _ _ _ ⟨v,rfl,rfl,M',β,ak,cK⟩
 ·dsimp only at hs
  repeat' (first|(split at hs)|(rw [Bool.cond_eq_ite]at hs)|(cases hs;done))
def YR{cd:fN}(hs:ii cd tt N ops g o=some (.go eL)):∀q,q∈g.a6→q∈eL.a6:=by
 intro q aR;unfold ii at hs;split at hs
 case h_1=>cases hs
 split at hs
 ·cases hs
 ·rw [Bool.cond_eq_ite]at hs;split at hs<;>cases hs
 ·dsimp only at hs
  repeat' (first|(split at hs)|(rw [Bool.cond_eq_ite]at hs)|(cases hs;exact List.mem_append_right _ aR)|(cases hs;done))
def YS{cd:fN}{x:V}{st:aF}{a6:List Prop}(hs:ii cd tt N ops g o=some (.be x st a6)):∀q,q∈g.a6→q∈a6:=by
 intro q aR;unfold ii at hs;split at hs
 case h_1=>cases hs
 split at hs
 ·cases hs
 ·rw [Bool.cond_eq_ite]at hs;split at hs<;>cases hs;exact List.mem_append_right _ aR
 ·dsimp only at hs
  repeat' (first|(split at hs)|(rw [Bool.cond_eq_ite]at hs)|(cases hs;done))
def LU:o2→List Prop
 |.go g=>g.a6
 |.be _ _ a6=>a6
def LV{cd:fN}:∀{l:List Oper} {g:db} {fin:o2},o3 cd tt N ops l g=some fin→∀q,q∈g.a6→q∈LU fin
 |[],g,fin,h,q,aR=>by simp [o3]at h;subst h;exact aR
 |o::l,g,fin,h,q,aR=>by
  simp only [o3]at h;split at h
  ·rename_i eL hs;exact LV h q (YR hs q aR)
  ·cases fin with
   |go eL=>exact absurd h (by intro bz;rename_i dQ;exact dQ _ bz)
   |be x st a6=>exact YS h q aR
def C8(b':eF P tt=true){opsA:Array Oper}(kR:opsA.toList=ops){Q:Exit→Act→World→Prop}{fin:o2}(i':∀q,q∈LU fin→q)
 (dR:match fin with
  |.go eL=>∀dU w' M' β',eZ P K N M' β' eL dU w'→Q .normal ⟨dU,K.ds⟩ w'
  |.be x st _=>∀e dF w',nJ P K N (.be x) st e dF w'→Q e dF w'):
 ∀(l:List Oper) (k:Nat) (g:db) (tmps:Array Value) (w:World) (M:Mem) (β:Nat→Option Nat),(∀j,l[j]? = ops[k+j]?)→eZ P K N M β g tmps w→o3 (gd P) tt N ops l g=some fin→
  wpOps P opsA Q (List.range' k l.length) ⟨tmps,K.ds⟩ w
 |[],k,g,tmps,w,M,β,_,h,ak=>by
  simp [o3]at ak;subst ak;exact dR tmps w M β h
 |o::l,k,g,tmps,w,M,β,ah,h,ak=>by
  have hk:opsA[k]? = some o:=by
   have:=ah 0
   simp at this
   rw [←Array.getElem?_toList,kR];exact this.symm
  simp only [List.length_cons,List.range'_succ,wpOps,hk];simp only [o3]at ak;split at ak
  ·rename_i eL hs;refine uW h b' kR hs (λq aR=>i' q (LV ak q aR)) (λdU w' M' β' dk=>?_)
   exact C8 b' kR i' dR l (k+1) eL dU w' M' β' (λj=>by have:=ah (j+1);simpa [Nat.add_assoc,Nat.add_comm 1 j]using this) dk ak
  ·cases fin with
   |go eL=>exact absurd ak (by intro bz;rename_i dQ;exact dQ _ bz)
   |be x st a6=>exact LT h b' kR ak i' (λe dF w' cB=>dR e dF w' cB)
def a'(P:Program)(N E:Nat)(c:Code)(Q:ck→aF→Prop)(st:aF):Prop:=
 ∀(K:Ctx),(∀r b,K.h5 r=some b→r<E)→∀(a:Act) (w:World),nJ P K N .normal st .normal a w→c.wp P (λe dF w'=>∃eN bS,nJ P K N eN bS e dF w'∧Q eN bS) a w
def a'.mono{c:Code}{Q LW:ck→aF→Prop}(h:a' P N E c Q st)(aR:∀eN bS,Q eN bS→LW eN bS):a' P N E c LW st:=
 λK dV a w hs=>wp_mono (h K dV a w hs) λ_ _ _ ⟨eN,bS,ab,ai⟩=>⟨eN,bS,ab,aR _ _ ai⟩
@[reducible] def ck.then (next : aF → Prop) (Q : ck → aF → Prop) : ck → aF → Prop
 |.normal,st=>next st
 |e,st=>Q e st
@[reducible] def ck.inBlock (id : Nat) (Q : ck → aF → Prop) : ck → aF → Prop
 |.exit i,st=>if i=id then Q .normal st else Q (.exit i) st
 |e,st=>Q e st
def a'.seq{x y:Code}{Q:ck→aF→Prop}(h:a' P N E x (ck.then (a' P N E y Q) Q) st):a' P N E (.seq x y) Q st:=by
 intro K dV a w hs;refine wp_seq (wp_mono (h K dV a w hs) ?_)
 rintro e dF w' ⟨eN,bS,ab,ai⟩
 cases eN with
 |normal=>
  obtain⟨rfl,ay⟩:=ab;exact ai K dV dF w' ⟨rfl,ay⟩
 |exit i=>obtain⟨rfl,ay⟩:=ab;exact⟨.exit i,bS,⟨rfl,ay⟩,ai⟩
 |ret=>obtain⟨rfl,ay⟩:=ab;exact⟨.ret,bS,⟨rfl,ay⟩,ai⟩
 |be x=>obtain⟨v,rfl,ay⟩:=ab;exact⟨.be x,bS,⟨v,rfl,ay⟩,ai⟩
def a'.skip{Q:ck→aF→Prop}(h:Q .normal st):a' P N E .skip Q st:=λ_ _ _ _ hs=>wp_skip ⟨.normal,st,hs,h⟩
def a'.label{l:Nat}{Q:ck→aF→Prop}(h:Q .normal st):a' P N E (.label l) Q st:=λ_ _ _ _ hs=>wp_label ⟨.normal,st,hs,h⟩
def a'.exit{id:Nat}{Q:ck→aF→Prop}(h:Q (.exit id) st):a' P N E (.exit id) Q st:=λ_ _ _ _ hs=>wp_exit ⟨.exit id,st,⟨rfl,hs.2⟩,h⟩
def a'.ret{Q:ck→aF→Prop}(h:Q .ret st):a' P N E .ret Q st:=λ_ _ _ _ hs=>wp_ret ⟨.ret,st,⟨rfl,hs.2⟩,h⟩
def a'.block{id:Nat}{c:Code}{Q:ck→aF→Prop}(h:a' P N E c (ck.inBlock id Q) st):a' P N E (.block id c) Q st:=by
 intro K dV a w hs;refine wp_block (wp_mono (h K dV a w hs) ?_)
 rintro e dF w' ⟨eN,bS,ab,ai⟩
 cases eN with
 |normal=>obtain⟨rfl,ay⟩:=ab;exact⟨.normal,bS,⟨rfl,ay⟩,ai⟩
 |exit i=>
  obtain⟨rfl,ay⟩:=ab;by_cases hi:i=id
  ·simp only [ck.inBlock,hi,if_true]at ai;simp only [Exit.inBlock,hi,if_true];exact⟨.normal,bS,⟨rfl,ay⟩,ai⟩
  ·simp only [ck.inBlock,hi,if_false]at ai;simp only [Exit.inBlock,hi,if_false];exact⟨.exit i,bS,⟨rfl,ay⟩,ai⟩
 |ret=>obtain⟨rfl,ay⟩:=ab;exact⟨.ret,bS,⟨rfl,ay⟩,ai⟩
 |be x=>obtain⟨v,rfl,ay⟩:=ab;exact⟨.be x,bS,⟨v,rfl,ay⟩,ai⟩
def a'.cond{c:Nat}{x y:Code}{Q:ck→aF→Prop}(b:Bool)(own:Option TypeId)(hc:look st.env c=some ⟨.v (.bool b),own⟩)(ce:b=true→a' P N E x Q st)(bh:b=false→a' P N E y Q st):a' P N E (.cond (.tmp c) x y) Q st:=by
 intro K dV a w hs;obtain⟨_,_,_,M,β,cK⟩:=id hs;have aA:a.eval (.tmp c) = .bool b:=qf (cK.ez (.slot c) _ hc);exact wp_cond_split aA (λhb=>ce hb K dV a w hs) (λhb=>bh hb K dV a w hs)
def a'.loop{c:Code}{Q:ck→aF→Prop}{σ:Type}(I:Nat→σ→aF→Prop)(LX:∀n s st,I n s st→∃m,n=m+1∧a' P N E c (ck.then (λbS=>∃ob,I m ob bS) Q) st)
 {n:Nat} {s:σ} {st:aF} (h0:I n s st):a' P N E (.loop c) Q st:=by
 intro K dV a w hs b k cs
 have key:∀n s st a w,I n s st→nJ P K N .normal st .normal a w→
  ∃e dF w',(∃eN bS,nJ P K N eN bS e dF w'∧Q eN bS)∧Arrives P (lone (b.at a (.code c :: .inLoop c::k)) cs w) b k cs e dF w':=by
  intro n;induction n with
  |zero=>
   intro s st a w C9 _;obtain⟨m,hm,_⟩:=LX 0 s st C9;omega
  |succ n bv=>
   intro s st a w C9 hs;obtain⟨m,hm,CY⟩:=LX (n+1) s st C9;have:m=n:=by omega
   subst this;obtain⟨e,ye,yf,⟨eN,bS,ab,ai⟩,sB⟩:=CY K dV a w hs b (.inLoop c::k) cs;cases eN with
   |normal=>
    obtain⟨rfl,ay⟩:=ab;obtain⟨ob,YT⟩:=ai;obtain⟨YU,YV,YW,YX,YY⟩:=bv ob bS ye yf YT ⟨rfl,ay⟩;exact⟨YU,YV,YW,YX,.of_steps (Steps.trans sB (.one step_inLoop)) YY⟩
   |exit i=>obtain⟨rfl,ay⟩:=ab;exact⟨_,ye,yf,⟨.exit i,bS,⟨rfl,ay⟩,ai⟩,.pass (x:=.inLoop c) rfl (λ_ _=>.inl (by simp)) sB⟩
   |ret=>obtain⟨rfl,ay⟩:=ab;exact⟨_,ye,yf,⟨.ret,bS,⟨rfl,ay⟩,ai⟩,.pass (x:=.inLoop c) rfl (λ_ _=>.inl (by simp)) sB⟩
   |be x=>obtain⟨v,rfl,ay⟩:=ab;exact⟨_,ye,yf,⟨.be x,bS,⟨v,rfl,ay⟩,ai⟩,.pass (x:=.inLoop c) rfl (λ_ _=>.inl (by simp)) sB⟩
 obtain⟨e,dF,w',aR,sB⟩:=key n s st a w h0 hs;exact⟨e,dF,w',aR,.of_steps (.one step_loop) sB⟩
end
def sC(tt:dr)(st:aF):ResultVar→Option D
 |.tmp t=>(look st.env t).map (·.d)
 |.cell a t=>match look st.env a,look tt t with
  |some ⟨.ptr r off,_⟩,some aD=>match look st.H r with
   |some cs=>bif aD.k.isAgg then(bif Nat.ble (off+aD.size) cs.length then some (kj (((cs.drop off).take aD.size).map (·.d)))else none) else(cs[off]?).map (·.d)
   |none=>none
  |_,_=>none
def LY(tt:dr)(st:aF):List ResultVar→Option (D×Option TypeId)
 |[.tmp t]=>(look st.env t).map λe=>(e.d,e.own)
 |[x]=>(sC tt st x).map (·,none)
 |xs=>(mapM' (sC tt st) xs).map λds=>(.cf ds,none)
def leave(tt:dr)(E:Nat)(rs:List ResultVar)(st:aF):Option (Out×List (List aS)):=
 match LY tt st rs,boxes st.H (List.range E) with
 |some (d,own),some H'=>bif below E d&&H'.all (n8 E)then some (.ret d own,H')else none
 |_,_=>none
def yg(E:Nat)(H:List (Nat×List aS)):Option (List (List aS)):=
 match boxes H (List.range E) with
 |some H'=>bif H'.all (n8 E)then some H' else none
 |none=>none
def oq(tt:dr)(E c:Nat):List ResultVar→aF→Option (Out×List (List aS))
 |[.cell a t],st=>match look st.env a,look tt t with
  |some ⟨.ptr r off,_⟩,some aD=>match look st.H r,boxes st.H (List.range E) with
   |some cs,some H'=>
    bif (((((aD.k.isAgg&&Nat.ble (off+aD.size) cs.length)&&o0 (marks c) (marksOf 0 ((cs.drop off).take aD.size)))&&Nat.ble E r)&&below E (kj (((cs.drop off).take aD.size).map (·.d))))&&H'.all (n8 E)) then
     some (.ret (kj (((cs.drop off).take aD.size).map (·.d))) (some c),H')else none
   |_,_=>none
  |_,_=>none
 |_,_=>none
def lw(H:List (List aS)):List (List aS):=H.map λb=>b.map λe=>{d:=e.d}
def ot(tt:dr)(E:Nat)(rs:List ResultVar)(R:Out→List (List aS)→Prop):ck→aF→Prop
 |.normal,st=>∃o H',(leave tt E rs st=some (o,H')∨∃c,oq tt E c rs st=some (o,H'))∧R o H'
 |.ret,st=>∃o H',(leave tt E rs st=some (o,H')∨∃c,oq tt E c rs st=some (o,H'))∧R o H'
 |.be x,st=>∃H',yg E st.H=some H'∧R (.be x) (lw H')
 |.exit _,_=>False
section
variable {P:Program} {K:Ctx} {N E:Nat} {M:Mem} {β:Nat→Option Nat} {st:aF} {tmps:Array Value} {w:World} {tt:dr}
def sD(tmps:Array Value):ResultVar→Sem Value
 |.tmp t=>pure (tmps.getD t undef)
 |.cell a t=>do loadVar t (←asAddr (tmps.getD a undef))
def LZ(h:bE P K M β st tmps w)(b':eF P tt=true){x:ResultVar}{d:D}(hx:sC tt st x=some d):
 ∃v,(sD tmps x).run P w = .ok v w∧co M β v d:=by
 cases x with
 |tmp t=>
  simp only [sC,Option.map_eq_some_iff]at hx;obtain⟨e,he,rfl⟩:=hx;exact⟨_,rfl,h.ez (.slot t) e he⟩
 |cell a t=>
  simp only [sC]at hx;split at hx
  case h_2=>cases hx
  rename_i r off own aD ha ah;obtain⟨row⟩:=d_ b' ah;split at hx
  case h_2=>cases hx
  rename_i cs ak;obtain⟨b,hb,aA⟩:=l2 (h.ez (.slot a) _ ha);simp only [b9]at aA;obtain⟨bM,vs,T,bO,bz,hlen,_,_,fP,iX⟩:=h.box r cs ak;rw [hb]at bO;cases bO
  have L0:∀{u:Value},(Instr.loadAt t (.pointer (some ⟨b,off,none⟩))).run P w = .ok u w→(do loadVar t (←asAddr (tmps.getD a undef)):Sem Value).run P w = .ok u w:=by
   intro u hu;rw [aA];simpa [Instr.loadAt,Instr.sureAddr,asAddr]using hu
  rw [Bool.cond_eq_ite]at hx;split at hx
  ·rename_i gl;rw [Bool.cond_eq_ite]at hx;split at hx
   case isFalse=>cases hx
   rename_i hle;simp only [Nat.ble_eq]at hle;cases hx;refine⟨_,L0 (xK (P:=P) row (off:=off) bz (by omega) gl),?_⟩
   refine sh (by simp;omega) (λv aA=>fP v (List.mem_of_mem_drop (List.mem_of_mem_take aA))) (λi v c aA hc=>?_)
   rw [List.getElem?_map,Option.map_eq_some_iff]at hc;obtain⟨e,he,rfl⟩:=hc;rw [List.getElem?_take]at aA he;split at aA
   ·rename_i hi;rw [if_pos hi,List.getElem?_drop]at he;rw [List.getElem?_drop]at aA;have:=h.ez (.cell r (off+i)) e (by simp [aF.at,ak,he])
    simpa [b9,hb,cell_of_heap bz,aA]using this
   ·cases aA
  ·rename_i gl;simp only [Option.map_eq_some_iff]at hx;obtain⟨e,he,rfl⟩:=hx;obtain⟨ls,K5,mC,v,e6,K6,eg,b8⟩:=BS h ak he;rw [hb]at e6;cases e6;refine⟨v,L0 (B2 (P:=P) row (by rw [cell_of_heap K6,eg]) (by simpa using gl)),?_⟩
   have:=h.ez (.cell r off) e (by simp [aF.at,ak,he])
   rwa [b8]at this
def L1(h:bE P K M β st tmps w)(b':eF P tt=true):∀{xs:List ResultVar} {ds:List D},mapM' (sC tt st) xs=some ds→
 ∃vs:List Value,(xs.mapM (sD tmps)).run P w = .ok vs w∧vs.length=ds.length∧
  ∀(i:Nat) v d,vs[i]? = some v→ds[i]? = some d→co M β v d
 |[],ds,hx=>by simp [mapM']at hx;subst hx;exact⟨[],rfl,rfl,by simp⟩
 |x::xs,ds,hx=>by
  simp only [mapM']at hx;split at hx
  case h_2=>cases hx
  rename_i d YB hd gw;cases hx;obtain⟨v,aA,fl⟩:=LZ h b' hd;obtain⟨vs,kN,ah,ak⟩:=L1 h b' gw;refine⟨v::vs,?_,by simp [ah],λi u c hu hc=>?_⟩
  ·simp only [List.mapM_cons,Sem.run_bind,aA,Result.andThen_ok,kN,Sem.run_pure]
  ·cases i with
   |zero=>simp at hu hc;subst hu;subst hc;exact fl
   |succ i=>simp at hu hc;exact ak i u c hu hc
def YZ{H:List (Nat×List aS)}{E:Nat}{H':List (List aS)}(h:boxes H (List.range E)=some H'):H'.length=E∧∀r,r<E→look H r=H'[r]? ∧ (H'[r]?).isSome=true:=by
 obtain⟨ab,ai⟩:=qt h;exact⟨by simpa using ab,λr ak=>ai r r (by simp [ak])⟩
def bE.leave(h:bE P K M β st tmps w){H':List (List aS)}(qM:boxes st.H (List.range E)=some H')(L2:H'.all (n8 E)=true)(dV:∀r b,K.h5 r=some b→r<E){v:Value}{d:D}{own:Option TypeId}
 (aA:co M β v d) (hd:below E d=true) (fk:∀T,own=some T→∃l,km P K M β {env:=fV l st.env,H:=st.H,aU:=st.aU} tmps w (.slot 0) v T∧True):
 ∃ β',bE P K M β' {env:=[(0,{d,own})],H:=cQ 0 H',aU:=E} #[v] w:=by
 obtain⟨ah,jQ⟩:=YZ qM;have ab:=h.uT #[undef]
 have iH:∀r cs,look (cQ 0 H') r=some cs→r<E∧look st.H r=some cs:=by
  intro r cs ak;rw [kP]at ak;have cV:r<E:=by have:=(List.getElem?_eq_some_iff.1 ak).1;omega
  exact⟨cV,by rw [(jQ r cV).1];exact ak⟩
 have hle:E≤st.aU∨E=0:=by
  by_cases h0:E=0
  ·exact .inr h0
  ·obtain⟨ai,ay⟩:=jQ (E-1) (by omega)
   obtain⟨cs,dP⟩:=Option.isSome_iff_exists.1 ay;rw [dP]at ai;obtain⟨b,_,_,hb,_⟩:=h.box _ cs ai;have:=h.lt _ b hb
   exact .inl (by omega)
 have ai:bE P K M β {env:=[],H:=cQ 0 H',aU:=st.aU} #[undef] w:=by
  refine ab.sub rfl (λl e ah=>?_) (λr cs ak=>⟨cs,(iH r cs ak).2,rfl⟩)
  cases l with
  |slot s=>simp [aF.at,look]at ah
  |cell r i=>
   simp only [aF.at]at ah ⊢;cases ak:look (cQ 0 H') r with
   |none=>simp [ak]at ah
   |some cs=>simp [ak]at ah;exact⟨e,by simp [(iH r cs ak).2,ah],rfl,λ_ h=>h⟩
 -- jN slot
 have ay:bE P K M β {env:=[(0,{d,own})],H:=cQ 0 H',aU:=st.aU} #[v] w:=by
  have Y0:=ai.put (t:=0) (v:=v) (e:={d,own}) (by simp) aA (λT aN=>?_)
  ·simpa using Y0
  ·obtain⟨l,hn,_⟩:=fk T aN;refine⟨hn.own,λhl e T' b fg dK _ hb bO=>?_,λb r cs hb ak=>hn.unbox b r cs hb (iH r cs ak).2⟩
   cases hl with
   |slot s=>simp [aF.at,look]at fg
   |cell r i=>
    simp only [aF.at]at fg;cases ak:look (cQ 0 H') r with
    |none=>simp [ak]at fg
    |some cs=>
     simp [ak]at fg;exact hn.apart (.cell r i) e T' b (by simp [aF.at,(iH r cs ak).2,fg]) dK (by simp) hb bO
 refine⟨λr=>if r<E then β r else none,?_⟩
 have b8:∀l e,({env:=[(0,{d,own})],H:=cQ 0 H',aU:=st.aU}:aF).at l=some e→b9 #[v] w (λr=>if r<E then β r else none) l=b9 #[v] w β l:=by
  intro l e ah;cases l with
  |slot s=>rfl
  |cell r i=>
   simp only [aF.at]at ah;cases ak:look (cQ 0 H') r with
   |none=>simp [ak]at ah
   |some cs=>simp [b9,(iH r cs ak).1]
 have l1:∀l e,({env:=[(0,{d,own})],H:=cQ 0 H',aU:=st.aU}:aF).at l=some e→below E e.d=true:=by
  intro l e ah;cases l with
  |slot s=>
   simp only [aF.at,dn]at ah;split at ah
   ·cases ah;exact hd
   ·simp [look]at ah
  |cell r i=>
   simp only [aF.at]at ah;cases ak:look (cQ 0 H') r with
   |none=>simp [ak]at ah
   |some cs=>
    simp [ak]at ah;rw [kP]at ak;rw [List.all_eq_true]at L2;exact BX (L2 cs (List.mem_of_getElem? ak)) ah
 constructor
 ·intro l e ah;rw [b8 l e ah];exact(ay.ez l e ah).Kk (λr ak=>by simp [ak]) (l1 l e ah)
 ·intro l e T ah aN;rw [b8 l e ah];exact ay.own l e T ah aN
 ·intro l cz e aZ T T' b ah aN cF dK hb bO;rw [b8 l e ah]at hb;rw [b8 cz aZ cF]at bO;exact ay.uniq l cz e aZ T T' b ah aN cF dK hb bO
 ·intro l e T b r cs ah aN hb ak;rw [b8 l e ah]at hb;have:=ay.unbox l e T b r cs ah aN hb ak
  simpa [(iH r cs ak).1]using this
 ·intro r cs ak;obtain⟨b,vs,T,bg,bQ⟩:=ay.box r cs ak;exact⟨b,vs,T,by simpa [(iH r cs ak).1]using bg,bQ⟩
 ·intro r cA b cs cs' ak eD hb bO;exact ay.inj r cA b cs cs' ak eD (by simpa [(iH r cs ak).1]using hb) (by simpa [(iH cA cs' eD).1]using bO)
 ·intro r b hb;by_cases cV:r<E
  ·exact cV
  ·simp [cV]at hb
 ·exact ay.mem
 ·exact ay.m0
 ·exact ay.frame
 ·intro r b hb;simp [dV r b hb,ay.gO r b hb]
 ·exact ay.hD
 ·exact ay.gj
def bE.era{env:List (Nat×aS)}{H:List (List aS)}{n:Nat}(h:bE P K M β {env:=env,H:=cQ 0 H,aU:=n} tmps w):bE P K M β {env:=env,H:=cQ 0 (lw H),aU:=n} tmps w:=by
 refine h.sub rfl (λl e ah=>?_) (λr cs ak=>?_)
 ·cases l with
  |slot s=>exact⟨e,ah,rfl,λ_ h=>h⟩
  |cell r i=>
   simp only [aF.at,kP,lw,List.getElem?_map]at ah ⊢;cases hb:H[r]? with
   |none=>simp [hb]at ah
   |some b=>
    simp only [hb,Option.map_some,Option.bind_some,List.getElem?_map,Option.map_eq_some_iff]at ah;obtain⟨bP,h0,rfl⟩:=ah;exact⟨bP,by simpa using h0,rfl,λT aN=>by cases aN⟩
 ·simp only [kP,lw,List.getElem?_map,Option.map_eq_some_iff]at ak ⊢;obtain⟨b,hb,rfl⟩:=ak;exact⟨b,hb,by simp⟩
def yh{fn:Func}{E:Nat}{dU:Array Value}{w':World}{bS:aF}{M':Mem}{β':Nat→Option Nat}{o:Out}{H':List (List aS)}(b':eF P tt=true)(dV:∀r b,K.h5 r=some b→r<E)(hs:bE P K M' β' bS dU w')
 (ah:Ab.leave tt E fn.results.toList bS=some (o,H')):
 ∃v,(results fn dU).run P w' = .ok v w'∧∃h8 M' β',Ending.returned v=nB o h8∧bE P K M' β' {env:=gv o,H:=cQ 0 H',aU:=E} #[h8] w':=by
 unfold Ab.leave at ah;split at ah
 case h_2=>cases ah
 rename_i d own H1 gx qM;rw [Bool.cond_eq_ite]at ah;split at ah
 case isFalse=>cases ah
 rename_i hc;simp only [Bool.and_eq_true]at hc;cases ah
 -- jN value of jN results
 have b8:∃v,(results fn dU).run P w' = .ok v w'∧co M' β' v d∧∀T,own=some T→∃l,km P K M' β' {env:=fV l bS.env,H:=bS.H,aU:=bS.aU} dU w' (.slot 0) v T∧True:=by
  have hm:∀{vs:List Value},(fn.results.toList.mapM (sD dU)).run P w' = .ok vs w'→
   (results fn dU).run P w' = .ok (if h:vs.length=1 then vs[0]else .tuple ⟨vs⟩) w':=by
   intro vs kN
   have gx:results fn dU=(do let vs ←fn.results.mapM (sD dU);pure (if h:vs.size=1 then vs[0]else .tuple vs)):=by
    unfold results
    congr 2
   rw [gx,show fn.results=⟨fn.results.toList⟩from rfl,List.mapM_toArray]
   simp only [Sem.run_bind,Sem.run_map,kN,Result.andThen_ok,Sem.run_pure];simp
  unfold LY at gx;split at gx
  ·rename_i t ce;simp only [Option.map_eq_some_iff,Prod.mk.injEq]at gx;obtain⟨e,he,rfl,rfl⟩:=gx;have gF:=hs.ez (.slot t) e he;refine⟨dU.getD t undef,?_,gF,λT aN=>⟨[t],hs.hand he aN (.slot 0),trivial⟩⟩
   have:=hm (vs:=[dU.getD t undef]) (by rw [ce];rfl)
   simpa using this
  ·rename_i x dQ hx;simp only [Option.map_eq_some_iff,Prod.mk.injEq]at gx;obtain⟨dT,iB,rfl,rfl⟩:=gx;obtain⟨v,aA,fl⟩:=LZ hs b' iB;refine⟨v,?_,fl,by simp⟩
   have:=hm (vs:=[v]) (by rw [hx];simp only [List.mapM_cons,List.mapM_nil,Sem.run_bind,aA,Result.andThen_ok,Sem.run_pure])
   simpa using this
  ·simp only [Option.map_eq_some_iff,Prod.mk.injEq]at gx;obtain⟨ds,gw,rfl,rfl⟩:=gx;obtain⟨vs',kN,ah,fl⟩:=L1 hs b' gw;refine⟨.tuple ⟨vs'⟩,?_,.cf vs' ds ah fl,by simp⟩
   have dQ:vs'.length≠1:=by
    rename_i ab ai;rw [ah,(o8 gw).1];intro bz;obtain⟨x,hx⟩:=List.length_eq_one_iff.1 bz;exact ai x hx
   have:=hm kN
   simpa [dQ]using this
 obtain⟨v,el,fl,fk⟩:=b8;obtain⟨uY,i'⟩:=hs.leave qM hc.2 dV fl hc.1 fk;exact⟨v,el,v,M',uY,rfl,i'⟩
def L3{H:List (Nat×List aS)}{r:Nat}{cs:List aS}:∀{l:List Nat},(∀x,x∈l→x≠r)→boxes ((r,cs)::H) l=boxes H l
 |[],_=>rfl
 |x::l,h=>by
  have bv:=L3 (H:=H) (cs:=cs) (l:=l) λy b_=>h y (by simp [b_])
  have hx:=h x (by simp)
  simp only [boxes,bv,dn,if_neg (Ne.symm hx)]
def L4{fn:Func}{E:Nat}{dU:Array Value}{w':World}{bS:aF}{M':Mem}{β':Nat→Option Nat}{o:Out}{H':List (List aS)}(b':eF P tt=true)(dV:∀r b,K.h5 r=some b→r<E)(hs:bE P K M' β' bS dU w')
 {c:Nat} (ah:Ab.oq tt E c fn.results.toList bS=some (o,H')):
 ∃v,(results fn dU).run P w' = .ok v w'∧∃h8 M' β',Ending.returned v=nB o h8∧bE P K M' β' {env:=gv o,H:=cQ 0 H',aU:=E} #[h8] w':=by
 unfold Ab.oq at ah;split at ah
 case h_2=>cases ah
 rename_i a t ce;split at ah
 case h_2=>cases ah
 rename_i r off dX aD ha L5;split at ah
 case h_2=>cases ah
 rename_i cs H1 ak qM;rw [Bool.cond_eq_ite]at ah;split at ah
 case isFalse=>cases ah
 rename_i hc;simp only [Bool.and_eq_true,Nat.ble_eq]at hc;obtain⟨⟨⟨⟨⟨gl,hle⟩,hm⟩,aij⟩,Y1⟩,l4⟩:=hc;cases ah;obtain⟨row⟩:=d_ b' L5;obtain⟨b,hb,aA⟩:=l2 (hs.ez (.slot a) _ ha);simp only [b9]at aA;obtain⟨bM,vs,T,bO,bz,hlen,_,_,fP,iX⟩:=hs.box r cs ak;rw [hb]at bO;cases bO;have ny:=Co hm;have iE:((cs.drop off).take aD.size).length=aD.size:=by simp;omega
 have jr:=lq cs off (((cs.drop off).take aD.size).map λe=>({d:=e.d}:aS)) (by rw [List.length_map,iE];exact hle)
 have nz:∀j,j<aD.size→((cs.drop off).take aD.size)[j]? = cs[off+j]? := λj hj=>by rw [List.getElem?_take,if_pos hj,List.getElem?_drop]
 obtain⟨hE,Y2⟩:=hs.KT (T:=c) (size:=aD.size) (off:=off) ak hb bz fP hlen (cs':=setAt cs off (((cs.drop off).take aD.size).map λe=>{d:=e.d})) (λx hx=>by
  rw [ny]at hx;obtain⟨_,e,ai,ay⟩:=uv _ 0 x hx;rw [Nat.sub_zero]at ai;have cV:x.1<aD.size:=by rw [←iE];exact(List.getElem?_eq_some_iff.1 ai).1
  exact⟨cV,e,by rw [←nz x.1 cV];exact ai,ay⟩) jr.1 (λj aZ hj=>by
  rw [jr.2]at hj;rw [List.length_map,iE]at hj;by_cases hi:off≤j∧j<off+aD.size
  ·rw [if_pos hi,List.getElem?_map,Option.map_eq_some_iff]at hj;obtain⟨bP,ab,rfl⟩:=hj;rw [nz _ (by omega),show off+(j-off)=j by omega]at ab
   exact⟨bP,ab,rfl,λU gn=>by cases gn⟩
  ·rw [if_neg hi]at hj;refine⟨aZ,hj,rfl,λU gn=>⟨gn,λx hx Xt=>?_⟩⟩
   rw [ny]at hx;obtain⟨_,e,ai,_⟩:=uv _ 0 x hx;rw [Nat.sub_zero]at ai;have cV:x.1<aD.size:=by rw [←iE];exact(List.getElem?_eq_some_iff.1 ai).1
   omega) (.slot 0)
 have el:(sD dU (.cell a t)).run P w' = .ok (.agg ⟨(vs.drop off).take aD.size⟩) w':=by
  have hu:=xK (P:=P) (w:=w') row (off:=off) bz (by omega) gl
  show(do loadVar t (←asAddr (dU.getD a undef)):Sem Value).run P w'=_
  rw [aA];simpa [Instr.loadAt,Instr.sureAddr,asAddr]using hu
 have fl:co M' β' (.agg ⟨(vs.drop off).take aD.size⟩) (kj (((cs.drop off).take aD.size).map (·.d))):=by
  refine sh (by simp;omega) (λv aA=>fP v (List.mem_of_mem_drop (List.mem_of_mem_take aA))) (λi v c aA hc=>?_)
  rw [List.getElem?_map,Option.map_eq_some_iff]at hc;obtain⟨e,he,rfl⟩:=hc;rw [List.getElem?_take]at aA he;split at aA
  ·rename_i hi;rw [if_pos hi,List.getElem?_drop]at he;rw [List.getElem?_drop]at aA;have:=hs.ez (.cell r (off+i)) e (by simp [aF.at,ak,he])
   simpa [b9,hb,cell_of_heap bz,aA]using this
  ·cases aA
 have gx:(results fn dU).run P w' = .ok (.agg ⟨(vs.drop off).take aD.size⟩) w':=by
  have gx:results fn dU=(do let vs ←fn.results.mapM (sD dU);pure (if h:vs.size=1 then vs[0]else .tuple vs)):=by
   unfold results
   congr 2
  rw [gx,show fn.results=⟨fn.results.toList⟩from rfl,List.mapM_toArray,ce]
  simp only [List.mapM_cons,List.mapM_nil,Sem.run_bind,Sem.run_map,el,Result.andThen_ok,Sem.run_pure];simp
 obtain⟨oe,i'⟩:=hE.leave (H':=H') (own:=some c) (by
  rw [L3 (λx hx=>by have:=List.mem_range.1 hx;omega)];exact qM) l4 dV fl Y1 (λT aN=>by cases aN;exact⟨[],Y2,trivial⟩)
 exact⟨_,gx,_,M',oe,rfl,i'⟩
def L6{fn:Func}{E:Nat}{dU:Array Value}{w':World}{bS:aF}{M':Mem}{β':Nat→Option Nat}{o:Out}{H':List (List aS)}(b':eF P tt=true)(dV:∀r b,K.h5 r=some b→r<E)(hs:bE P K M' β' bS dU w')
 (ah:Ab.leave tt E fn.results.toList bS=some (o,H')∨∃c,Ab.oq tt E c fn.results.toList bS=some (o,H')):
 ∃v,(results fn dU).run P w' = .ok v w'∧∃h8 M' β',Ending.returned v=nB o h8∧bE P K M' β' {env:=gv o,H:=cQ 0 H',aU:=E} #[h8] w':=
 ah.elim (yh b' dV hs) fun⟨_,h⟩=>L4 b' dV hs h
def bE.qN{P:Program}{K:Ctx}{M:Mem}{β:Nat→Option Nat}{st:aF}{tmps:Array Value}{w:World}(h:bE P K M β st tmps w)(ds:List Deferred):bE P {K with ds:=ds} M β st tmps w:=
 ⟨h.ez,h.own,h.uniq,h.unbox,h.box,h.inj,h.lt,h.mem,h.m0,h.frame,h.gO,h.hD,h.gj⟩
def C'{args:List D}{dX:List (Nat×TypeId)}{H:List (List aS)}{vs:List Value}{n:Nat}(hlen:vs.length=args.length)(cK:bE P K M β {env:=gp args dX,H:=cQ 0 H,aU:=H.length} ⟨vs⟩ w):
 bE P K M β {env:=gp args dX,H:=cQ 0 H,aU:=H.length} ((⟨vs⟩:Array Value)++Array.replicate n undef) w:=by
 have aA:∀l e,({env:=gp args dX,H:=cQ 0 H,aU:=H.length}:aF).at l=some e→b9 ((⟨vs⟩:Array Value)++Array.replicate (n) undef) w β l=b9 ⟨vs⟩ w β l:=by
  intro l e ah;cases l with
  |slot s=>
   simp only [aF.at,gp,kP,uB,Option.map_eq_some_iff]at ah;obtain⟨d,hd,_⟩:=ah;have hs:s<vs.length:=by have:=(List.getElem?_eq_some_iff.1 hd).1;omega
   simp only [b9,Array.getD_eq_getD_getElem?];rw [Array.getElem?_append_left (by simpa using hs)]
  |cell r i=>rfl
 constructor
 ·intro l e ah;rw [aA l e ah];exact cK.ez l e ah
 ·intro l e T ah aN;rw [aA l e ah];exact cK.own l e T ah aN
 ·intro l cz e aZ T T' b ah aN cF dK hb bO;rw [aA l e ah]at hb;rw [aA cz aZ cF]at bO;exact cK.uniq l cz e aZ T T' b ah aN cF dK hb bO
 ·intro l e T b r cs ah aN hb ak;rw [aA l e ah]at hb;exact cK.unbox l e T b r cs ah aN hb ak
 ·exact cK.box
 ·exact cK.inj
 ·exact cK.lt
 ·exact cK.mem
 ·exact cK.m0
 ·exact cK.frame
 ·exact cK.gO
 ·exact cK.hD
 ·exact cK.gj
def nC.of_wp {f : FuncId} {fn : Func} {c : Code} {args : List D} {dX : List (Nat × TypeId)} {H : List (List aS)} {R : Out → List (List aS) → Prop} (b' : eF P tt = true) (bh : P.funcs[f]? = some fn) (hb : fn.body = some c) (h9 : decide (fn.name = "runtime.NumGoroutine") = false)
 (fz:Nat.ble args.length fn.ntmps=true) (h:a' P fn.ntmps H.length c (ot tt H.length fn.results.toList R) {env:=gp args dX,H:=cQ 0 H,aU:=H.length}):nC P f args dX H R:=by
 refine⟨⟨fn,bh,by rw [hb];rfl,by simpa using h9⟩,?_⟩
 intro cr w vs M β hlen C_ Da
 suffices key:∀K:Ctx,K.ds=[]→bE P K M β {env:=gp args dX,H:=cQ 0 H,aU:=H.length} ⟨vs⟩ w→(∀r b,β r=some b→K.h5 r=some b)→
  Calls P f ⟨vs⟩ w λe w'=>∃o H' v M' β',R o H'∧e=nB o v∧bE P K M' β' {env:=gv o,H:=cQ 0 H',aU:=H.length} #[v] w' from
  (key {cr with ds:=[]} rfl (C_.qN []) Da).mono λe w' ⟨o,H',v,M',β',ab,ai,ay⟩=>⟨o,H',v,M',β',ab,ai,ay.qN cr.ds⟩
 intro K gw cK f';have dV:∀r b,K.h5 r=some b→r<H.length:=λr b hb=>cK.lt r b (cK.gO r b hb)
 simp only [Nat.ble_eq]at fz;have Y3:=C' (n:=fn.ntmps-(⟨vs⟩:Array Value).size) hlen cK;have Y4:=h K dV {tmps:=(⟨vs⟩:Array Value)++Array.replicate (fn.ntmps-(⟨vs⟩:Array Value).size) undef,defers:=[]} w ⟨rfl,gw.symm,by simp;omega,M,β,Y3⟩
 refine calls_of_wp bh hb (wp_mono Y4 ?_)
 have fin:∀(dF:Act) (w':World) (bS:aF) M' β',bE P K M' β' bS dF.tmps w'→(∃o H',(Ab.leave tt H.length fn.results.toList bS=some (o,H')∨∃c,Ab.oq tt H.length c fn.results.toList bS=some (o,H'))∧R o H')→
  ∃v,(results fn dF.tmps).run P w' = .ok v w'∧∃o H' h8 M' β',R o H'∧Ending.returned v=nB o h8∧bE P K M' β' {env:=gv o,H:=cQ 0 H',aU:=H.length} #[h8] w':=by
  intro dF w' bS M' β' hs ⟨o,H',ah,sE⟩;rcases ah with ah|⟨_,ah⟩
  ·obtain⟨v,ab,h8,ql,oe,ai,ay⟩:=yh b' dV hs ah;exact⟨v,ab,o,H',h8,ql,oe,sE,ai,ay⟩
  ·obtain⟨v,ab,h8,ql,oe,ai,ay⟩:=L4 b' dV hs ah;exact⟨v,ab,o,H',h8,ql,oe,sE,ai,ay⟩
 rintro e dF w' ⟨eN,bS,ab,ai⟩
 cases eN with
 |normal=>
  obtain⟨rfl,hd,_,M',β',hs⟩:=ab;exact⟨hd.trans gw,fin dF w' bS M' β' hs ai⟩
 |ret=>
  obtain⟨rfl,hd,_,M',β',hs⟩:=ab;exact⟨hd.trans gw,fin dF w' bS M' β' hs ai⟩
 |exit i=>exact ai.elim
 |be x=>
  obtain⟨v,rfl,hd,M',β',fl,hs⟩:=ab;obtain⟨H1,ah,sE⟩:=ai;unfold yg at ah;split at ah
  case h_2=>cases ah
  rename_i cw qM;rw [Bool.cond_eq_ite]at ah;split at ah
  case isFalse=>cases ah
  rename_i hc;cases ah;obtain⟨uY,i'⟩:=hs.leave (own:=none) qM hc dV (.v v x fl) rfl (by simp)
  exact⟨hd.trans gw,.be x,lw H1,v,M',uY,sE,rfl,i'.era⟩
end
end Go.Ab

/- The abstract machine: a step of code over plain data, proved against the model. -/
import Derived.Laws.Build
import Derived.Laws.IdiomStrings
import Derived.Test.YtbncfepdlmnmiaaGreatDoorMachA
set_option linter.all false
namespace Go.Ab
section
variable {P:Program} {K:Ctx} {N:Nat} {M:Mem} {β:Nat→Option Nat} {g:dg} {tmps:Array Value} {w:World} {o:Oper} {f:lw} {p:Path} {tt:dD} {cm:gH} {ops:List Oper}
structure lE(M:Mem)(k m:Nat)(get:Nat→V)(news:List Value):Prop where
 len:news.length=m*k
 hk:∀i,i<m→(get i).cells.length=k
 one:∀u,u∈news→u.oneCell'=true
 rep:∀(i j:Nat) c u,i<m→(get i).cells[j]? = some c→news[i*k+j]? = some u→dj M u c
def flat(k m:Nat)(val:Nat→Nat→Value):List Value:=(List.range (m*k)).map λq=>val (q / k) (q % k)
def q1(k m:Nat)(val:Nat→Nat→Value):(flat k m val).length=m*k:=by simp [flat]
def agY{k m:Nat}{val:Nat→Nat→Value}{i j:Nat}(hi:i<m)(hj:j<k):(flat k m val)[i*k+j]? = some (val i j):=by
 have cO:i*k+j<m*k:=by
  have Z:(i+1)*k≤m*k:=Nat.mul_le_mul_right k hi;rw [Nat.add_mul]at Z;omega
 have Z:(i*k+j) / k=i:=by rw [Nat.mul_comm,Nat.mul_add_div (by omega),Nat.div_eq_of_lt hj];omega
 have ab:(i*k+j) % k=j:=by rw [Nat.mul_comm,Nat.mul_add_mod,Nat.mod_eq_of_lt hj]
 simp [flat,cO,Z,ab]
def W8{k m:Nat}{val:Nat→Nat→Value}{q:Nat}{u:Value}(h:(flat k m val)[q]? = some u):q / k<m∧q % k<k∧q=q / k*k+q % k∧u=val (q / k) (q % k):=by
 have au:q<m*k:=by have:=(List.getElem?_eq_some_iff.1 h).1;rwa [q1]at this
 have hk:0<k:=by
  rcases Nat.eq_zero_or_pos k with rfl|h;· simp at au
  ·exact h
 refine⟨(Nat.div_lt_iff_lt_mul hk).2 au,Nat.mod_lt _ hk,(Nat.div_add_mod' q k).symm,?_⟩
 simp [flat,au]at h;exact h.symm
def NK{v:Value}{k n:Nat}{get:Nat→V}(h:cw M β v (.v (.bM k n get))):((v = .slice none 0 0∨∃a,v = .slice (some a) 0 0)∧n=0)∨
 ∃(b off cap:Nat) (eN:List Value),v = .slice (some ⟨b,off,none⟩) n cap∧n≤cap∧lE M k n get eN∧∀(q:Nat) u,eN[q]? = some u→M b (off+q)=some u:=by
 rcases tI h with h|⟨b,off,cap,val,rfl,hc,hk,cX,Z,ai⟩
 ·exact .inl h
 ·refine .inr ⟨b,off,cap,flat k n val,rfl,hc,⟨q1 k n val,hk,?_,?_⟩,?_⟩
  ·refine WP λq u hu=>?_
   obtain⟨ab,aj,_,rfl⟩:=W8 hu;exact Z _ _ ab aj
  ·intro i j c u hi hc hu;have hj:j<k:=by rw [←hk i hi];exact(List.getElem?_eq_some_iff.1 hc).1
   rw [agY hi hj]at hu;cases hu;exact ai i j c hi hc
  ·intro q u hu;obtain⟨ab,aj,aD,rfl⟩:=W8 hu;have:=cX _ _ ab aj
   rwa [Nat.add_assoc,←aD]at this
def ym(k:Nat)(get:Nat→V):lE M k 0 get []:=⟨by simp,by simp,by simp,by simp⟩
def lE.app{k n m:Nat}{get mp:Nat→V}{eN news:List Value}(h:lE M k n get eN)(ab:lE M k m mp news):lE M k (n+m) (λi=>bif Nat.blt i n then get i else mp (i-n)) (eN++news):=by
 have hb:∀i,(bif Nat.blt i n then get i else mp (i-n))=if i<n then get i else mp (i-n):=by
  intro i;by_cases hi:i<n
  ·have:Nat.blt i n=true:=by simpa using hi
   simp [this,hi]
  ·have:Nat.blt i n=false:=by rw [Bool.eq_false_iff];simpa using hi
   simp [this,hi]
 refine⟨by simp [h.len,ab.len,Nat.add_mul],λi hi=>?_,λu hu=>?_,λi j c u hi hc hu=>?_⟩
 ·rw [hb];split
  ·exact h.hk i (by assumption)
  ·exact ab.hk _ (by omega)
 ·rcases List.mem_append.1 hu with hu|hu
  ·exact h.one u hu
  ·exact ab.one u hu
 ·rw [hb]at hc;by_cases hin:i<n
  ·rw [if_pos hin]at hc;have hj:j<k:=by rw [←h.hk i hin];exact(List.getElem?_eq_some_iff.1 hc).1
   have cO:i*k+j<eN.length:=by
    rw [h.len];have Z:(i+1)*k≤n*k:=Nat.mul_le_mul_right k hin;rw [Nat.add_mul]at Z;omega
   rw [List.getElem?_append_left cO]at hu;exact h.rep i j c u hin hc hu
  ·rw [if_neg hin]at hc;have W9:n*k≤i*k:=Nat.mul_le_mul_right k (by omega)
   rw [List.getElem?_append_right (by rw [h.len];omega),h.len]at hu
   have:i*k+j-n*k=(i-n)*k+j:=by rw [Nat.sub_mul];omega
   rw [this]at hu;exact ab.rep (i-n) j c u (by omega) hc hu
def lE.mono{M':Mem}(cX:M.le M'){k n:Nat}{get:Nat→V}{eN:List Value}(h:lE M k n get eN):lE M' k n get eN:=
 ⟨h.len,h.hk,h.one,λi j c u hi hc hu=>(h.rep i j c u hi hc hu).mono cX⟩
def lE.bM{k n cap b off:Nat}{get:Nat→V}{eN:List Value}(h:lE M k n get eN)(hc:n≤cap)(cX:∀(q:Nat) u,eN[q]? = some u→M b (off+q)=some u):
 dj M (.slice (some ⟨b,off,none⟩) n cap) (.bM k n get):=by
 have hin:∀i j,i<n→j<k→eN[i*k+j]? = some (eN.getD (i*k+j) undef):=λi j hi hj=>agH h.len hi hj
 refine .bM b off k n cap get (λi j=>eN.getD (i*k+j) undef) hc h.hk (λi j hi hj=>?_) (λi j hi hj=>Gs h.one (hin i j hi hj)) (λi j c hi l_=>?_)
 ·rw [Nat.add_assoc];exact cX _ _ (hin i j hi hj)
 ·have hj:j<k:=by rw [←h.hk i hi];exact(List.getElem?_eq_some_iff.1 l_).1
  exact h.rep i j c _ hi l_ (hin i j hi hj)
def agZ(t hN ty e:TypeId)(i:TypeInfo)(aF:P.underlying t=some (.slice e))(hi:P.info? e=some i)(b vA ma:Nat)(x:Value)(n:Nat)(news:List Value)(hs:Src P i.size hN x n news w)
 (gr:vA+n≤ma) {vs:List Value} {T:TypeId} (bm:w.heap[b]? = some (.cells ⟨vs⟩ T (0,0))) (hle:vA*i.size+news.length≤vs.length):
 (Builtin.append_ #[t,hN] ty #[.slice (some ⟨b,0,none⟩) vA ma,x]).run P w = .ok (.slice (some ⟨b,0,none⟩) (vA+n) ma) (w.setRow b (vs.take (vA*i.size)++news++vs.drop (vA*i.size+news.length)).toArray):=by
 have dE:=run_storeCells_at P b (vA*i.size) T news 0 ⟨vs⟩ w bm (by simpa using hle) hs.one
 simp only [Nat.add_zero]at dE;rcases hs.kind with⟨aZ,hk⟩|hk<;>simp [Builtin.append_,run_underlying aF,run_underlying hk,sizeOf,typeInfo,hi,hs.len,gr,hs.cells,addr_add,dE]
def ag0(t hN ty e:TypeId)(i:TypeInfo)(aF:P.underlying t=some (.slice e))(hi:P.info? e=some i)(x:Value)(news:List Value)(hs:Src P i.size hN x 0 news w):
 (Builtin.append_ #[t,hN] ty #[.slice none 0 0,x]).run P w = .ok (.slice none 0 0) w:=by
 rcases hs.kind with⟨aZ,hk⟩|hk<;>simp [Builtin.append_,run_underlying aF,run_underlying hk,sizeOf,typeInfo,hi,hs.len,hs.cells]
def Gz{t hN:TypeId}{a x:Operand}{c:Call}(aw:o.op = .call c)(hc:c.callee = .builtin .append)(e9:c.args.toList=[a,x])(hl:c.argTypes.toList[0]? = some t)(o1:c.argTypes.toList[1]? = some hN)
 {h2 NL:Value} (ha:(⟨tmps,[]⟩:Act).eval a=h2) (hx:(⟨tmps,[]⟩:Act).eval x=NL) {v:Value} {w':World}
 (h:∀ty,(Builtin.append_ #[t,hN] ty #[h2,NL]).run P w = .ok v w'):
 (execOp (Act.eval ⟨tmps,[]⟩) o).run P w = .ok (.value v) w':=by
 have vB:c.args = #[a,x]:=by apply Array.ext';simpa using e9
 have NM:∀ty,(Builtin.append_ c.argTypes ty #[h2,NL]).run P w = .ok v w':=by
  intro ty;have h0:c.argTypes[0]? = some t:=by simpa using hl
  have Z:c.argTypes[1]? = some hN:=by simpa using o1
  have:=h ty
  simp only [Builtin.append_,h0,Z]at this ⊢;exact this
 simp only [execOp,aw,resolve,hc,vB,Sem.run_bind,Sem.run_pure,Result.andThen_ok,invoke,builtin,List.map_toArray,List.map_cons,List.map_nil,ha,hx];simp [NM]
def ag1(h:fG P K N M β g tmps w)(hp:fF tmps p)(cf:ff P tt=true){t hN e:TypeId}{aH co:d9}(aa:look tt t=some aH)(hk:aH.k = .bM e)(eH:look tt e=some co){s:Nat}{x:Operand}{c:Call}
 (aw:o.op = .call c) (hc:c.callee = .builtin .append) (e9:c.args.toList=[.tmp s,x]) (hl:c.argTypes.toList[0]? = some t) (o1:c.argTypes.toList[1]? = some hN)
 {n m:Nat} {get mp:Nat→V} (hs:rd g.env g.b5 p tt o.type (.tmp s)=some (.full co.size n get)) (Cb:1≤co.bytes) (hm:1≤m)
 {news:List Value} (iW:Src P co.size hN ((⟨tmps,[]⟩:Act).eval x) m news w) (lF:lE M co.size m mp news) (gr:(n+m)*co.bytes≤140737488355328)
 {y:V} (b6:hv (.bM co.size (n+m) λi=>bif Nat.blt i n then get i else mp (i-n)) y) {rs:List fu} {a':List Prop}:
 Yields P K M β g {e:=some {d:=.v y,own:=some e},hy:=[s],rs,a'} o tmps w:=by
 obtain⟨r⟩:=ez cf aa;obtain⟨dV⟩:=ez cf eH;have o0:=h.bq.hy [s];have eI:=ed (ds:=[]) h hp hs;have Cc:P.underlying t=some (.slice e):=by rw [r.hd,pT r hk]
 have vC:(⟨tmps,[]⟩:Act).eval (.tmp s)=tmps.getD s undef:=rfl;rw [vC]at eI
 have sr:∃base,tmps.getD s undef = .slice base n n∧dj M (.slice base n n) (.bM co.size n get):=by
  generalize tmps.getD s undef=h2 at eI
  cases eI with
  |full base k n get h=>exact⟨base,rfl,h⟩
 obtain⟨base,av,f5⟩:=sr;have cO:n<n+m:=by omega
 have vD:∃eN:List Value,lE M co.size n get eN∧∀w':World,w'.heap=w.heap→(Builtin.firstCells co.size n (.slice base n n)).run P w' = .ok eN.toArray w':=by
  rcases NK (cw.v _ _ f5:cw M β _ _) with⟨tM|⟨a,tM⟩,ko⟩|⟨b,off,cap,eN,tM,hcap,holds,hold⟩
  ·simp only [Value.slice.injEq]at tM;obtain⟨rfl,rfl,_⟩:=tM;exact⟨[],ym _ _,λw' _=>run_firstCells_none w' co.size 0 0 0⟩
  ·simp only [Value.slice.injEq]at tM;obtain⟨rfl,rfl,_⟩:=tM;refine⟨[],ym _ _,λw' og=>?_⟩
   exact run_firstCells_some (P:=P) w' co.size 0 a 0 0 [] (by simp) (λj u hj=>by simp at hj)
  ·simp only [Value.slice.injEq]at tM;obtain⟨rfl,_,rfl⟩:=tM;refine⟨eN,holds,λw' og=>?_⟩
   refine run_firstCells_some (P:=P) w' co.size n ⟨b,off,none⟩ n n eN (by rw [holds.len]) (λj u hj=>?_)
   rw [addr_add,sk (w:=w) (by rw [og])]
   exact h.bq.mem _ _ _ (hold j u hj)
 obtain⟨eN,holds,vD⟩:=vD
 have NN:((n+m:Nat):Int)≤9223372036854775807:=by
  have:n+m≤(n+m)*co.bytes:=Nat.le_mul_of_pos_right _ Cb
  omega
 have NO:=growslice_fits (need:=n+m) (old:=n) (bytes:=co.bytes) cO gr;have hcap:=grownCap_ge w (n+m) n e;have ss:=holds.app lF
 have vE:dV.z.cells.size=co.size:=by
  obtain⟨lA,_⟩:=yf (M:=M) dV.B5;have:=dV.Ng
  simp at lA;omega
 generalize vw:(Builtin.zeroCells dV.z.cells (grownCap w (n+m) n e-(n+m))).toList=zs
 have NP:Builtin.zeroCells dV.z.cells (grownCap w (n+m) n e-(n+m))=zs.toArray:=by rw [←vw]
 have NQ:zs.length=(grownCap w (n+m) n e-(n+m))*co.size:=by
  rw [←vw];simp [Builtin.zeroCells,vE]
 have eM:∀ty,(Builtin.append_ #[t,hN] ty #[tmps.getD s undef,(⟨tmps,[]⟩:Act).eval x]).run P w =
  .ok (.slice (some ⟨w.heap.size,0,none⟩) (n+m) (grownCap w (n+m) n e)) (w.drew.alloc (.cells ⟨eN++news++zs⟩ e (0,0))):=by
  intro ty;have:=run_append_grow_src (P:=P) w t hN ty e dV.info dV.z Cc dV.hi dV.dG base n n eN (by rw [dV.size];exact vD w.drew rfl) _ m news (by rw [dV.size];exact iW) cO NN (by rw [dV.bytes];exact NO)
  rw [av,this,NP];simp
 have og:(w.drew.alloc (.cells ⟨eN++news++zs⟩ e (0,0))).heap=w.heap.push (.cells ⟨eN++news++zs⟩ e (0,0)):=rfl
 have NR:(eN++news++zs).length=grownCap w (n+m) n e*co.size:=by
  rw [List.length_append,ss.len,NQ,←Nat.add_mul];congr 1;omega
 obtain⟨cT,hle⟩:=o0.newRow (vs:=eN++news++zs) (T:=e) (n:=(n+m)*co.size) og
 have B9:(eN++news++zs).take ((n+m)*co.size)=eN++news:=by
  rw [List.take_append_of_le_length (by rw [ss.len];exact Nat.le_refl _),List.take_of_length_le (by rw [ss.len];exact Nat.le_refl _)]
 refine .inl ⟨_,_,Gz aw hc e9 hl o1 vC rfl eM,_,β,hle,λ_ _ h=>h,λ_ _ h=>.inl h,cT,λe1 he=>?_⟩
 cases he;refine⟨.v _ _ (b6 _ _ ((ss.mono hle).bM hcap λq u hu=>?_)),λT l0 aC=>?_⟩
 ·rw [B9];exact Gu hu
 ·cases aC;have:=Nx (l0:=l0) (T:=e) o0 (vs:=eN++news++zs) (T':=e) (n:=n+m) (cap:=grownCap w (n+m) n e) rfl og hcap (by rw [dV.cellsOf,NR];exact Nat.le_refl _)
  rw [dV.cellsOf]at this;exact this
def W'(h:fG P K N M β g tmps w)(hp:fF tmps p)(cf:ff P tt=true){t hN e:TypeId}{aH co:d9}(aa:look tt t=some aH)(hk:aH.k = .bM e)(eH:look tt e=some co){s:Nat}{x:Operand}{c:Call}
 (aw:o.op = .call c) (hc:c.callee = .builtin .append) (e9:c.args.toList=[.tmp s,x]) (hl:c.argTypes.toList[0]? = some t) (o1:c.argTypes.toList[1]? = some hN)
 {n m:Nat} {get mp:Nat→V} (hs:rd g.env g.b5 p tt o.type (.tmp s)=some (.v (.bM co.size n get))) {yl:aW} (vz:look g.env s=some yl) (f0:yl.own=some e) (Cb:1≤co.bytes)
 {news:List Value} (iW:Src P co.size hN ((⟨tmps,[]⟩:Act).eval x) m news w) (lF:lE M co.size m mp news) (gr:(n+m)*co.bytes≤140737488355328)
 {y:V} (b6:hv (.bM co.size (n+m) λi=>bif Nat.blt i n then get i else mp (i-n)) y) {rs:List fu} {a':List Prop}:
 Yields P K M β g {e:=some {d:=.v y,own:=some e},hy:=[s],rs,a'} o tmps w:=by
 obtain⟨r⟩:=ez cf aa;obtain⟨dV⟩:=ez cf eH;have o0:=h.bq.hy [s];have eI:=ed (ds:=[]) h hp hs;have Cc:P.underlying t=some (.slice e):=by rw [r.hd,pT r hk]
 have vC:(⟨tmps,[]⟩:Act).eval (.tmp s)=tmps.getD s undef:=rfl;rw [vC]at eI;have Cd:=h.bq.own (.slot s) yl e vz f0;simp only [ce]at Cd;have Ce:=h.bq.hand vz f0
 -- l' row ag2 is grown
 have W_:∀(base:Option Addr) (ma:Nat) (eN:List Value),tmps.getD s undef = .slice base n ma→lE M co.size n get eN→
  (∀w':World,w'.heap=w.heap→(Builtin.firstCells co.size n (.slice base n ma)).run P w' = .ok eN.toArray w')→ma<n+m→
  Yields P K M β g {e:=some {d:=.v y,own:=some e},hy:=[s],rs,a'} o tmps w:=by
  intro base ma eN av holds vD cO
  have NN:((n+m:Nat):Int)≤9223372036854775807:=by
   have:n+m≤(n+m)*co.bytes:=Nat.le_mul_of_pos_right _ Cb
   omega
  have NO:=growslice_fits (need:=n+m) (old:=ma) (bytes:=co.bytes) cO gr;have hcap:=grownCap_ge w (n+m) ma e;have ss:=holds.app lF
  have vE:dV.z.cells.size=co.size:=by
   obtain⟨lA,_⟩:=yf (M:=M) dV.B5;have:=dV.Ng
   simp at lA;omega
  generalize vw:(Builtin.zeroCells dV.z.cells (grownCap w (n+m) ma e-(n+m))).toList=zs
  have NP:Builtin.zeroCells dV.z.cells (grownCap w (n+m) ma e-(n+m))=zs.toArray:=by rw [←vw]
  have NQ:zs.length=(grownCap w (n+m) ma e-(n+m))*co.size:=by
   rw [←vw];simp [Builtin.zeroCells,vE]
  have eM:∀ty,(Builtin.append_ #[t,hN] ty #[tmps.getD s undef,(⟨tmps,[]⟩:Act).eval x]).run P w =
   .ok (.slice (some ⟨w.heap.size,0,none⟩) (n+m) (grownCap w (n+m) ma e)) (w.drew.alloc (.cells ⟨eN++news++zs⟩ e (0,0))):=by
   intro ty;have:=run_append_grow_src (P:=P) w t hN ty e dV.info dV.z Cc dV.hi dV.dG base n ma eN (by rw [dV.size];exact vD w.drew rfl) _ m news (by rw [dV.size];exact iW) cO NN (by rw [dV.bytes];exact NO)
   rw [av,this,NP];simp
  have og:(w.drew.alloc (.cells ⟨eN++news++zs⟩ e (0,0))).heap=w.heap.push (.cells ⟨eN++news++zs⟩ e (0,0)):=rfl
  have NR:(eN++news++zs).length=grownCap w (n+m) ma e*co.size:=by
   rw [List.length_append,ss.len,NQ,←Nat.add_mul];congr 1;omega
  obtain⟨cT,hle⟩:=o0.newRow (vs:=eN++news++zs) (T:=e) (n:=(n+m)*co.size) og
  have B9:(eN++news++zs).take ((n+m)*co.size)=eN++news:=by
   rw [List.take_append_of_le_length (by rw [ss.len];exact Nat.le_refl _),List.take_of_length_le (by rw [ss.len];exact Nat.le_refl _)]
  refine .inl ⟨_,_,Gz aw hc e9 hl o1 vC rfl eM,_,β,hle,λ_ _ h=>h,λ_ _ h=>.inl h,cT,λe1 he=>?_⟩
  cases he;refine⟨.v _ _ (b6 _ _ ((ss.mono hle).bM hcap λq u hu=>?_)),λT l0 aC=>?_⟩
  ·rw [B9];exact Gu hu
  ·cases aC;have:=Nx (l0:=l0) (T:=e) o0 (vs:=eN++news++zs) (T':=e) (n:=n+m) (cap:=grownCap w (n+m) ma e) rfl og hcap (by rw [dV.cellsOf,NR];exact Nat.le_refl _)
   rw [dV.cellsOf]at this;exact this
 replace Cd:=ki.bM Cd eI
 have b7:(tmps.getD s undef = .slice none 0 0∧n=0)∨∃(b off cap:Nat) (eN:List Value),tmps.getD s undef = .slice (some ⟨b,off,none⟩) n cap∧n≤cap∧lE M co.size n get eN∧∀(q:Nat) u,eN[q]? = some u→M b (off+q)=some u:=by
  rcases NK eI with⟨av|⟨a,av⟩,ko⟩|hx
  ·exact .inl ⟨av,ko⟩
  ·subst ko;rcases Cd with h0|⟨bJ,n',Xa,vs,T',Z,_⟩
   ·exact .inl ⟨h0,rfl⟩
   ·rw [av]at Z;simp only [Value.slice.injEq,Option.some.injEq]at Z;obtain⟨rfl,rfl,rfl⟩:=Z;exact .inr ⟨bJ,0,0,[],av,Nat.le_refl _,ym _ _,λq u hu=>by simp at hu⟩
  ·exact .inr hx
 rcases b7 with⟨av,ko⟩|⟨b,off,cap,eN,av,hcap,holds,hold⟩
 ·subst ko;by_cases hm:m=0
  ·subst hm;refine .inl ⟨_,_,Gz aw hc e9 hl o1 (vC.trans av) rfl (λty=>ag0 (w:=w) t hN ty e dV.info Cc dV.hi _ news (by rw [dV.size];exact iW)),M,β,Mem.le_refl _,λ_ _ h=>h,λ_ _ h=>.inl h,o0,λe1 he=>?_⟩
   cases he;exact⟨.v _ _ (b6 _ _ (.l7 _ _)),λT l0 _=>Na l0 T⟩
  ·refine W_ none 0 [] av (ym _ _) (λw' _=>run_firstCells_none w' co.size 0 0 0) (by omega)
 ·by_cases cO:cap<n+m
  ·refine W_ (some ⟨b,off,none⟩) cap eN av holds (λw' og=>?_) cO
   refine run_firstCells_some (P:=P) w' co.size n ⟨b,off,none⟩ n cap eN (by rw [holds.len]) (λj u hj=>?_)
   rw [addr_add,sk (w:=w) (by rw [og])]
   exact h.bq.mem _ _ _ (hold j u hj)
  · -- there is room
   rcases Cd with h0|⟨bJ,n',Xa,vs,T',Z,aug,bm,nw,kF,dF,Ny⟩
   ·rw [av]at h0;simp at h0
   ·rw [av]at Z;simp only [Value.slice.injEq,Option.some.injEq,Addr.mk.injEq,and_true]at Z;obtain⟨⟨rfl,rfl⟩,rfl,rfl⟩:=Z;rw [dV.cellsOf]at nw kF
    have hlen:n*co.size+news.length≤vs.length:=by
     rw [lF.len,←Nat.add_mul];exact Nat.le_trans (Nat.mul_le_mul_right _ (by omega)) nw
    have eM:∀ty,(Builtin.append_ #[t,hN] ty #[tmps.getD s undef,(⟨tmps,[]⟩:Act).eval x]).run P w =
     .ok (.slice (some ⟨b,0,none⟩) (n+m) cap) (w.setRow b (vs.take (n*co.size)++news++vs.drop (n*co.size+news.length)).toArray):=by
     intro ty;have:=agZ (P:=P) (w:=w) t hN ty e dV.info Cc dV.hi b n cap _ m news (by rw [dV.size];exact iW) (by omega) bm (by rw [dV.size];exact hlen)
     rw [dV.size]at this;rw [av,this]
    generalize Xb:vs.take (n*co.size)++news++vs.drop (n*co.size+news.length)=vs' at eM
    have ag3:vs'.length=vs.length:=by rw [←Xb,vx hlen]
    have qW:(w.setRow b vs'.toArray).heap[b]? = some (.cells ⟨vs'⟩ T' (0,0)):=setRow_heap w b _ _ T' (0,0) bm;have hle:M.le (jl M b (n*co.size) news):=Nw kF;have kD:∀T,jg T (tmps.getD s undef) b:=λT=>by rw [av];rfl
    have cT:bL P K (jl M b (n*co.size) news) β {env:=gW [s] g.env,H:=g.H,aY:=g.aY} tmps (w.setRow b vs'.toArray):=by
     refine o0.free b dF (λr cs ai hb=>(Ce (.slot s)).unbox b r cs (kD _) ai hb) (λl e1 hh e6 tN=>?_) (λbJ dk _=>setRow_other w b bJ _ dk) hle (λbJ o' dk=>?_) (λo' jB o2=>?_)
     ·by_cases GA:l = .slot s
      ·subst GA;simp only [aI.at,nu,List.mem_singleton,if_true,Option.map_eq_some_iff]at e6;obtain⟨_,_,rfl⟩:=e6;simp at tN
      ·exact(Ce (.slot s)).apart l e1 hh b e6 tN GA (kD _)
     ·simp [jl,dk]
     ·rw [cell_of_heap qW,←Xb,B' hlen];unfold jl at o2;split at o2
      ·rename_i kj;rw [if_pos ⟨kj.2.1,kj.2.2⟩];exact o2
      ·rename_i kj;rw [if_neg (λCf=>kj ⟨rfl,Cf.1,Cf.2⟩)]
       have:=h.bq.mem _ _ _ o2
       rwa [cell_of_heap bm]at this
    refine .inl ⟨_,_,Gz aw hc e9 hl o1 vC rfl eM,_,β,hle,λ_ _ h=>h,λ_ _ h=>.inl h,cT,λe1 he=>?_⟩
    cases he;refine⟨.v _ _ (b6 _ _ (((holds.app lF).mono hle).bM (by omega) λq u hu=>?_)),λT l0 aC=>?_⟩
    ·by_cases au:q<eN.length
     ·rw [List.getElem?_append_left au]at hu;exact hle _ _ _ (hold q u hu)
     ·rw [List.getElem?_append_right (by omega)]at hu
      have:=Gu (M:=M) (b:=b) (lo:=n*co.size) hu
      rw [holds.len]at this;rw [Nat.zero_add];have pW:n*co.size+(q-n*co.size)=q:=by rw [holds.len]at au;omega
      rwa [pW]at this
    ·cases aC;refine⟨.inr ⟨b,n+m,cap,vs',T',rfl,by omega,qW,by rw [dV.cellsOf,ag3];exact nw,λo' k3=>?_,dF,Ny⟩,λl e1 hh cb e6 tN _ cy=>?_,λcb r cs cy ai=>?_⟩
     ·rw [dV.cellsOf,Nat.add_mul]at k3;unfold jl;rw [if_neg (λCf=>by rw [lF.len]at Cf;omega)]
      exact kF o' (by omega)
     ·simp [jg,kh]at cy;subst cy
      have GA:l ≠ .slot s:=by
       rintro rfl
       simp only [after,aI.at,nu,List.mem_singleton,if_true,Option.map_eq_some_iff]at e6;obtain⟨_,_,rfl⟩:=e6;simp at tN
      have ag4:ce tmps (w.setRow b vs'.toArray) β l=ce tmps w β l:=by
       cases l with
       |slot sl=>rfl
       |cell r i=>
        have eH:=e6;simp only [after,aI.at]at eH;cases ai:look g.H r with
        |none=>simp [ai]at eH
        |some cs=>
         obtain⟨jn,ag5,pS,eV,Xc,_⟩:=h.bq.box r cs ai;have dk:jn≠b:=by rintro rfl;exact(Ce (.slot s)).unbox jn r cs (kD _) ai eV
         simp only [ce,eV];rw [sk (w:=w) (setRow_other w b jn _ dk)]
      rw [ag4];exact(Ce (.slot s)).apart l e1 hh b e6 tN GA (kD _)
     ·simp [jg,kh]at cy;subst cy;exact(Ce (.slot s)).unbox b r cs (kD _) ai
def Xd(h:bL P K M β {env:=g.env,H:=g.H,aY:=g.aY} tmps w)(cf:ff P tt=true){hN e2:TypeId}{aH:d9}(aa:look tt hN=some aH)(hk:aH.k = .bM e2){v:Value}{k m:Nat}{get:Nat→V}
 (av:cw M β v (.v (.bM k m get))):∃news,Src P k hN v m news w∧lE M k m get news:=by
 obtain⟨r⟩:=ez cf aa;have hu:P.underlying hN=some (.slice e2):=by rw [r.hd,pT r hk]
 rcases NK av with⟨rfl|⟨a,rfl⟩,rfl⟩|⟨b,off,cap,eN,rfl,_,lF,hold⟩
 ·exact⟨[],Src.ofNil w hu 0,ym _ _⟩
 ·exact⟨[],Src.ofSlice w hu a 0 0 [] (by simp) (λj u hj=>by simp at hj) (by simp),ym _ _⟩
 ·have hc:∀(j:Nat) u,eN[j]? = some u→w.cell? ((⟨b,off,none⟩:Addr).add j)=some u:=λj u hj=>by rw [addr_add];exact h.mem _ _ _ (hold j u hj)
  exact⟨eN,Src.ofSlice w hu _ m cap eN lF.len hc lF.one,lF⟩
def ag6(cf:ff P tt=true){hN:TypeId}{aH:d9}(aa:look tt hN=some aH)(hk:aH.k = .str)(l:av3)(M:Mem):
 ∃news,Src P 1 hN (.string ⟨⟨l⟩⟩) l.length news w∧lE M 1 l.length (λi=>.int .u8 (l.getD i 0).toNat) news:=by
 obtain⟨r⟩:=ez cf aa;have hu:P.underlying hN=some .string:=by rw [r.hd,qU r hk]
 refine⟨byteCells ⟨⟨l⟩⟩,Src.ofString w hu ⟨⟨l⟩⟩,⟨by simp [byteCells],λi _=>rfl,λu hu=>?_,λi j c u hi hc hu=>?_⟩⟩
 ·obtain⟨_,_,rfl⟩:=List.mem_map.1 hu;rfl
 ·cases j with
  |succ j=>simp [V.cells]at hc
  |zero=>
   simp [V.cells]at hc;subst hc;simp only [byteCells,Nat.mul_one,Nat.add_zero,List.getElem?_map,Option.map_eq_some_iff]at hu;obtain⟨a,ha,rfl⟩:=hu;have:l[i]? = some a:=ha
   simp [this];exact .int _ _
end
def su:Nat→List D→List (Nat×TypeId)→List aW
 |_,[],_=>[]
 |i,d::l,es=>{d,own:=look es i}::su (i+1) l es
def h3(args:List D)(es:List (Nat×TypeId)):List (Nat×aW):=cY 0 (su 0 args es)
def Cg:∀(l:List D) (k i:Nat) (es:List (Nat×TypeId)),(su k l es)[i]? = (l[i]?).map λd=>({d,own:=look es (k+i)}:aW)
 |[],k,i,es=>by simp [su]
 |d::l,k,i,es=>by
  cases i with
  |zero=>simp [su]
  |succ i=>
   simp only [su,List.getElem?_cons_succ,Cg l (k+1) i es];rw [show k+1+i=k+(i+1)by omega]
def ia:Out→List (Nat×aW)
 |.ret d own=>[(0,{d,own})]
 |.bl x=>[(0,{d:=.v x})]
def q2:Out→Value→Ending
 |.ret _ _,v=>.returned v
 |.bl _,v=>.panicked [{v,recovered:=false}]
def q3(P:Program)(f:FuncId)(args:List D)(es:List (Nat×TypeId))(H:List (List aW))(R:Out→List (List aW)→Prop):Prop:=
 (∃ fd, P.funcs[f]? = some fd ∧ fd.body.isSome = true ∧ fd.name ≠ "runtime.NumGoroutine") ∧
 ∀(K:Ctx) (w:World) (vs:List Value) (M:Mem) (β:Nat→Option Nat),vs.length=args.length→
  bL P K M β {env:=h3 args es,H:=cY 0 H,aY:=H.length} ⟨vs⟩ w→(∀r b,β r=some b→K.jO r=some b)→
  Calls P f ⟨vs⟩ w λe w'=>∃o H' v M' β',R o H'∧e=q2 o v∧bL P K M' β' {env:=ia o,H:=cY 0 H',aY:=H.length} #[v] w'
def q3.mono{P:Program}{f:FuncId}{args:List D}{es:List (Nat×TypeId)}{H:List (List aW)}{R nx:Out→List (List aW)→Prop}(h:q3 P f args es H R)(ai:∀o H',R o H'→nx o H'):q3 P f args es H nx:=
 ⟨h.1,λK w vs M β aa hs hb=>(h.2 K w vs M β aa hs hb).mono λ_ _ ⟨o,H',v,M',β',Z,ab,aj⟩=>⟨o,H',v,M',β',ai _ _ Z,ab,aj⟩⟩
def gX(P:Program)(f:FuncId)(args:List D)(es:List (Nat×TypeId))(H:List (List aW))(o:Out)(cH:List (List aW)):Prop:=q3 P f args es H λo' H'=>o'=o∧H'=cH
def hO(P:Program):gH:={call:=gX P,eq:=Nd P}
def Xe{α:Type}:∀(l:List α) (n i:Nat),look (cY n l) i=if n≤i then l[i-n]? else none
 |[],n,i=>by simp [cY,look]
 |x::l,n,i=>by
  simp only [cY,dy,Xe l (n+1) i];by_cases Z:n=i
  ·subst Z;simp
  ·rw [if_neg Z];by_cases ab:n≤i
   ·rw [if_pos (by omega),if_pos ab]
    obtain⟨j,rfl⟩:∃j,i=n+1+j:=⟨i-(n+1),by omega⟩
    rw [show n+1+j-(n+1)=j by omega,show n+1+j-n=j+1 by omega]
    simp
   ·rw [if_neg (by omega),if_neg ab]
def ny{α:Type}(l:List α)(i:Nat):look (cY 0 l) i=l[i]? := by simp [Xe]
def GB:∀{ρ:List Nat} {r j:Nat},idx ρ r=some j→ρ[j]? = some r
 |[],_,_,h=>by simp [idx]at h
 |x::l,r,j,h=>by
  simp only [idx]at h;rw [Bool.cond_eq_ite]at h;split at h
  ·rename_i hb;cases h;simp at hb;simp [hb]
  ·simp only [Option.map_eq_some_iff]at h;obtain⟨k,hk,rfl⟩:=h;simpa using GB hk
def GC:∀{l:List Nat},nt l=true→∀(i j:Nat) r,l[i]? = some r→l[j]? = some r→i=j
 |[],_,i,_,_,h,_=>by simp at h
 |x::l,h,i,j,r,hi,hj=>by
  simp only [nt,Bool.and_eq_true,Bool.not_eq_true',List.any_eq_false]at h;have hx:∀k,l[k]? = some x→False:=λk hk=>by have:=h.1 x (List.mem_of_getElem? hk);simp at this
  cases i<;>cases j
  ·rfl
  ·simp at hi hj;subst hi;exact(hx _ hj).elim
  ·simp at hi hj;subst hj;exact(hx _ hi).elim
  ·simp at hi hj;rw [GC h.2 _ _ r hi hj]
def vF{H:List (Nat×List aW)}:∀{ρ:List Nat} {bs:List (List aW)},boxes H ρ=some bs→bs.length=ρ.length∧∀(j r:Nat),ρ[j]? = some r→look H r=bs[j]? ∧ (bs[j]?).isSome=true
 |[],bs,h=>by simp [boxes]at h;subst h;simp
 |x::ρ,bs,h=>by
  simp only [boxes]at h;split at h
  case h_2=>cases h
  rename_i b pX hb k6;cases h;obtain⟨Z,ab⟩:=vF k6;refine⟨by simp [Z],λj r hj=>?_⟩
  cases j with
  |zero=>simp at hj;subst hj;simp [hb]
  |succ j=>simp at hj;simpa using ab j r hj
def yn{f:Nat→Option Nat}:∀{b bJ:List aW},ns f b=some bJ→bJ.length=b.length∧∀(i:Nat) aZ,bJ[i]? = some aZ→∃e,b[i]? = some e∧eD f e.d=some aZ.d∧aZ.own=e.own
 |[],bJ,h=>by simp [ns]at h;subst h;simp
 |e::l,bJ,h=>by
  simp only [ns]at h;split at h
  case h_2=>cases h
  rename_i e1 hL he aa;cases h;obtain⟨Z,ab⟩:=yn aa;refine⟨by simp [Z],λi aZ hi=>?_⟩
  cases i with
  |zero=>
   simp at hi;subst hi
   simp only [Gb,Option.map_eq_some_iff]at he;obtain⟨d,hd,rfl⟩:=he;exact⟨e,by simp,hd,rfl⟩
  |succ i=>simp at hi;simpa using ab i aZ hi
def ag7{f:Nat→Option Nat}{d:D}{r off:Nat}{u:TypeId}(h:eD f d=some (.cu r off u)):∃dM,d = .cu dM off u:=by
 cases d with
 |cu dM auh ol=>
  simp only [eD,Option.map_eq_some_iff]at h;obtain⟨s,_,ab⟩:=h;cases ab;exact⟨dM,rfl⟩
 |v x=>simp [eD]at h
 |e8 x=>simp [eD]at h
 |full k n get=>simp [eD]at h
 |ptr dM o=>simp [eD]at h
 |fn g c=>simp [eD]at h
 |agg c=>simp [eD]at h
 |cn c=>simp [eD]at h
def lz.eD{P:Program}{T:TypeId}{n:Nat}{f:Nat→Option Nat}{b bJ:List aW}(h:lz P T n b)(ai:ns f b=some bJ):lz P T n bJ:=λe he r off u hd=>by
 obtain⟨i,hi,rfl⟩:=List.getElem_of_mem he;obtain⟨bG,Z,ab,_⟩:=(yn ai).2 i _ (List.getElem?_eq_getElem hi);rw [hd]at ab;obtain⟨dM,aj⟩:=ag7 ab;exact h bG (List.mem_of_getElem? Z) dM off u aj
def yo{f:Nat→Option Nat}:∀{bs pX:List (List aW)},ke f bs=some pX→pX.length=bs.length∧∀(j:Nat) bJ,pX[j]? = some bJ→∃b,bs[j]? = some b∧ns f b=some bJ
 |[],pX,h=>by simp [ke]at h;subst h;simp
 |b::l,pX,h=>by
  simp only [ke]at h;split at h
  case h_2=>cases h
  rename_i cb hL hb aa;cases h;obtain⟨Z,ab⟩:=yo aa;refine⟨by simp [Z],λj bJ hj=>?_⟩
  cases j with
  |zero=>simp at hj;subst hj;exact⟨b,by simp,hb⟩
  |succ j=>simp at hj;simpa using ab j bJ hj
def NS{H:List (Nat×List aW)}:∀{ρ:List Nat} {bs:List (List aW)},bs.length=ρ.length→nt ρ=true→∀r,
 (∀(j:Nat),ρ[j]? = some r→look (ly ρ bs++H) r=bs[j]?)∧((∀(j:Nat),ρ[j]? ≠ some r)→look (ly ρ bs++H) r=look H r)
 |[],bs,_,_,r=>by simp [ly]
 |x::ρ,[],h,_,_=>by simp at h
 |x::ρ,b::bs,h,hn,r=>by
  have Gk:nt ρ=true:=by simp [nt]at hn;exact hn.2
  obtain⟨Z,ab⟩:=NS (H:=H) (ρ:=ρ) (bs:=bs) (by simpa using h) Gk r
  simp only [ly,List.cons_append,dy];refine⟨λj hj=>?_,λhj=>?_⟩
  ·by_cases hx:x=r
   ·have:j=0:=GC hn j 0 r hj (by simp [hx])
    subst this;simp [hx]
   ·cases j with
    |zero=>simp at hj;exact(hx hj).elim
    |succ j=>simp at hj;rw [if_neg hx];simpa using Z j hj
  ·have hx:x≠r:=λe=>hj 0 (by simp [e])
   rw [if_neg hx];exact ab λj=>by simpa using hj (j+1)
section
variable {P:Program} {K:Ctx} {N:Nat} {M:Mem} {β:Nat→Option Nat} {st:aI} {g:dg} {tmps:Array Value} {w:World} {o:Oper} {f:lw} {p:Path} {tt:dD} {cm:gH} {ops:List Oper}
def Ch(ρ os:List Nat):Loc→Prop
 |.cell r _=>r∈ρ
 |.slot t=>t∈os
def q4(st:aI)(tmps:Array Value)(w:World)(β:Nat→Option Nat)(ρ os:List Nat)(b:Nat):Prop:=
 (∃r,r∈ρ∧β r=some b)∨∃l e T,Ch ρ os l∧st.at l=some e∧e.own=some T∧jg T (ce tmps w β l) b
open Classical in
noncomputable def kG(M:Mem)(β:Nat→Option Nat)(st:aI)(tmps:Array Value)(w:World)(ρ os:List Nat):Ctx:=
 {vl:=M,F:=λb=>if q4 st tmps w β ρ os b then none else w.heap[b]?,jO:=λj=>(ρ[j]?).bind β,hY:=(w.os,w.output)}
structure Handed(st:aI)(tmps:Array Value)(vs:List Value)(hd:List (Nat×Option Nat×TypeId)):Prop where
 some:∀i t T,(i,Option.some t,T)∈hd→∃e,st.at (.slot t)=Option.some e∧e.own=Option.some T∧vs[i]? = Option.some (tmps.getD t undef)
 none:∀i T,(i,Option.none,T)∈hd→vs[i]? = Option.some (.slice Option.none 0 0)
 inj:∀i j t T T',(i,Option.some t,T)∈hd→(j,Option.some t,T')∈hd→i=j
def tO(hd:List (Nat×Option Nat×TypeId)):List (Nat×TypeId):=hd.map λx=>(x.1,x.2.2)
def q5(hd:List (Nat×Option Nat×TypeId)):List Nat:=hd.filterMap λx=>x.2.1
def ag8{hd:List (Nat×Option Nat×TypeId)}{i:Nat}{T:TypeId}(h:look (tO hd) i=some T):∃o,(i,o,T)∈hd:=by
 have:=sm h
 simp only [tO,List.mem_map]at this;obtain⟨⟨a,o,T'⟩,Z,ab⟩:=this;cases ab;exact⟨o,Z⟩
def ag9{hd:List (Nat×Option Nat×TypeId)}{i t:Nat}{T:TypeId}(h:(i,some t,T)∈hd):t∈q5 hd:=by
 simp only [q5,List.mem_filterMap];exact⟨_,h,rfl⟩
def GD(ρ:List Nat)(hd:List (Nat×Option Nat×TypeId))(T:TypeId):Loc→Loc→Prop
 |.cell j i,.cell r mZ=>i=mZ∧ρ[j]? = some r
 |.slot s,.slot t=>(s,some t,T)∈hd
 |_,_=>False
def Xf(h:bL P K M β st tmps w){ρ:List Nat}{bs H1:List (List aW)}(hn:nt ρ=true)(k6:boxes st.H ρ=some bs)(mw:ke (idx ρ) bs=some H1){ds jN:List D}{vs:List Value}
 (hlen:vs.length=ds.length) (av:∀(i:Nat) v d,vs[i]? = some v→ds[i]? = some d→cw M β v d) (e9:lx (idx ρ) ds=some jN) {hd:List (Nat×Option Nat×TypeId)} (vG:Handed st tmps vs hd):
 bL P (kG M β st tmps w ρ (q5 hd)) M (λj=>(ρ[j]?).bind β) {env:=h3 jN (tO hd),H:=cY 0 H1,aY:=H1.length} ⟨vs⟩ w:=by
 obtain⟨cy,eV⟩:=vF k6;obtain⟨hE,ir⟩:=yo mw;obtain⟨aui,ag'⟩:=x' e9
 have Xg:∀{v d dL},cw M β v d→eD (idx ρ) d=some dL→cw M (λj=>(ρ[j]?).bind β) v dL:=by
  intro v d dL hd kC;exact hd.eD (λr s b hs hb=>by rw [GB hs];simpa using hb) kC
 -- a cell of l' NT is a cell of ours
 have iq:∀j i aZ,({env:=h3 jN (tO hd),H:=cY 0 H1,aY:=H1.length}:aI).at (.cell j i)=some aZ→∃(r:Nat) (e:aW),ρ[j]? = some r∧st.at (.cell r i)=some e∧eD (idx ρ) e.d=some aZ.d∧aZ.own=e.own∧
  ce ⟨vs⟩ w (λj=>(ρ[j]?).bind β) (.cell j i)=ce tmps w β (.cell r i):=by
  intro j i aZ he;simp only [aI.at,ny]at he;cases hj:H1[j]? with
  |none=>simp [hj]at he
  |some bJ=>
   simp only [hj,Option.bind_some]at he;obtain⟨b,hb,om⟩:=ir j bJ hj;have vH:j<ρ.length:=by have:=(List.getElem?_eq_some_iff.1 hb).1;omega
   have mb:ρ[j]? = some ρ[j]:=List.getElem?_eq_getElem vH;obtain⟨aa,_⟩:=eV j _ mb;obtain⟨_,NU⟩:=yn om;obtain⟨e,pV,NV,NW⟩:=NU i aZ he;exact⟨_,e,mb,by simp [aI.at,aa,hb,pV],NV,NW,by simp [ce,mb]⟩
 have Xh:∀s aZ,({env:=h3 jN (tO hd),H:=cY 0 H1,aY:=H1.length}:aI).at (.slot s)=some aZ→aZ.own=look (tO hd) s∧∃v d,vs[s]? = some v∧ds[s]? = some d∧eD (idx ρ) d=some aZ.d:=by
  intro s aZ he;simp only [aI.at,h3,ny,Cg,Option.map_eq_some_iff]at he;obtain⟨dL,kC,rfl⟩:=he;have hs:s<jN.length:=(List.getElem?_eq_some_iff.1 kC).1;have ib:ds[s]? = some ds[s]:=List.getElem?_eq_getElem (by omega)
  obtain⟨d1,gI,ag_⟩:=ag' s _ ib;rw [kC]at gI;cases gI;exact⟨by simp,_,_,List.getElem?_eq_getElem (by omega),ib,ag_⟩
 -- auj 'own' place of l' NT is one of ours
 have GE:∀cI aZ T,({env:=h3 jN (tO hd),H:=cY 0 H1,aY:=H1.length}:aI).at cI=some aZ→aZ.own=some T→
  ce ⟨vs⟩ w (λj=>(ρ[j]?).bind β) cI = .slice none 0 0∨∃l e,GD ρ hd T cI l∧Ch ρ (q5 hd) l∧st.at l=some e∧e.own=some T∧ce ⟨vs⟩ w (λj=>(ρ[j]?).bind β) cI=ce tmps w β l:=by
  intro cI aZ T aa aC;cases cI with
  |slot s=>
   obtain⟨aw,v,d,Z,ab,aj⟩:=Xh s aZ aa;rw [aw]at aC;obtain⟨o,hm⟩:=ag8 aC;have ci:ce (⟨vs⟩:Array Value) w (λj=>(ρ[j]?).bind β) (.slot s)=v:=by simp [ce,Z]
   cases o with
   |none=>
    have:=vG.none s T hm
    rw [Z]at this;cases this;exact .inl ci
   |some t=>
    obtain⟨e,aD,aX,bW⟩:=vG.some s t T hm;rw [Z]at bW;cases bW;exact .inr ⟨.slot t,e,hm,ag9 hm,aD,aX,ci⟩
  |cell j i=>
   obtain⟨r,e,mb,he,_,f0,ci⟩:=iq j i aZ aa;exact .inr ⟨.cell r i,e,⟨rfl,mb⟩,List.mem_of_getElem? mb,he,by rw [←f0,aC],ci⟩
 have aha:∀T T' hL kp l,GD ρ hd T hL l→GD ρ hd T' kp l→hL=kp:=by
  intro T T' hL kp l Z ab;cases hL<;>cases kp<;>cases l<;>simp only [GD]at Z ab
  ·rw [vG.inj _ _ _ _ _ Z ab]
  ·obtain⟨rfl,aj⟩:=Z;obtain⟨rfl,aD⟩:=ab;rw [GC hn _ _ _ aj aD]
 have kH:∀j cs',look (cY 0 H1) j=some cs'→∃(r:Nat) (cs:List aW),ρ[j]? = some r∧look st.H r=some cs∧cs.length=cs'.length∧∃f,ns f cs=some cs':=by
  intro j cs' hj;rw [ny]at hj;obtain⟨b,hb,om⟩:=ir j cs' hj;have vH:j<ρ.length:=by have:=(List.getElem?_eq_some_iff.1 hb).1;omega
  have mb:ρ[j]? = some ρ[j]:=List.getElem?_eq_getElem vH;obtain⟨aa,_⟩:=eV j _ mb;exact⟨_,b,mb,by rw [aa,hb],(yn om).1.symm,_,om⟩
 constructor
 ·intro l aZ aa;cases l with
  |slot s=>
   obtain⟨_,v,d,Z,ab,aj⟩:=Xh s aZ aa;have:=Xg (av s v d Z ab) aj
   simpa [ce,Z]using this
  |cell j i=>
   obtain⟨r,e,mb,he,om,_,ci⟩:=iq j i aZ aa;rw [ci];exact Xg (h.e5 _ e he) om
 ·intro cI aZ T aa aC;rcases GE cI aZ T aa aC with h0|⟨l,e,_,bm,he,ec,ci⟩
  ·rw [h0];exact .inl rfl
  ·rw [ci];refine(h.own _ e T he ec).x_ λb hb _=>?_
   simp only [kG];rw [if_pos];exact .inr ⟨l,e,T,bm,he,ec,hb⟩
 ·intro hL kp e1 e2 T T' b aa aC cN ec hb bQ;rcases GE hL e1 T aa aC with h0|⟨l,e,aF,bm,he,NX,ci⟩
  ·rw [h0]at hb;cases hb
  rcases GE kp e2 T' cN ec with h0|⟨cI,aZ,eO,Cf,sv,ahb,qS⟩
  ·rw [h0]at bQ;cases bQ
  rw [ci]at hb;rw [qS]at bQ;have:=h.uniq _ _ e aZ T T' b he NX sv ahb hb bQ
  subst this;exact aha _ _ _ _ _ aF eO
 ·intro cI aZ T b j cs' aa aC hb hj;rcases GE cI aZ T aa aC with h0|⟨l,e,aF,bm,he,NX,ci⟩
  ·rw [h0]at hb;cases hb
  rw [ci]at hb;obtain⟨r2,cs,ahc,ei,_⟩:=kH j cs' hj;have:=h.unbox _ e T b r2 cs he NX hb ei
  simpa [ahc]using this
 ·intro j cs' hj;obtain⟨r,cs,mb,ei,aa,f,ahd⟩:=kH j cs' hj;obtain⟨b,oe,T,Z,ab,aj,aD,aX,bW⟩:=h.box r cs ei;refine⟨b,oe,T,by simp [mb,Z],ab,by omega,aD,?_,bW.1,bW.2.eD ahd⟩
  simp only [kG];rw [if_pos];exact .inl ⟨r,List.mem_of_getElem? mb,Z⟩
 ·intro j vI b c hZ hj GF hb bQ;obtain⟨r,cs,mb,ei,_⟩:=kH j c hj;obtain⟨cJ,cs',Xi,vJ,_⟩:=kH vI hZ GF;have:r=cJ:=h.inj r cJ b cs cs' ei vJ (by simpa [mb]using hb) (by simpa [Xi]using bQ)
  subst this;exact GC hn j vI r mb Xi
 ·intro j b hb;simp only [Option.bind_eq_some_iff]at hb;obtain⟨r,ai,_⟩:=hb;have:=(List.getElem?_eq_some_iff.1 ai).1
  show j<H1.length
  omega
 ·exact h.mem
 ·exact Mem.le_refl _
 ·intro b a' hb;simp only [kG]at hb;split at hb
  ·cases hb
  ·exact⟨hb,λ_=>rfl⟩
 ·intro j b hb;exact hb
 ·refine h.jh.mono λb a' dF=>?_
  have NY:¬ q4 st tmps w β ρ (q5 hd) b:=by
   rintro (⟨r,ai,mx⟩|⟨l,e,T,ai,he,aC,kD⟩)
   ·obtain⟨j,hj⟩:=List.getElem?_of_mem ai;obtain⟨aa,vK⟩:=eV j r hj;obtain⟨cs,ei⟩:=Option.isSome_iff_exists.1 vK;obtain⟨jn,_,_,aj,_,_,_,aD,_⟩:=h.box r cs (by rw [aa,ei])
    rw [mx]at aj;cases aj;rw [aD]at dF;cases dF
   ·rw [(h.own _ e T he aC).free kD]at dF;cases dF
  simp only [kG];rw [if_neg NY];exact(h.frame b a' dF).1
 ·rfl
def ahe{ρ os:List Nat}{st:aI}{H:List (Nat×List aW)}{n s:Nat}{e:aW}(aa:({env:=gW os st.env,H:=H,aY:=n}:aI).at (.slot s)=some e):
 ∃bG,st.at (.slot s)=some bG∧bG.d=e.d∧(∀T,e.own=some T→bG.own=some T)∧∀T,e.own=some T→¬ Ch ρ os (.slot s):=by
 simp only [aI.at,nu]at aa;by_cases hs:s∈os
 ·rw [if_pos hs,Option.map_eq_some_iff]at aa;obtain⟨bG,Z,ab⟩:=aa;subst ab;exact⟨bG,Z,rfl,(λT aC=>by cases aC),(λT aC=>by cases aC)⟩
 ·rw [if_neg hs]at aa;exact⟨e,aa,rfl,(λT aC=>aC),(λT _=>hs)⟩
def NZ(h:bL P K M β st tmps w){ρ:List Nat}{bs cH iS:List (List aW)}(hn:nt ρ=true)(k6:boxes st.H ρ=some bs)(vL:ke (λj=>ρ[j]?) cH=some iS)(eH:cH.length=ρ.length)
 {os:List Nat} {out:Out} {v:Value} {w':World} {M':Mem} {β':Nat→Option Nat} (jo:bL P (kG M β st tmps w ρ os) M' β' {env:=ia out,H:=cY 0 cH,aY:=ρ.length} #[v] w'):
 M.le M'∧bL P K M' β {env:=gW os st.env,H:=ly ρ iS++st.H,aY:=st.aY} tmps w'∧
 (∀d own,out = .ret d own→∀dL,eD (λj=>ρ[j]?) d=some dL→cw M' β v dL∧∀T l0,own=some T→mY P K M' β {env:=gW os st.env,H:=ly ρ iS++st.H,aY:=st.aY} tmps w' l0 v T)∧
 (∀x,out = .bl x→dj M' v x):=by
 obtain⟨cy,eV⟩:=vF k6;obtain⟨hE,ir⟩:=yo vL;have cX:M.le M':=jo.m0;have hD:∀(j r b:Nat),ρ[j]? = some r→β r=some b→β' j=some b:=λj r b hj hb=>jo.iC j b (by simp [kG,hj,hb])
 have tP:∀(j r:Nat),ρ[j]? = some r→∃cs b,look st.H r=some cs∧β r=some b∧β' j=some b:=by
  intro j r hj;obtain⟨Z,ab⟩:=eV j r hj;obtain⟨cs,ei⟩:=Option.isSome_iff_exists.1 ab;rw [ei]at Z;obtain⟨b,_,_,hb,_⟩:=h.box r cs Z;exact⟨cs,b,Z,hb,hD j r b hj hb⟩
 have Xj:∀{v d dL},cw M' β' v d→eD (λj=>ρ[j]?) d=some dL→cw M' β v dL:=by
  intro v d dL hd kC;refine hd.eD (λj r b hj hb=>?_) kC
  obtain⟨_,cb,_,Z,ab⟩:=tP j r hj;rw [hb]at ab;cases ab;exact Z
 -- Gv is not q4 is kept
 have Ci:∀b,¬ q4 st tmps w β ρ os b→b<w.heap.size→w'.heap[b]? = w.heap[b]? ∧ ∀o,M' b o=M b o:=by
  intro b hb cO
  have dF:(kG M β st tmps w ρ os).F b=some w.heap[b]:=by
   simp only [kG];rw [if_neg hb];exact Array.getElem?_eq_getElem cO
  obtain⟨Z,ab⟩:=jo.frame b _ dF;exact⟨by rw [Z,Array.getElem?_eq_getElem cO],ab⟩
 have Xk:∀b,(kG M β st tmps w ρ os).F b=none→K.F b=none:=by
  intro b hb;simp only [kG]at hb;split at hb
  ·rename_i hp;rcases hp with⟨r,ai,mx⟩|⟨l,e,T,ai,he,aC,kD⟩
   ·obtain⟨j,hj⟩:=List.getElem?_of_mem ai;obtain⟨cs,cb,ei,cy,_⟩:=tP j r hj;obtain⟨jn,_,_,Z,_,_,_,ab,_⟩:=h.box r cs ei;rw [mx]at Z;cases Z;exact ab
   ·exact(h.own _ e T he aC).free kD
  ·cases dF:K.F b with
   |none=>rfl
   |some a'=>have:=(h.frame b a' dF).1;rw [hb]at this;cases this
 have hold:∀b,(kG M β st tmps w ρ os).F b=none→b<w.heap.size→q4 st tmps w β ρ os b:=by
  intro b hb cO;simp only [kG]at hb;split at hb
  ·assumption
  ·rw [Array.getElem?_eq_getElem cO]at hb;cases hb
 -- auk own boxes ag2 aul not handed on
 have GG:∀r cs b,look st.H r=some cs→(∀(j:Nat),ρ[j]? ≠ some r)→β r=some b→¬ q4 st tmps w β ρ os b:=by
  intro r cs b ai iT hb hp;rcases hp with⟨cJ,fe,bQ⟩|⟨l,e,T,fe,he,aC,kD⟩
  ·obtain⟨j,hj⟩:=List.getElem?_of_mem fe;obtain⟨cs',_,vJ,_⟩:=tP j cJ hj;have:=h.inj r cJ b cs cs' ai vJ hb bQ
   subst this;exact iT j hj
  ·exact h.unbox _ e T b r cs he aC kD ai hb
 have Cj:∀r,(∃(j:Nat),ρ[j]? = some r∧look (ly ρ iS++st.H) r=iS[j]?)∨((∀(j:Nat),ρ[j]? ≠ some r)∧look (ly ρ iS++st.H) r=look st.H r):=by
  intro r;obtain⟨Z,ab⟩:=NS (H:=st.H) (ρ:=ρ) (bs:=iS) (by omega) hn r
  by_cases hj:∃(j:Nat),ρ[j]? = some r
  ·obtain⟨j,hj⟩:=hj;exact .inl ⟨j,hj,Z j hj⟩
  ·have:∀(j:Nat),ρ[j]? ≠ some r:=λj bm=>hj ⟨j,bm⟩
   exact .inr ⟨this,ab this⟩
 -- a place of l' new state: l' NT, or kept
 have fr:∀l e,({env:=gW os st.env,H:=ly ρ iS++st.H,aY:=st.aY}:aI).at l=some e→
  (∃(j r i:Nat) (aZ:aW),l = .cell r i∧ρ[j]? = some r∧({env:=ia out,H:=cY 0 cH,aY:=ρ.length}:aI).at (.cell j i)=some aZ∧eD (λj=>ρ[j]?) aZ.d=some e.d∧e.own=aZ.own∧ce tmps w' β l=ce #[v] w' β' (.cell j i))∨
  (∃bG,st.at l=some bG∧bG.d=e.d∧(∀T,e.own=some T→bG.own=some T)∧ce tmps w' β l=ce tmps w β l∧(∀T,e.own=some T→¬ Ch ρ os l)):=by
  intro l e aa;cases l with
  |slot s=>
   obtain⟨bG,Z,ab,aj,aD⟩:=ahe aa;exact .inr ⟨bG,Z,ab,aj,rfl,aD⟩
  |cell r i=>
   rcases Cj r with⟨j,hj,mc⟩|⟨iT,mc⟩
   ·simp only [aI.at,mc]at aa;cases bm:iS[j]? with
    |none=>simp [bm]at aa
    |some bJ=>
     simp only [bm,Option.bind_some]at aa;obtain⟨b,hb,om⟩:=ir j bJ bm;obtain⟨_,NU⟩:=yn om;obtain⟨aZ,pV,NV,NW⟩:=NU i e aa;obtain⟨_,cb,_,cy,vo⟩:=tP j r hj;exact .inl ⟨j,r,i,aZ,rfl,hj,by simp [aI.at,ny,hb,pV],NV,NW,by simp [ce,cy,vo]⟩
   ·simp only [aI.at,mc]at aa;refine .inr ⟨e,aa,rfl,λ_ h=>h,?_,λT _ bm=>by obtain⟨j,hj⟩:=List.getElem?_of_mem bm;exact iT j hj⟩
    cases ai:look st.H r with
    |none=>simp [ai]at aa
    |some cs=>
     obtain⟨b,_,_,hb,bm,_⟩:=h.box r cs ai;simp only [ce,hb];rw [sk (w:=w) (Ci b (GG r cs b ai iT hb) (lt_of_heap bm)).1]
 -- a kept 'own' aum block is not q4
 have Ck:∀l e T b,st.at l=some e→e.own=some T→¬ Ch ρ os l→jg T (ce tmps w β l) b→¬ q4 st tmps w β ρ os b:=by
  intro l e T b aa aC iT hb hp;rcases hp with⟨cJ,fe,bQ⟩|⟨cI,aZ,T',fe,he,ec,kD⟩
  ·obtain⟨j,hj⟩:=List.getElem?_of_mem fe;obtain⟨cs',_,vJ,_⟩:=tP j cJ hj;exact h.unbox l e T b cJ cs' aa aC hb vJ bQ
  ·have:=h.uniq l _ e aZ T T' b aa aC he ec hb kD
   subst this;exact iT fe
 -- l' NT 'own' blocks aun ours
 have Cl:∀T u b,ki P (kG M β st tmps w ρ os).F M' w' T u→jg T u b→∀bJ,bJ=b→bJ<w.heap.size→q4 st tmps w β ρ os bJ:=by
  intro T u b aw hb bJ qT cO;subst qT;exact hold bJ (aw.free hb) cO
 have GH:∀r cs,look (ly ρ iS++st.H) r=some cs→∃lG,look st.H r=some lG:=by
  intro r cs ai;rcases Cj r with⟨j,hj,_⟩|⟨_,mc⟩
  ·obtain⟨lG,_,Z,_⟩:=tP j r hj;exact⟨lG,Z⟩
  ·exact⟨cs,by rw [←mc];exact ai⟩
 have cT:bL P K M' β {env:=gW os st.env,H:=ly ρ iS++st.H,aY:=st.aY} tmps w':=by
  constructor
  ·intro l e aa;rcases fr l e aa with⟨j,r,i,aZ,rfl,hj,sv,om,_,ci⟩|⟨bG,aw,Cm,k4,ci,_⟩
   ·rw [ci];exact Xj (jo.e5 _ aZ sv) om
   ·rw [ci,←Cm];exact(h.e5 l bG aw).mono cX
  ·intro l e T aa aC;rcases fr l e aa with⟨j,r,i,aZ,rfl,hj,sv,_,f0,ci⟩|⟨bG,aw,Cm,k4,ci,iT⟩
   ·rw [ci];rw [f0]at aC;exact(jo.own _ aZ T sv aC).x_ λb _ bW=>Xk b bW
   ·rw [ci];have iT:=iT T aC;have aC:=k4 T aC;refine(h.own l bG T aw aC).congr (λb hb=>?_) (λb o' hb=>?_)
    ·exact(Ci b (Ck l bG T b aw aC iT hb) ((h.own l bG T aw aC).lt hb)).1
    ·exact(Ci b (Ck l bG T b aw aC iT hb) ((h.own l bG T aw aC).lt hb)).2 o'
  ·intro l cI e1 e2 T T' b aa aC cN ec hb bQ
   rcases fr l e1 aa with⟨j,r,i,x,rfl,hj,hx,_,f0,ci⟩|⟨bG,aw,Cm,k4,ci,iT⟩ <;>
    rcases fr cI e2 cN with⟨vI,cJ,mZ,md,rfl,GF,yp,_,Xl,qS⟩|⟨yc,k3,auo,B4,qS,N0⟩
   ·rw [ci]at hb;rw [qS]at bQ;rw [f0]at aC;rw [Xl]at ec;have:=jo.uniq _ _ x md T T' b hx aC yp ec hb bQ
    cases this;rw [hj]at GF;cases GF;rfl
   ·rw [ci]at hb;rw [qS]at bQ;rw [f0]at aC;have N0:=N0 T' ec;have ec:=B4 T' ec;exact(Ck cI yc T' b k3 ec N0 bQ (Cl T _ b (jo.own _ x T hx aC) hb b rfl ((h.own cI yc T' k3 ec).lt bQ))).elim
   ·rw [ci]at hb;rw [qS]at bQ;rw [Xl]at ec;have iT:=iT T aC;have aC:=k4 T aC;exact(Ck l bG T b aw aC iT hb (Cl T' _ b (jo.own _ md T' yp ec) bQ b rfl ((h.own l bG T aw aC).lt hb))).elim
   ·rw [ci]at hb;rw [qS]at bQ;exact h.uniq l cI bG yc T T' b aw (k4 T aC) k3 (B4 T' ec) hb bQ
  ·intro l e T b r cs aa aC hb ai mx;obtain⟨lG,mq⟩:=GH r cs ai;rcases fr l e aa with⟨j,r1,i,x,rfl,hj,hx,_,f0,ci⟩|⟨bG,aw,Cm,k4,ci,iT⟩
   ·rw [ci]at hb;rw [f0]at aC;rcases Cj r with⟨j2,vM,mc⟩|⟨N1,_⟩
    ·have ab:∃c2,look (cY 0 cH) j2=some c2:=by
      rw [ny];exact⟨_,List.getElem?_eq_getElem (by have:=(List.getElem?_eq_some_iff.1 vM).1;omega)⟩
     obtain⟨c2,lH⟩:=ab;exact jo.unbox _ x T b j2 c2 hx aC hb lH (hD j2 r b vM mx)
    ·obtain⟨cb,_,_,cy,bm,_⟩:=h.box r lG mq;rw [mx]at cy;cases cy;exact GG r lG b mq N1 mx (Cl T _ b (jo.own _ x T hx aC) hb b rfl (lt_of_heap bm))
   ·rw [ci]at hb;exact h.unbox l bG T b r lG aw (k4 T aC) hb mq mx
  ·intro r cs ai;rcases Cj r with⟨j,hj,mc⟩|⟨iT,mc⟩
   ·rw [mc]at ai;obtain⟨c2,lH,om⟩:=ir j cs ai;obtain⟨lG,o3,ahf,Xm,ahg⟩:=tP j r hj;obtain⟨b,oe,T,Z,ab,aj,aD,aX,bW⟩:=jo.box j c2 (by rw [ny];exact lH)
    rw [ahg]at Z;cases Z;obtain⟨jn,_,_,cZ,_,_,_,dr,_⟩:=h.box r lG ahf;rw [Xm]at cZ;cases cZ;exact⟨o3,oe,T,Xm,ab,by rw [aj,(yn om).1],aD,dr,bW.1,bW.2.eD om⟩
   ·rw [mc]at ai;obtain⟨b,oe,T,Z,ab,aj,aD,aX,bW⟩:=h.box r cs ai;have hk:=Ci b (GG r cs b ai iT Z) (lt_of_heap ab);exact⟨b,oe,T,Z,hk.1.trans ab,aj,λo'=>(hk.2 o').trans (aD o'),aX,bW⟩
  ·intro r cJ b c hZ ai fe hb bQ;obtain⟨c0,mq⟩:=GH r c ai;obtain⟨ahh,ahi⟩:=GH cJ hZ fe;exact h.inj r cJ b c0 ahh mq ahi hb bQ
  ·exact h.lt
  ·exact jo.mem
  ·exact Mem.le_trans h.m0 cX
  ·intro b a' dF;obtain⟨Z,ab⟩:=h.frame b a' dF
   have NY:¬ q4 st tmps w β ρ os b:=by
    rintro (⟨r,ai,mx⟩|⟨l,e,T,ai,he,aC,kD⟩)
    ·obtain⟨j,hj⟩:=List.getElem?_of_mem ai;obtain⟨cs,_,ei,_⟩:=tP j r hj;obtain⟨jn,_,_,aj,_,_,_,aD,_⟩:=h.box r cs ei;rw [mx]at aj;cases aj;rw [aD]at dF;cases dF
    ·rw [(h.own _ e T he aC).free kD]at dF;cases dF
   have hk:=Ci b NY (lt_of_heap Z);exact⟨hk.1.trans Z,λo'=>(hk.2 o').trans (ab o')⟩
  ·exact h.iC
  ·exact h.jh
  ·exact Eq.trans (show(w'.os,w'.output)=(w.os,w.output)from jo.hY) h.hY
 refine⟨cX,cT,λd own N2 dL kC=>?_,λx N2=>?_⟩
 ·subst N2;have ic:=jo.e5 (.slot 0) {d,own} (by simp [aI.at,ia,look])
  refine⟨Xj (by simpa [ce]using ic) kC,λT l0 aC=>?_⟩
  have aw:=jo.own (.slot 0) {d,own} T (by simp [aI.at,ia,look]) aC
  simp only [ce]at aw;have k3:ki P (kG M β st tmps w ρ os).F M' w' T v:=by simpa using aw
  refine⟨?_,λl e T' b aa ec _ hb bQ=>?_,λb r cs hb ai mx=>?_⟩
  ·exact k3.x_ λb _ bW=>Xk b bW
  ·rcases fr l e aa with⟨j,r,i,x,rfl,hj,hx,_,f0,ci⟩|⟨bG,GI,Cm,k4,ci,iT⟩
   ·rw [ci]at bQ;rw [f0]at ec;have:=jo.uniq (.slot 0) (.cell j i) {d,own} x T T' b (by simp [aI.at,ia,look]) aC hx ec (by simpa [ce]using hb) bQ
    cases this
   ·rw [ci]at bQ;have iT:=iT T' ec;have ec:=k4 T' ec;exact Ck l bG T' b GI ec iT bQ (Cl T v b k3 hb b rfl ((h.own l bG T' GI ec).lt bQ))
  ·obtain⟨lG,mq⟩:=GH r cs ai;rcases Cj r with⟨j2,vM,mc⟩|⟨N1,_⟩
   ·have ab:∃c2,look (cY 0 cH) j2=some c2:=by
     rw [ny];exact⟨_,List.getElem?_eq_getElem (by have:=(List.getElem?_eq_some_iff.1 vM).1;omega)⟩
    obtain⟨c2,lH⟩:=ab;exact jo.unbox (.slot 0) {d,own} T b j2 c2 (by simp [aI.at,ia,look]) aC (by simpa [ce]using hb) lH (hD j2 r b vM mx)
   ·obtain⟨cb,_,_,cy,bm,_⟩:=h.box r lG mq;rw [mx]at cy;cases cy;exact GG r lG b mq N1 mx (Cl T v b k3 hb b rfl (lt_of_heap bm))
 ·subst N2;have ic:=jo.e5 (.slot 0) {d:=.v x} (by simp [aI.at,ia,look])
  have:=oh ic
  simpa [ce]using this
end
def Xn{i:Int}{n:Nat}(h:aM i n=true):0≤i∧i<n:=by simpa [aM]using h
def tQ{i:Int}{n:Nat}(h:gV i n=true):0≤i∧i≤n:=by simpa [gV]using h
def ahj{i:Int}{n:Nat}(h:0≤i∧i≤n):gV i n=true:=by simpa [gV]using h
def Xo{a b:Int}{n:Nat}(h:l5 a b n=true):0≤a∧a≤b∧b≤n:=by simpa [l5]using h
def Xp{a:Int}(h:tz a=true):a≠0:=by simpa [tz]using h
def N3{n b:Nat}(h:room n b=true):n*b≤140737488355328:=by simpa [room]using h
def ahk{n:Nat}(h:b3 n=true):n≤9223372036854775807:=by simpa [b3]using h
section
variable {P:Program} {K:Ctx} {N:Nat} {M:Mem} {β:Nat→Option Nat} {st:aI} {g:dg} {tmps:Array Value} {w:World} {o:Oper} {f:lw} {p:Path} {tt:dD} {cm:gH} {ops:List Oper}
def Xq:∀(l:List (Nat×aW)) (s:Nat),look (pP l) s=(look l s).map λe=>({d:=e.d}:aW)
 |[],s=>rfl
 |(t,e)::l,s=>by
  simp only [pP,dy];by_cases h:t=s
  ·simp [h]
  ·simp only [h,if_false];exact Xq l s
def bL.pP{st:aI}(h:bL P K M β st tmps w){env:List (Nat×aW)}(he:∀s e,look env s=some e→∃bG,look st.env s=some bG∧bG.d=e.d):bL P K M β {env:=Ab.pP env,H:=st.H,aY:=st.aY} tmps w:=
 h.sub rfl (λl e aa=>by
  cases l with
  |slot s=>
   simp only [aI.at,Xq,Option.map_eq_some_iff]at aa;obtain⟨e1,Z,rfl⟩:=aa;obtain⟨bG,ab,aj⟩:=he s e1 Z;exact⟨bG,ab,aj,λ_ h=>by cases h⟩
  |cell r i=>exact⟨e,aa,rfl,λ_ h=>h⟩) (λr cs ai=>⟨cs,ai,rfl⟩)
def ahl(P:Program)(K:Ctx)(M:Mem)(β:Nat→Option Nat)(g:dg)(x:V)(hs:List (Nat×List aW))(o:Oper)(tmps:Array Value)(w:World):Prop:=
 (∃v,(execOp (Act.eval ⟨tmps,[]⟩) o).run P w = .halt (.panic v) w∧dj M v x∧hs=[])∨
 (∃fn vs,(execOp (Act.eval ⟨tmps,[]⟩) o).run P w = .ok (.enter fn vs) w∧Calls P fn vs w λe w'=>∃v M' ,e = .panicked [{v,recovered:=false}]∧dj M' v x∧
  bL P K M' β {env:=pP g.env,H:=hs++g.H,aY:=g.aY} tmps w')
def ahm{op:BinOp}{k:IntKind}{a b:Int}{x:V}{a':List Prop}(h:MY op k a b=some (x,a'))(cz:∀q,q∈a'→q)(t:TypeId):
 ∃v,(binOp op t (.int k a) (.int k b)).run P w = .ok v w∧dj M v x:=by
 have fin:∀{s:Sem Value} {v:Value},s.run P w = .ok v w→dj M v x→∃v,s.run P w = .ok v w∧dj M v x:=λZ ab=>⟨_,Z,ab⟩
 cases op<;>simp only [MY,Option.some.injEq,Prod.mk.injEq,reduceCtorEq]at h<;>obtain⟨rfl,rfl⟩:=h
 case quo=>
  have hb:=Xp (cz _ (List.mem_singleton.2 rfl));refine fin (v:=.int k (k.wrap (a.tdiv b))) ?_ (.int _ _);simp [binOp,Op.intDiv,hb]
 case rem=>
  have hb:=Xp (cz _ (List.mem_singleton.2 rfl));refine fin (v:=.int k (a.tmod b)) ?_ (.int _ _);simp [binOp,Op.intDiv,hb]
 case add=>exact fin (v:=.int k (k.wrap (a+b))) (by simp [binOp,Op.intArith]) (.int _ _)
 case sub=>exact fin (v:=.int k (k.wrap (a-b))) (by simp [binOp,Op.intArith]) (.int _ _)
 case mul=>exact fin (v:=.int k (k.wrap (a*b))) (by simp [binOp,Op.intArith]) (.int _ _)
 case eql=>exact fin (v:=.bool (decide (a=b))) (by simp [binOp,Op.intCmp];rfl) (.bool _)
 case neq=>exact fin (v:=.bool (!decide (a=b))) (by simp [binOp,Op.intCmp];rfl) (.bool _)
 case lss=>exact fin (v:=.bool (decide (a<b))) (by simp [binOp,Op.intCmp]) (.bool _)
 case leq=>exact fin (v:=.bool (decide (a≤b))) (by simp [binOp,Op.intCmp]) (.bool _)
 case gtr=>exact fin (v:=.bool (decide (b<a))) (by simp [binOp,Op.intCmp]) (.bool _)
 case geq=>exact fin (v:=.bool (decide (b≤a))) (by simp [binOp,Op.intCmp]) (.bool _)
 case and=>exact fin (v:=.int k (pM k a b)) (by simp [binOp,Op.intBits,pM]) (.int _ _)
 case or=>exact fin (v:=.int k (qP k a b)) (by simp [binOp,Op.intBits,qP]) (.int _ _)
 case xor=>exact fin (v:=.int k (mW k a b)) (by simp [binOp,Op.intBits,mW]) (.int _ _)
 case andNot=>exact fin (v:=.int k (MW k a b)) (by simp [binOp,Op.intBits,MW]) (.int _ _)
def ahn{op:BinOp}{k k':IntKind}{a b:Int}{x:V}{a':List Prop}(h:MX op k a b=some (x,a'))(cz:∀q,q∈a'→q)(t:TypeId):
 ∃v,(binOp op t (.int k a) (.int k' b)).run P w = .ok v w∧dj M v x:=by
 unfold MX at h;split at h
 ·simp only [Option.some.injEq,Prod.mk.injEq]at h;obtain⟨rfl,rfl⟩:=h;have hb:0≤b:=by simpa [oa]using cz (oa b=true) (by simp)
  exact⟨.int k (oU k a b),by simp [binOp,Op.shift,show¬ b<0 by omega,oU],.int _ _⟩
 ·simp only [Option.some.injEq,Prod.mk.injEq]at h;obtain⟨rfl,rfl⟩:=h;have hb:0≤b:=by simpa [oa]using cz (oa b=true) (by simp)
  exact⟨.int k (nr k a b),by simp [binOp,Op.shift,show¬ b<0 by omega,nr],.int _ _⟩
 ·cases h
def aho{op:BinOp}{a b:av3}{x:V}{a':List Prop}(h:MZ op a b=some (x,a'))(cz:∀q,q∈a'→q)(t:TypeId):
 ∃v,(binOp op t (.string ⟨⟨a⟩⟩) (.string ⟨⟨b⟩⟩)).run P w = .ok v w∧dj M v x:=by
 have fin:∀{s:Sem Value} {v:Value},s.run P w = .ok v w→dj M v x→∃v,s.run P w = .ok v w∧dj M v x:=λZ ab=>⟨_,Z,ab⟩
 have q6:=Gq a;have yq:=Gq b;have he:(a == b)=decide (a=b):=by by_cases m6:a=b<;>simp [m6]
 cases op<;>simp only [MZ,Option.some.injEq,Prod.mk.injEq,reduceCtorEq]at h<;>obtain⟨rfl,rfl⟩:=h
 case add=>
  have hb:=ahk (cz _ (List.mem_singleton.2 rfl));refine fin (v:=.string ⟨⟨a++b⟩⟩) ?_ (.str _)
  have eo:¬ ((((⟨⟨a⟩⟩:ByteArray).size+(⟨⟨b⟩⟩:ByteArray).size:Nat):Int) > IntKind.i64.max):=by
   have Z:(⟨⟨a⟩⟩:ByteArray).size=a.length:=rfl;have ab:(⟨⟨b⟩⟩:ByteArray).size=b.length:=rfl;have aj:IntKind.i64.max=9223372036854775807:=by decide
   rw [Z,ab,aj];omega
  simp only [binOp,Op.stringOp];rw [if_neg eo];simp;apply ByteArray.ext;simp
 case eql=>exact fin (v:=.bool (decide (a=b))) (by simp [binOp,Op.stringOp,q6,yq,he]) (.bool _)
 case neq=>exact fin (v:=.bool (!decide (a=b))) (by simp [binOp,Op.stringOp,q6,yq,he]) (.bool _)
 case lss=>exact fin (v:=.bool (Op.bytesLess a b)) (by simp [binOp,Op.stringOp,q6,yq]) (.bool _)
 case leq=>exact fin (v:=.bool (Op.bytesLess a b||decide (a=b))) (by simp [binOp,Op.stringOp,q6,yq,he]) (.bool _)
 case gtr=>exact fin (v:=.bool (!(Op.bytesLess a b||decide (a=b)))) (by simp [binOp,Op.stringOp,q6,yq,he]) (.bool _)
 case geq=>exact fin (v:=.bool (!Op.bytesLess a b)) (by simp [binOp,Op.stringOp,q6,yq]) (.bool _)
def ahp{t:TypeId}{aH:d9}(r:Row P t aH)(hk:aH.k = .ptr):∃e,r.desc = .pointer e:=by
 have:=r.hk
 rw [hk]at this;cases hd:r.desc<;>simp [hd,lB]at this;exact⟨_,rfl⟩
def ahq{t:TypeId}{aH:d9}(r:Row P t aH)(hk:aH.k = .pL):∃e,r.desc = .interface e:=by
 have:=r.hk
 rw [hk]at this;cases hd:r.desc<;>simp [hd,lB]at this;exact⟨_,rfl⟩
def ahr{t:TypeId}{aH:d9}(r:Row P t aH)(hk:aH.k = .x5):∃a b c,r.desc = .func a b c:=by
 have:=r.hk
 rw [hk]at this;cases hd:r.desc<;>simp [hd,lB]at this;exact⟨_,_,_,rfl⟩
def N4{t:TypeId}{aH:d9}(r:Row P t aH)(hk:aH.k = .bool):r.desc = .bool:=by
 have:=r.hk
 rw [hk]at this;cases hd:r.desc<;>simp [hd,lB]at this;rfl
def Xr{t:TypeId}{aH:d9}(r:Row P t aH){h2 yr:Value}{a b:D}{res:Bool}(ha:cw M β h2 a)(hb:cw M β yr b)(aa:Ga aH.k b=true)(hn:isNil aH.k a=some res):
 (Op.equal t h2 yr).run P w = .ok res w∧(∀op,(binOp op t h2 yr)=match op with|.eql=>(do pure (.bool (←Op.equal t h2 yr)))|.neq=>(do pure (.bool (!(←Op.equal t h2 yr))))|_=>binOp op t h2 yr):=by
 obtain⟨dep,hm⟩:∃d,Op.maxDepth=d+1:=⟨9999,rfl⟩;unfold Ga at aa;split at aa<;>try cases aa
 ·rename_i hk;cases oh hb
  obtain⟨e,hd⟩:=ahp r hk;rw [hk]at hn;unfold isNil at hn;split at hn<;>simp_all
  ·cases oh ha
   refine⟨?_,λop=>by cases op<;>rfl⟩
   rw [Op.equal,hm,Op.equalIn];simp [r.run_underlying,hd]
  ·obtain⟨bJ,_,rfl⟩:=oZ ha;subst hn;refine⟨?_,λop=>by cases op<;>rfl⟩
   rw [Op.equal,hm,Op.equalIn];simp [r.run_underlying,hd]
  ·obtain⟨bJ,off,val,rfl,_⟩:=Gm ha;subst hn;refine⟨?_,λop=>by cases op<;>rfl⟩
   rw [Op.equal,hm,Op.equalIn];simp [r.run_underlying,hd]
 ·rename_i hk;cases oh hb
  obtain⟨e,hd⟩:=ahq r hk;rw [hk]at hn;unfold isNil at hn;split at hn<;>simp_all
  ·cases oh ha
   refine⟨?_,λop=>by cases op<;>rfl⟩
   rw [Op.equal,hm,Op.equalIn];simp [r.run_underlying,hd]
  ·obtain⟨u,rfl,_⟩:=Nh ha;subst hn;refine⟨?_,λop=>by cases op<;>rfl⟩
   rw [Op.equal,hm,Op.equalIn];simp [r.run_underlying,hd]
 ·rename_i hk;cases oh hb
  obtain⟨e1,e2,e3,hd⟩:=ahr r hk;rw [hk]at hn;unfold isNil at hn;split at hn<;>simp_all
  ·cases oh ha
   refine⟨?_,λop=>by cases op<;>rfl⟩
   rw [Op.equal,hm,Op.equalIn];simp [r.run_underlying,hd]
  ·obtain⟨u,rfl,_⟩:=WC ha;subst hn;refine⟨?_,λop=>by cases op<;>rfl⟩
   rw [Op.equal,hm,Op.equalIn];simp [r.run_underlying,hd]
end
section
variable {P:Program} {K:Ctx} {N:Nat} {M:Mem} {β:Nat→Option Nat} {st:aI} {g:dg} {tmps:Array Value} {w:World} {o:Oper} {f:lw} {p:Path} {tt:dD} {cm:gH} {ops:List Oper}
structure Hyp(P:Program)(K:Ctx)(N:Nat)(M:Mem)(β:Nat→Option Nat)(g:dg)(tmps:Array Value)(w:World)(p:Path)(tt:dD):Prop where
 bq:fG P K N M β g tmps w
 dQ:fF tmps p
 tt:ff P tt=true
def ahs(h:Hyp P K N M β g tmps w p tt){x:Operand}(aw:o.op = .move x)(hs:step1 cm tt ops g p o=some (.go f)):Yields P K M β g f o tmps w:=by
 simp only [step1,aw]at hs;split at hs
 case h_2=>cases hs
 rename_i d hd
 repeat' (first|(split at hs)|(rw [Bool.cond_eq_ite]at hs))
 all_goals first
  |(cases hs;done)
  |(cases hs;exact WG h.bq h.dQ (.inl aw) hd (by assumption))
  |(cases hs;exact Gr h.bq h.dQ (.inl aw) hd)
def aht(h:Hyp P K N M β g tmps w p tt){x:Operand}(aw:o.op = .assign x)(hs:step1 cm tt ops g p o=some (.go f)):Yields P K M β g f o tmps w:=by
 simp only [step1,aw]at hs;split at hs
 case h_2=>cases hs
 rename_i d hd;split at hs
 ·rename_i e t f0;rw [Bool.cond_eq_ite]at hs;split at hs<;>cases hs
  ·exact WG h.bq h.dQ (.inr aw) hd f0
  ·exact Gr h.bq h.dQ (.inr aw) hd
 ·split at hs
  ·rw [Bool.cond_eq_ite]at hs;split at hs<;>cases hs
   ·exact agx h.bq h.dQ aw hd _
   ·exact Gr h.bq h.dQ (.inr aw) hd
  ·cases hs
 ·cases hs;exact Gr h.bq h.dQ (.inr aw) hd
def ahu(h:Hyp P K N M β g tmps w p tt){c:Nat}{a b:Operand}(aw:o.op = .pick (.tmp c) a b)(hs:step1 cm tt ops g p o=some (.go f)):Yields P K M β g f o tmps w:=by
 simp only [step1,aw]at hs;split at hs
 case h_2=>cases hs
 rename_i tB BY vi Z ab aj;cases hs;exact agy h.bq h.dQ aw Z ab aj
def ahv(h:Hyp P K N M β g tmps w p tt){t:TypeId}(aw:o.op = .alloc t)(hs:step1 cm tt ops g p o=some (.go f)):Yields P K M β g f o tmps w:=by
 simp only [step1,aw]at hs;split at hs
 case h_2=>cases hs
 rename_i id eU hid;split at hs
 case h_2=>cases hs
 rename_i z dG;cases hs;exact agA h.bq h.tt aw dG hid
def ahw(h:Hyp P K N M β g tmps w p tt){t:TypeId}{x:Operand}(aw:o.op = .box t x)(hs:step1 cm tt ops g p o=some (.go f)):Yields P K M β g f o tmps w:=by
 simp only [step1,aw]at hs;split at hs
 case h_2=>cases hs
 rename_i d id eU aH hd hid aa;rw [Bool.cond_eq_ite]at hs;split at hs<;>cases hs
 rename_i GJ;simp only [Bool.or_eq_true,Bool.not_eq_true',not_or,Bool.not_eq_true,Bool.not_eq_false,Nat.beq_eq]at GJ;exact agB h.bq h.dQ aw hd GJ.1.1 GJ.1.2 h.tt aa GJ.2 hid
def ahx(h:Hyp P K N M β g tmps w p tt){t:TypeId}{parts:Array (Nat×Operand)}(aw:o.op = .build t parts)(hs:step1 cm tt ops g p o=some (.go f)):Yields P K M β g f o tmps w:=by
 simp only [step1,aw]at hs;split at hs
 ·rename_i cG fZ kE zero _ ca aa mt;rw [Bool.cond_eq_ite]at hs;split at hs
  case isFalse=>cases hs
  rename_i mu;split at hs
  ·simp only [Option.map_eq_some_iff]at hs;obtain⟨d,⟨cs,ei,rfl⟩,hs⟩:=hs;cases hs;exact WS h.bq h.dQ h.tt aa rfl mu aw mt (λr=>r.agE) ei
  ·simp only [Option.map_eq_some_iff]at hs;obtain⟨d,⟨cs,ei,rfl⟩,hs⟩:=hs;cases hs;exact WS h.bq h.dQ h.tt aa rfl mu aw mt (λr=>r.WR) ei
 ·rename_i n e fZ kE zero _ ca aa mt;split at hs
  case h_2=>cases hs
  rename_i ak ahy Xs z2 eH;simp only [Option.map_eq_some_iff]at hs;obtain⟨d,⟨cs,ei,rfl⟩,hs⟩:=hs;cases hs;exact agG h.bq h.dQ h.tt aa rfl eH aw mt ei
 ·cases hs
def ahz(h:Hyp P K N M β g tmps w p tt){t:TypeId}{len:Nat}{parts:Array (Nat×Operand)}(aw:o.op = .buildSlice t len parts)(hs:step1 cm tt ops g p o=some (.go f))(cz:∀q,q∈f.a'→q):Yields P K M β g f o tmps w:=by
 simp only [step1,aw]at hs;split at hs
 case h_2=>cases hs
 rename_i e fZ kE zero _ ca aa mt;split at hs
 case h_2=>cases hs
 rename_i ak ahy Xs z2 eH;split at hs
 case h_2=>cases hs
 rename_i xs x rs hx eI;rw [Bool.cond_eq_ite]at hs;split at hs
 case isFalse=>cases hs
 rename_i hc;simp only [Bool.and_eq_true,Nat.ble_eq,Nat.beq_eq]at hc;cases hs;exact agI h.bq h.dQ h.tt aa rfl eH aw mt hx hc.2 hc.1.2 hc.1.1 (cz _ (List.mem_singleton.2 rfl))
def ahA(h:Hyp P K N M β g tmps w p tt){t:TypeId}{a:Operand}(aw:o.op = .load t a)(hs:step1 cm tt ops g p o=some (.go f)):Yields P K M β g f o tmps w:=by
 simp only [step1,aw]at hs;split at hs
 ·rename_i q off aH ha aa;split at hs
  case h_2=>cases hs
  rename_i cs au;rw [Bool.cond_eq_ite]at hs;split at hs
  ·rename_i h1;rw [Bool.cond_eq_ite]at hs;split at hs
   case isFalse=>cases hs
   rename_i hle;split at hs
   ·rename_i rs eI;rw [Bool.cond_eq_ite]at hs;split at hs
    case isFalse=>cases hs
    rename_i hm;cases hs;simp only [Bool.and_eq_true]at hm;exact agT h.bq h.dQ h.tt aa aw ha au h1 (by simpa using hle) hm.2
   ·cases hs;exact agL h.bq h.dQ h.tt aa aw ha au h1 (by simpa using hle)
  ·rename_i h1;split at hs
   case h_2=>cases hs
   rename_i e he;split at hs
   ·rename_i s rs gl eI;rw [Bool.cond_eq_ite]at hs;split at hs<;>cases hs
    exact agN h.bq h.dQ h.tt aa aw ha au (by simpa using h1) he gl
   ·cases hs;exact agM h.bq h.dQ h.tt aa aw ha au (by simpa using h1) he
 ·rename_i x aH ha aa;rw [Bool.cond_eq_ite]at hs;split at hs
  case isFalse=>cases hs
  rename_i hc;simp only [Bool.and_eq_true,beq_iff_eq,Nat.beq_eq]at hc;cases hs;exact agO h.bq h.dQ h.tt aa aw ha hc.1 hc.2
 ·cases hs
def ahB(h:Hyp P K N M β g tmps w p tt){t:TypeId}{a x:Operand}(aw:o.op = .store t a x)(hs:step1 cm tt ops g p o=some (.go f)):Yields P K M β g f o tmps w:=by
 simp only [step1,aw]at hs;split at hs
 case h_2=>cases hs
 rename_i q off d aH ha hx aa;split at hs
 case h_2=>cases hs
 rename_i cs au;rw [Bool.cond_eq_ite]at hs;split at hs
 case isFalse=>cases hs
 rename_i hc;simp only [Bool.and_eq_true,Nat.beq_eq,Nat.ble_eq,Bool.not_eq_true']at hc;obtain⟨⟨⟨⟨kn,lH⟩,_⟩,N5⟩,N6⟩:=hc;split at hs
 ·rename_i u s k n get f0;cases hs;simp only [oV,Option.bind_eq_some_iff]at f0;obtain⟨e,he,aC⟩:=f0;have eo:aH.size=1:=by rw [←kn];rfl
  exact W0 h.bq h.dQ h.tt aa aw ha au hx eo lH (l:=[u]) (h.bq.bq.hand he aC (.cell q off))
 ·split at hs
  ·cases hs;have m5:=hx;simp only [rd]at m5;split at m5
   ·cases m5;have eo:aH.size=1:=by rw [←kn];rfl
    exact W0 h.bq h.dQ h.tt aa aw ha au hx eo lH (l:=[]) (Na _ _)
   ·cases m5
  ·cases hs
 ·rename_i u s f0;split at hs
  ·rw [Bool.cond_eq_ite]at hs;split at hs
   case isFalse=>cases hs
   rename_i hm;cases hs;simp only [Bool.and_eq_true,List.all_eq_true,Nat.blt_eq]at hm;simp only [oV,Option.bind_eq_some_iff]at f0;obtain⟨e,he,aC⟩:=f0;exact agV h.bq h.dQ h.tt aa aw ha au hx N5 N6 kn lH hm.1 he aC hm.2
  ·cases hs;exact WZ h.bq h.dQ h.tt aa aw ha au hx N5 N6 kn lH _
 ·cases hs;exact WZ h.bq h.dQ h.tt aa aw ha au hx N5 N6 kn lH _
def ahC(h:Hyp P K N M β g tmps w p tt){x:Operand}(aw:o.op = .nilCheck x)(hs:step1 cm tt ops g p o=some (.go f)):Yields P K M β g f o tmps w:=by
 simp only [step1,aw]at hs;split at hs
 ·rename_i q off hd;cases hs;have ai:=ed (ds:=[]) h.bq h.dQ hd;obtain⟨b,_,av⟩:=oZ ai;refine fg h.bq (v:=(⟨tmps,[]⟩:Act).eval x) ?_ ai;simp [execOp,aw,av]
 ·rename_i y hd;cases hs;have ai:=ed (ds:=[]) h.bq h.dQ hd;obtain⟨b,off,val,av,_⟩:=Gm ai;refine fg h.bq (v:=(⟨tmps,[]⟩:Act).eval x) ?_ ai;simp [execOp,aw,av]
 ·cases hs
def ahD(h:Hyp P K N M β g tmps w p tt){op:UnOp}{t:TypeId}{x:Operand}(aw:o.op = .unOp op t x)(hs:step1 cm tt ops g p o=some (.go f)):Yields P K M β g f o tmps w:=by
 simp only [step1,aw]at hs;split at hs
 case h_2=>cases hs
 rename_i a ha;simp only [Option.map_eq_some_iff]at hs;obtain⟨d,⟨md,yp,rfl⟩,hs⟩:=hs;cases hs;have ai:=ed (ds:=[]) h.bq h.dQ ha;unfold Wp at yp;split at yp<;>cases yp
 ·have:=vu ai
  refine fg h.bq (v:=.bool _) ?_ (.v _ _ (.bool _));simp [execOp,aw,this,Op.unary]
 ·have:=mr ai
  refine fg h.bq (v:=.int _ _) ?_ (.v _ _ (.int _ _));simp [execOp,aw,this,Op.unary,Op.intArith]
def ahE(h:Hyp P K N M β g tmps w p tt){s t:TypeId}{x:Operand}(aw:o.op = .convert s t x)(hs:step1 cm tt ops g p o=some (.go f))(cz:∀q,q∈f.a'→q):Yields P K M β g f o tmps w:=by
 simp only [step1,aw]at hs;split at hs
 ·rename_i dt _ _ _ _ k _ _ _ _ e' n e6 eH hd;cases hs;obtain⟨r1⟩:=ez h.tt e6;obtain⟨r2⟩:=ez h.tt eH;have ai:=mr (ed (ds:=[]) h.bq h.dQ hd);refine fg h.bq (v:=.int k (k.wrap n)) ?_ (.v _ _ (.int _ _));simp only [execOp,aw,ai];refine jj _ ?_;simp [convert,r1.run_underlying,r2.run_underlying,B6 r1 rfl,B6 r2 rfl,Conv.intToInt]
 ·rename_i _ _ _ _ _ _ _ _ l e6 eH hd;cases hs;obtain⟨r1⟩:=ez h.tt e6;obtain⟨r2⟩:=ez h.tt eH;have ai:=m4 (ed (ds:=[]) h.bq h.dQ hd);refine fg h.bq (v:=.string ⟨⟨l⟩⟩) ?_ (.v _ _ (.str _));simp only [execOp,aw,ai];refine jj _ ?_;simp [convert,r1.run_underlying,r2.run_underlying,qU r1 rfl,qU r2 rfl]
 ·rename_i e _ _ _ _ _ _ _ _ n get e6 eH hd;split at hs
  case h_2=>cases hs
  rename_i l rs N7 eI;cases hs;obtain⟨r1⟩:=ez h.tt e6;obtain⟨r2⟩:=ez h.tt eH;obtain⟨r3⟩:=ez h.tt N7;obtain⟨hlen,iV⟩:=cz _ (List.mem_singleton.2 rfl);have ai:=ed (ds:=[]) h.bq h.dQ hd;refine fg h.bq (v:=.string ⟨⟨l⟩⟩) ?_ (.v _ _ (.str _));simp only [execOp,aw];refine jj _ ?_;rcases tI ai with⟨hn|⟨a,hn⟩,av⟩|⟨b,off,cap,val,av,hc,hk,cX,Z,f5⟩
  ·have hl0:l=[]:=List.eq_nil_of_length_eq_zero (hlen.trans av);rw [hn,hl0];simp [convert,r1.run_underlying,r2.run_underlying,r3.run_underlying,pT r1 rfl,qU r2 rfl,B6 r3 rfl,Conv.bytesToString];rfl
  ·have hl0:l=[]:=List.eq_nil_of_length_eq_zero (hlen.trans av);rw [hn,hl0];exact run_convert_bytes_back w s t e a 0 [] (by rw [r1.hd,pT r1 rfl]) (by rw [r3.hd,B6 r3 rfl]) (by rw [r2.hd,qU r2 rfl]) (λj hj=>by simp at hj)
  ·rw [av,←hlen]
   have iq:∀j (hj:j<l.length),w.cell? ((⟨b,off,none⟩:Addr).add j)=some (.int .u8 (l[j].toNat:Int)):=by
    intro j hj;have N8:j<n:=by omega
    have e1:=iV j N8;have e2:=f5 j 0 (.int .u8 ((l.getD j 0).toNat:Int)) N8 (by rw [e1];rfl)
    have e3:val j 0 = .int .u8 ((l.getD j 0).toNat:Int):=by generalize val j 0=u at e2 ⊢;cases e2;rfl
    have ie:=h.bq.bq.mem _ _ _ (cX j 0 N8 (by omega))
    rw [addr_add];have pY:off+j*1+0=off+j:=by omega
    rw [pY,e3]at ie;rw [ie];simp [List.getD,List.getElem?_eq_getElem hj]
   exact run_convert_bytes_back w s t e ⟨b,off,none⟩ cap l (by rw [r1.hd,pT r1 rfl]) (by rw [r3.hd,B6 r3 rfl]) (by rw [r2.hd,qU r2 rfl]) iq
 ·cases hs
def ahF(h:Hyp P K N M β g tmps w p tt){t:TypeId}{x:Operand}(aw:o.op = .makeInterface t x)(hs:step1 cm tt ops g p o=some (.go f)):Yields P K M β g f o tmps w:=by
 simp only [step1,aw]at hs;split at hs
 case h_2=>cases hs
 rename_i y k fZ kE z _ hd aa;obtain⟨r⟩:=ez h.tt aa;have ai:=ed (ds:=[]) h.bq h.dQ hd
 have hc:P.concrete t=true∨k = .pL:=by
  have hk:=r.hk;cases Xt:r.desc<;>simp [Xt,lB]at hk
  all_goals first
   |exact .inr hk.symm
   |(left;simp [Program.concrete,r.hd,Xt])
 split at hs
 ·cases hs
 ·rename_i hk;cases hs;rcases hc with hc|hc
  ·refine fg h.bq (v:=.iface t ((⟨tmps,[]⟩:Act).eval x)) ?_ (.v _ _ (.iface t _ _ (oh ai)));simp only [execOp,aw];exact jj _ (run_makeInterface w t _ hc)
  ·exact absurd hc hk
def ahG(h:Hyp P K N M β g tmps w p tt){fn:FuncId}{first fq:Array Operand}(aw:o.op = .makeFunc (.func fn) first fq)(hs:step1 cm tt ops g p o=some (.go f)):Yields P K M β g f o tmps w:=by
 simp only [step1,aw]at hs;rw [Bool.cond_eq_ite]at hs;split at hs
 case isFalse=>cases hs
 rename_i he;simp only [Option.map_eq_some_iff]at hs;obtain⟨ds,ib,hs⟩:=hs;cases hs;obtain⟨Z,ab⟩:=tJ ib;have vD:first = #[]:=by simpa using he
 subst vD;refine fg h.bq (v:=.func (.func fn) #[] (fq.map (⟨tmps,[]⟩:Act).eval)) ?_ ?_
 ·simp [execOp,aw,Instr.makeFunc]
 ·have:fq.map (⟨tmps,[]⟩:Act).eval=⟨fq.toList.map (⟨tmps,[]⟩:Act).eval⟩:=by apply Array.ext';simp
  rw [this];refine .fn fn _ ds (by simp [Z]) λi v c av hc=>?_
  simp only [List.getElem?_map,Option.map_eq_some_iff]at av;obtain⟨y,b6,rfl⟩:=av;exact ed h.bq h.dQ (ab i y c b6 hc)
def ahH(h:Hyp P K N M β g tmps w p tt){x:Operand}{i:Nat}(aw:o.op = .extract x i)(hs:step1 cm tt ops g p o=some (.go f)):Yields P K M β g f o tmps w:=by
 simp only [step1,aw]at hs;split at hs
 case h_2=>cases hs
 rename_i ds hd;simp only [Option.map_eq_some_iff]at hs;obtain⟨d,tR,hs⟩:=hs;cases hs;obtain⟨vs,av,hlen,ai⟩:=agr (ed (ds:=[]) h.bq h.dQ hd);have hi:i<ds.length:=(List.getElem?_eq_some_iff.1 tR).1;have eG:vs[i]? = some vs[i]:=List.getElem?_eq_getElem (by omega)
 refine fg h.bq (v:=vs[i]) ?_ (ai i _ d eG tR);simp only [execOp,aw,av];refine jj _ ?_;simp [Instr.extract,eG]
end
section
variable {P:Program} {K:Ctx} {N:Nat} {M:Mem} {β:Nat→Option Nat} {st:aI} {g:dg} {tmps:Array Value} {w:World} {o:Oper} {f:lw} {p:Path} {tt:dD} {cm:gH} {ops:List Oper}
def q7{op:BinOp}{t t2:TypeId}{x y:Operand}(aw:o.op = .binOp op t x y t2){a b v:Value}(hx:(⟨tmps,[]⟩:Act).eval x=a)(b6:(⟨tmps,[]⟩:Act).eval y=b)
 (hg:(eqGuard op t x y a b).run P w = .ok () w) (h:(binOp op t a b).run P w = .ok v w):(execOp (Act.eval ⟨tmps,[]⟩) o).run P w = .ok (.value v) w:=by
 simp only [execOp,aw,hx,b6];refine jj _ ?_;simp only [Sem.run_bind,hg,Result.andThen_ok,h]
def vN{op:BinOp}{t:TypeId}{x y:Operand}{a b:Value}(h:∀cs ds,¬ (a = .agg cs∧b = .agg ds))(ab:a = .nilIface→b = .nilIface→isConst y=true):(eqGuard op t x y a b).run P w = .ok () w:=by
 unfold eqGuard;cases op<;>try rfl
 all_goals
  simp only
  cases a<;>cases b<;>first
   |rfl
   |(exact absurd ⟨rfl,rfl⟩ (h _ _))
   |(have:=ab rfl rfl;cases y<;>simp [isConst]at this;simp)
def ahI(cf:ff P tt=true){d:Nat}{h_:TypeId}{Cn:List (Option mo)}{x y:V}{xs ys:List V}{h2 sw:Value}{r:Bool}
 (he:jf ((look tt h_).map (·.k)::Cn) (x::xs) (y::ys)=some r) (Co:dj M h2 x) (Cp:dj M sw y):∃c q,(Op.equalIn (d+1) h_ h2 sw).run P w = .ok c w∧jf Cn xs ys=some q∧(c&&q)=r:=by
 cases aa:look tt h_ with
 |none=>simp [aa,jf]at he
 |some aH=>
  obtain⟨row⟩:=ez cf aa;have o4:=row.hd;simp only [aa,Option.map_some]at he;unfold jf at he;split at he<;>simp only [List.cons.injEq,reduceCtorEq]at *
  case h_2 ks kk k a l k' b m e1 e2 e3=>
   obtain⟨e1,rfl⟩:=e1;obtain⟨rfl,rfl⟩:=e2;obtain⟨rfl,rfl⟩:=e3;cases Co;cases Cp
   rw [Bool.cond_eq_ite]at he;split at he
   case isFalse=>cases he
   rename_i hk;simp only [decide_eq_true_eq]at hk;subst hk;simp only [Option.map_eq_some_iff]at he;obtain⟨q,au,ai⟩:=he;refine⟨decide (a=b),q,?_,au,ai⟩
   have:∃gB,row.desc = .int gB:=by
    have:=row.hk
    rw [Option.some.inj e1]at this;cases hd:row.desc<;>simp [hd,lB]at this;exact⟨_,rfl⟩
   obtain⟨gB,jp⟩:=this;rw [jp]at o4;rw [run_equalIn_int w d h_ k gB a b o4];rfl
  case h_3 ks a l b m e1 e2 e3=>
   obtain⟨e1,rfl⟩:=e1;obtain⟨rfl,rfl⟩:=e2;obtain⟨rfl,rfl⟩:=e3;cases Co;cases Cp
   simp only [Option.map_eq_some_iff]at he;obtain⟨q,au,ai⟩:=he;refine⟨decide (a=b),q,?_,au,ai⟩
   have:row.desc = .string:=qU row (Option.some.inj e1)
   rw [this]at o4;rw [run_equalIn_string w d h_ _ _ o4,Gq,Gq];by_cases m6:a=b<;>simp [m6]
  case h_4 ks a l b m e1 e2 e3=>
   obtain⟨e1,rfl⟩:=e1;obtain⟨rfl,rfl⟩:=e2;obtain⟨rfl,rfl⟩:=e3;cases Co;cases Cp
   simp only [Option.map_eq_some_iff]at he;obtain⟨q,au,ai⟩:=he;refine⟨(a == b),q,?_,au,ai⟩
   have:row.desc = .bool:=N4 row (Option.some.inj e1)
   rw [this]at o4;rw [run_equalIn_bool' w d h_ _ _ o4]
def oo(P:Program)(cG:List Field):List (Nat×TypeId×Nat):=cG.map λf=>(f.offset,f.type,P.cellsOf f.type)
def GK:∀{dt ak:List (Option mo)} {xs ys:List V} {r:Bool},jf (dt++ak) xs ys=some r→
 ∃r1 r2,jf dt (xs.take dt.length) (ys.take dt.length)=some r1∧jf ak (xs.drop dt.length) (ys.drop dt.length)=some r2∧(r1&&r2)=r∧dt.length≤xs.length∧dt.length≤ys.length∧∀k,k∈dt→k.isSome=true
 |[],ak,xs,ys,r,h=>⟨true,r,by simp [jf],by simpa using h,rfl,Nat.zero_le _,Nat.zero_le _,λk hk=>by cases hk⟩
 |k::dt,ak,xs,ys,r,h=>by
  simp only [List.cons_append]at h;unfold jf at h;split at h<;>simp only [List.cons.injEq,reduceCtorEq]at *
  ·rename_i ks kk k' a l aup b m e1;obtain⟨rfl,rfl⟩:=e1;rw [Bool.cond_eq_ite]at h;split at h
   case isFalse=>cases h
   rename_i hk;simp only [Option.map_eq_some_iff]at h;obtain⟨q,au,rfl⟩:=h;obtain⟨r1,r2,Z,ab,aj,aD,aX,bW⟩:=GK au;refine⟨decide (a=b)&&r1,r2,?_,ab,by rw [Bool.and_assoc,aj],by simpa using aD,by simpa using aX,λgB jp=>?_⟩
   ·simp only [List.length_cons,List.take_succ_cons,jf,hk,cond_true,Z,Option.map_some]
   ·rcases List.mem_cons.1 jp with rfl|jp
    ·rfl
    ·exact bW gB jp
  ·rename_i ks a l b m e1;obtain⟨rfl,rfl⟩:=e1;simp only [Option.map_eq_some_iff]at h;obtain⟨q,au,rfl⟩:=h;obtain⟨r1,r2,Z,ab,aj,aD,aX,bW⟩:=GK au;refine⟨decide (a=b)&&r1,r2,?_,ab,by rw [Bool.and_assoc,aj],by simpa using aD,by simpa using aX,λgB jp=>?_⟩
   ·simp only [List.length_cons,List.take_succ_cons,jf,Z,Option.map_some]
   ·rcases List.mem_cons.1 jp with rfl|jp
    ·rfl
    ·exact bW gB jp
  ·rename_i ks a l b m e1;obtain⟨rfl,rfl⟩:=e1;simp only [Option.map_eq_some_iff]at h;obtain⟨q,au,rfl⟩:=h;obtain⟨r1,r2,Z,ab,aj,aD,aX,bW⟩:=GK au;refine⟨(a == b)&&r1,r2,?_,ab,by rw [Bool.and_assoc,aj],by simpa using aD,by simpa using aX,λgB jp=>?_⟩
   ·simp only [List.length_cons,List.take_succ_cons,jf,Z,Option.map_some]
   ·rcases List.mem_cons.1 jp with rfl|jp
    ·rfl
    ·exact bW gB jp
def tS(tt:dD)(h_:TypeId):Nat→List (Option mo)
 | 0=>[(look tt h_).map (·.k)]
 |q+1=>match look tt h_ with
  |some {k:=.dN gs,..}=>mX tt q gs
  |o=>[o.map (·.k)]
def GL(q:Nat)(f:Field)(cG:List Field):mX tt q (oo P (f::cG))=tS tt f.type q++mX tt q (oo P cG):=by
 cases q with
 |zero=>rfl
 |succ q=>
  simp only [mX,oo,List.map_cons,List.flatMap_cons,tS];rfl
def Xu{t:TypeId}{aH:d9}(r:Row P t aH){gs:Array Field}(h:P.underlying t=some (.struct gs)):aH.k = .dN (oo P gs.toList):=by
 have hd:r.desc = .struct gs:=Option.some.inj (r.hd.symm.trans h);have:=r.hk
 rw [hd]at this;simp [lB]at this;exact this.symm
def Xv{t:TypeId}{aH:d9}(r:Row P t aH){gs:List (Nat×TypeId×Nat)}(h:aH.k = .dN gs):∃cG:Array Field,P.underlying t=some (.struct cG)∧gs=oo P cG.toList:=by
 have Z:=r.hk;rw [h]at Z;cases hd:r.desc<;>simp [hd,lB]at Z
 rename_i cG;refine⟨cG,?_,Z.symm⟩
 rw [r.hd,hd]
def Xw(cf:ff P tt=true){h_:TypeId}(h:∀gs,P.underlying h_≠some (.struct gs))(q:Nat):tS tt h_ q=[(look tt h_).map (·.k)]:=by
 cases q with
 |zero=>rfl
 |succ q=>
  simp only [tS];split
  ·rename_i gs _ _ _ _ aa;obtain⟨row⟩:=ez cf aa;obtain⟨cG,Z,_⟩:=Xv row rfl;exact absurd Z (h cG)
  ·rfl
def N9(cf:ff P tt=true):∀(q:Nat) (cG:List Field),(∀k,k∈mX tt q (oo P cG)→k.isSome=true)→(mX tt q (oo P cG)).length=sn P q cG
 | 0,cG,_=>by simp [mX,oo,sn]
 |q+1,[],_=>by simp [mX,oo,sn]
 |q+1,f::cG,h=>by
  rw [GL]at h ⊢;have aJ:=N9 cf (q+1) cG λk hk=>h k (List.mem_append_right _ hk)
  have hc:sn P (q+1) (f::cG)=(match P.underlying f.type with|some (.struct gs)=>sn P q gs.toList|_=>1)+sn P (q+1) cG:=by
   simp only [sn,List.map_cons,List.sum_cons];rfl
  rw [List.length_append,aJ,hc]
  congr 1
  simp only [tS]at h ⊢;split
  ·rename_i gs _ _ _ _ aa;obtain⟨row⟩:=ez cf aa;obtain⟨Cq,Z,rfl⟩:=Xv row rfl;rw [Z];refine N9 cf q Cq.toList λk hk=>h k (List.mem_append_left _ ?_)
   rw [aa];exact hk
  ·rename_i o o5;cases aw:look tt f.type with
   |none=>
    have:=h none (List.mem_append_left _ (by rw [aw];simp))
    cases this
   |some aH=>
    obtain⟨row⟩:=ez cf aw;split
    ·rename_i gs hu;have:=Xu row hu
     obtain⟨k,s,b,z,k5⟩:=aH;simp only at this
     subst this;exact absurd aw (o5 _ _ _ _ _)
    ·rfl
def Xx (cf : ff P tt = true) {d : Nat} {f : Field} {cG : List Field} {i : Nat} {Cn : List (Option mo)} {xs ys : List V} {vs us : List Value} {r : Bool} (tT : f.offset = i) (jS : ¬ f.name = "_") (h1 : (isAgg f.type).run P w = .ok false w)
 (he:jf ((look tt f.type).map (·.k)::Cn) xs ys=some r)
 (av:∀(j:Nat) v x,vs[i+j]? = some v→xs[j]? = some x→dj M v x) (hu:∀(j:Nat) v x,us[i+j]? = some v→ys[j]? = some x→dj M v x) (f7:i+xs.length≤vs.length) (qY:i+ys.length≤us.length)
 (aJ:∀(q:Bool),∀{Cr Cs:List V},jf Cn Cr Cs=some q→(∀(j:Nat) v x,vs[i+1+j]? = some v→Cr[j]? = some x→dj M v x)→(∀(j:Nat) v x,us[i+1+j]? = some v→Cs[j]? = some x→dj M v x)→i+1+Cr.length≤vs.length→i+1+Cs.length≤us.length→(Op.eqFields (d+1) ⟨vs⟩ ⟨us⟩ cG).run P w = .ok q w):
 (Op.eqFields (d+1) ⟨vs⟩ ⟨us⟩ (f::cG)).run P w = .ok r w:=by
 cases xs with
 |nil=>simp [jf]at he
 |cons x xs=>
  cases ys with
  |nil=>simp [jf]at he
  |cons y ys=>
   simp only [List.length_cons]at f7 qY;obtain⟨h2,eG⟩:∃h2,vs[i]? = some h2:=⟨_,List.getElem?_eq_getElem (by omega)⟩
   obtain⟨sw,Xy⟩:∃sw,us[i]? = some sw:=⟨_,List.getElem?_eq_getElem (by omega)⟩
   have Co:=av 0 h2 x eG rfl;have Cp:=hu 0 sw y Xy rfl
   have q0:∀{zs:List Value} {z:Value},zs[i]? = some z→(part f.type ⟨zs⟩ f.offset).run P w = .ok z w:=by
    intro zs z dG;have:(⟨zs⟩:Array Value)[f.offset]? = some z:=by rw [tT];simpa using dG
    simp only [part,Sem.run_bind,h1,Result.andThen_ok,this];rfl
   obtain⟨c,q,Z,ab,aj⟩:=ahI (P:=P) (w:=w) (M:=M) cf (d:=d) he Co Cp;have aD:=aJ q ab (λj v z Z ab=>av (j+1) v z (by rw [←Z];congr 1;omega) (by simpa using ab)) (λj v z Z ab=>hu (j+1) v z (by rw [←Z];congr 1;omega) (by simpa using ab)) (by omega) (by omega)
   simp only [Op.eqFields];rw [if_pos jS];simp only [Sem.run_bind,q0 eG,q0 Xy,Result.andThen_ok,Z];cases c
   ·simp [←aj]
   ·simp [←aj,aD]
def ahJ(cf:ff P tt=true):∀(q:Nat) {d:Nat} {cG:List Field} {i:Nat} {xs ys:List V} {vs us:List Value} {r:Bool},vt P q i cG=true→jf (mX tt q (oo P cG)) xs ys=some r→
 (∀(j:Nat) v x,vs[i+j]? = some v→xs[j]? = some x→dj M v x)→(∀(j:Nat) v x,us[i+j]? = some v→ys[j]? = some x→dj M v x)→i+xs.length≤vs.length→i+ys.length≤us.length→
 (Op.eqFields (d+q+1) ⟨vs⟩ ⟨us⟩ cG).run P w = .ok r w:=by
 intro q;induction q with
 |zero=>
  intro d cG;induction cG with
  |nil=>intro i xs ys vs us r _ he _ _ _ _;cases xs<;>cases ys<;>simp [mX,oo,jf]at he;subst he;simp [Op.eqFields]
  |cons f cG aJ=>
   intro i xs ys vs us r ba he av hu f7 qY;simp only [vt,ye,Bool.and_eq_true,Nat.beq_eq,Bool.not_eq_true',decide_eq_false_iff_not]at ba;obtain⟨⟨tT,jS⟩,hl⟩:=ba
   have yt:(∀gs,P.underlying f.type≠some (.struct gs))∧vt P 0 (i+1) cG=true∧(isAgg f.type).run P w = .ok false w:=by
    simp only [isAgg,Sem.run_bind];split at hl
    ·rename_i k hk;refine⟨λgs h=>(by rw [hk]at h;cases h),hl,?_⟩;rw [Go.run_underlying hk];rfl
    ·rename_i hk;refine⟨λgs h=>(by rw [hk]at h;cases h),hl,?_⟩;rw [Go.run_underlying hk];rfl
    ·rename_i hk;refine⟨λgs h=>(by rw [hk]at h;cases h),hl,?_⟩;rw [Go.run_underlying hk];rfl
    ·simp at hl
    ·cases hl
   exact Xx cf tT jS yt.2.2 (by rw [GL,Xw cf yt.1]at he;exact he) av hu f7 qY λq' Cr Cs pW o2 N' Z ab=>aJ yt.2.1 pW o2 N' Z ab
 |succ q ahK=>
  intro d cG;induction cG with
  |nil=>intro i xs ys vs us r _ he _ _ _ _;cases xs<;>cases ys<;>simp [mX,oo,jf]at he;subst he;simp [Op.eqFields]
  |cons f cG aJ=>
   intro i xs ys vs us r ba he av hu f7 qY;have Ct:=ba;simp only [vt,ye,Bool.and_eq_true,Nat.beq_eq,Bool.not_eq_true',decide_eq_false_iff_not]at ba;obtain⟨⟨tT,jS⟩,hl⟩:=ba;by_cases dE:∃gs,P.underlying f.type=some (.struct gs)
   ·obtain⟨gs,yu⟩:=dE;rw [yu]at hl;simp only [Bool.and_eq_true,Bool.not_eq_true',Nat.beq_eq]at hl;obtain⟨⟨⟨ahL,ahM⟩,ahN⟩,Xz⟩:=hl;rw [GL]at he;obtain⟨r1,r2,e1,e2,e3,hL,kp,vK⟩:=GK he
    have kH:∃aH,look tt f.type=some aH:=by
     cases aa:look tt f.type with
     |none=>have:=vK none (by simp [tS,aa]);cases this
     |some aH=>exact⟨aH,rfl⟩
    obtain⟨aH,GM⟩:=kH;obtain⟨row⟩:=ez cf GM;have hk:=Xu row yu
    have vG:tS tt f.type (q+1)=mX tt q (oo P gs.toList):=by
     obtain⟨k,s,b,z,k5⟩:=aH;simp only at hk
     subst hk;simp only [tS,GM]
    rw [vG]at e1 e2 hL kp vK;have hn:=N9 cf q gs.toList vK;rw [hn,←ahM]at e1 e2 hL kp;generalize aV:P.cellsOf f.type=n at e1 e2 hL kp
    obtain⟨info,Gt⟩:=info_of_underlying yu
    have q0:∀zs:List Value,(part f.type ⟨zs⟩ f.offset).run P w = .ok (.agg ⟨(zs.drop i).take n⟩) w:=by
     intro zs
     have:(⟨zs⟩:Array Value).extract i (i+n)=⟨(zs.drop i).take n⟩:=by
      apply Array.ext';rw [Array.toList_extract];simp [List.extract]
     simp only [part,isAgg,Sem.run_bind,run_underlying yu,run_sizeOf w Gt,Result.andThen_ok,Sem.run_pure,tT,aV];simp [this,run_sizeOf w Gt,aV]
    have ji:∀{zs:List Value} {cs:List V},(∀(j:Nat) v x,zs[i+j]? = some v→cs[j]? = some x→dj M v x)→∀(j:Nat) v x,((zs.drop i).take n)[0+j]? = some v→(cs.take n)[j]? = some x→dj M v x:=by
     intro zs cs h j v x Z ab;rw [Nat.zero_add,List.getElem?_take]at Z;rw [List.getElem?_take]at ab;split at Z
     ·rename_i hj;rw [if_pos hj]at ab;rw [List.getElem?_drop]at Z;exact h j v x Z ab
     ·cases Z
    have yk:P.fieldsOf f.type=gs:=by simp [Program.fieldsOf,yu]
    have hin:(Op.equalIn (d+(q+1)+1) f.type (.agg ⟨(vs.drop i).take n⟩) (.agg ⟨(us.drop i).take n⟩)).run P w = .ok r1 w:=by
     rw [run_equalIn_agg w (d+(q+1)) f.type _ _ (by rw [yk];exact yu) ahL,yk]
     exact ahK (d:=d) (i:=0) ahN e1 (ji av) (ji hu) (by simp;omega) (by simp;omega)
    have XA:∀{zs:List Value} {cs:List V},(∀(j:Nat) v x,zs[i+j]? = some v→cs[j]? = some x→dj M v x)→∀(j:Nat) v x,zs[i+n+j]? = some v→(cs.drop n)[j]? = some x→dj M v x:=by
     intro zs cs h j v x Z ab;rw [List.getElem?_drop]at ab;exact h (n+j) v x (by rw [←Nat.add_assoc];exact Z) ab
    rw [aV]at Xz;have ir:=aJ (i:=i+n) Xz e2 (XA av) (XA hu) (by simp;omega) (by simp;omega)
    simp only [Op.eqFields];rw [if_pos jS];simp only [Sem.run_bind,q0,Result.andThen_ok,hin];cases r1
    ·simp [←e3]
    ·simp [←e3,ir]
   ·have yt:vt P (q+1) (i+1) cG=true∧(isAgg f.type).run P w = .ok false w:=by
     simp only [isAgg,Sem.run_bind];split at hl
     ·rename_i k hk;refine⟨hl,?_⟩;rw [Go.run_underlying hk];rfl
     ·rename_i hk;refine⟨hl,?_⟩;rw [Go.run_underlying hk];rfl
     ·rename_i hk;refine⟨hl,?_⟩;rw [Go.run_underlying hk];rfl
     ·rename_i gs hk;exact absurd ⟨gs,hk⟩ dE
     ·cases hl
    exact Xx cf tT jS yt.2 (by rw [GL,Xw cf (λgs h=>dE ⟨gs,h⟩)]at he;exact he) av hu f7 qY λq' Cr Cs pW o2 N' Z ab=>aJ yt.1 pW o2 N' Z ab
def XB(cf:ff P tt=true){t:TypeId}{cG:List (Nat×TypeId×Nat)}{fZ kE:Nat}{z:List V}{k5:List (Nat×TypeId)}(aa:look tt t=some {k:=.dN cG,size:=fZ,bytes:=kE,zero:=z,jM:=k5})(he:Nd P t=true){xs ys:List V}{r:Bool}(ai:jf (mX tt 4 cG) xs ys=some r)
 {h2 sw:Value} (av:dj M h2 (.agg xs)) (hu:dj M sw (.agg ys)):∃vs us,h2 = .agg ⟨vs⟩∧sw = .agg ⟨us⟩∧(Op.equalIn 10000 t (.agg ⟨vs⟩) (.agg ⟨us⟩)).run P w = .ok r w∧∀op a b,(eqGuard op t a b (.agg ⟨vs⟩) (.agg ⟨us⟩)).run P w = .ok () w:=by
 obtain⟨row⟩:=ez cf aa;cases av with
 |agg vs _ hn Z f5=>
  cases hu with
  |agg us _ Gk lA ahO=>
   refine⟨vs,us,rfl,rfl,?_⟩
   unfold Nd at he;split at he
   case h_2=>cases he
   rename_i Cq o4;simp only [Bool.and_eq_true,Bool.not_eq_true']at he;obtain⟨⟨ab,aj⟩,aD⟩:=he;have Ct:P.fieldsOf t=Cq:=by simp [Program.fieldsOf,o4]
   have N_:row.desc = .struct Cq:=Option.some.inj (row.hd.symm.trans o4)
   have mu:cG=Cq.toList.map λf=>(f.offset,f.type,P.cellsOf f.type):=by
    have:=row.hk
    rw [N_]at this;simp [lB]at this;exact this.symm
   refine⟨?_,λop a b=>run_eqGuard_agg w op t a b _ _ aj⟩
   rw [run_equalIn_agg w 9999 t _ _ (by rw [Ct];exact o4) ab,Ct]
   refine ahJ cf 4 (d:=9994) (i:=0) (xs:=xs) (ys:=ys) aD (by rw [mu]at ai;exact ai) (λj v x aX bW=>f5 j v x (by simpa using aX) bW) (λj v x aX bW=>ahO j v x (by simpa using aX) bW) (by omega) (by omega)
def ahP(h:Hyp P K N M β g tmps w p tt){op:BinOp}{t t2:TypeId}{x y:Operand}(aw:o.op = .binOp op t x y t2)(hs:step1 (hO P) tt ops g p o=some (.go f))(cz:∀q,q∈f.a'→q):Yields P K M β g f o tmps w:=by
 simp only [step1,aw]at hs;split at hs
 case h_3=>cases hs
 case h_1=>
  rename_i xs ys ha hb;have pZ:=oh (ed (ds:=[]) h.bq h.dQ ha);have o6:=oh (ed (ds:=[]) h.bq h.dQ hb);split at hs
  case h_2=>cases hs
  rename_i cG fZ kE z _ aa;rw [Bool.cond_eq_ite]at hs;split at hs
  case isFalse=>cases hs
  rename_i he;split at hs
  ·rename_i r ai;cases hs;obtain⟨vs,us,e1,e2,Z,ab⟩:=XB (w:=w) (M:=M) h.tt aa he ai pZ o6;exact fg h.bq (q7 aw e1 e2 (ab _ _ _) (by rw [run_eql_struct,Z];rfl)) (.v _ _ (.bool _))
  ·rename_i r ai;cases hs;obtain⟨vs,us,e1,e2,Z,ab⟩:=XB (w:=w) (M:=M) h.tt aa he ai pZ o6;exact fg h.bq (q7 aw e1 e2 (ab _ _ _) (by rw [run_neq_struct,Z];rfl)) (.v _ _ (.bool _))
  ·cases hs
 rename_i a b ha hb;simp only [Option.map_eq_some_iff]at hs;obtain⟨⟨z,a'⟩,dG,hs⟩:=hs;cases hs;have pZ:=ed (ds:=[]) h.bq h.dQ ha;have o6:=ed (ds:=[]) h.bq h.dQ hb;unfold Wo at dG;split at dG
 ·rename_i dt m ak n;have e1:=mr pZ;have e2:=mr o6;split at dG
  ·rename_i z0 hsh;cases dG;obtain⟨v,av,ai⟩:=ahn (P:=P) (w:=w) (M:=M) (k':=ak) hsh cz t;exact fg h.bq (q7 aw e1 e2 (vN (by simp) (by simp)) av) (.v _ _ ai)
  rw [Bool.cond_eq_ite]at dG;split at dG
  case isFalse=>cases dG
  rename_i hk;simp only [decide_eq_true_eq]at hk;subst hk;obtain⟨v,av,ai⟩:=ahm (P:=P) (w:=w) (M:=M) dG cz t;exact fg h.bq (q7 aw e1 e2 (vN (by simp) (by simp)) av) (.v _ _ ai)
 ·have e1:=m4 pZ;have e2:=m4 o6;obtain⟨v,av,ai⟩:=aho (P:=P) (w:=w) (M:=M) dG cz t;exact fg h.bq (q7 aw e1 e2 (vN (by simp) (by simp)) av) (.v _ _ ai)
 ·rename_i cb jn;have e1:=vu pZ;have e2:=vu o6;obtain⟨dep,hm⟩:∃d,Op.maxDepth=d+1:=⟨9999,rfl⟩;cases aa:look tt t with
  |none=>rw [aa]at dG;simp at dG
  |some aH=>
   rw [aa]at dG;obtain⟨r⟩:=ez h.tt aa;split at dG<;>cases dG
   ·rename_i hk;simp at hk
    refine fg h.bq (v:=.bool (cb == jn)) (q7 aw e1 e2 (vN (by simp) (by simp)) ?_) (.v _ _ (.bool _))
    simp only [binOp,Sem.run_bind];rw [Op.equal,hm,Op.equalIn];simp [r.run_underlying,N4 r hk]
   ·rename_i hk;simp at hk
    refine fg h.bq (v:=.bool (!(cb == jn))) (q7 aw e1 e2 (vN (by simp) (by simp)) ?_) (.v _ _ (.bool _))
    simp only [binOp,Sem.run_bind];rw [Op.equal,hm,Op.equalIn];simp [r.run_underlying,N4 r hk]
 ·cases aa:look tt t with
  |none=>rw [aa]at dG;simp at dG
  |some aH=>
   rw [aa]at dG;simp only [Option.map_some]at dG;obtain⟨r⟩:=ez h.tt aa;rw [Bool.cond_eq_ite]at dG;split at dG
   case isFalse=>cases dG
   rename_i hc;simp only [Bool.and_eq_true]at hc
   have XC:(eqGuard op t x y ((⟨tmps,[]⟩:Act).eval x) ((⟨tmps,[]⟩:Act).eval y)).run P w = .ok () w:=by
    refine vN ?_ (λ_ _=>hc.2)
    rintro cs ds ⟨_,bQ⟩
    rw [bQ]at o6;have Oa:=hc.1;unfold Ga at Oa;split at Oa<;>first|(cases oh o6;done)|(cases Oa;done)
   split at dG<;>cases dG
   ·rename_i res hn;obtain⟨Z,ab⟩:=Xr (w:=w) r pZ o6 hc.1 hn;refine fg h.bq (v:=.bool res) (q7 aw rfl rfl XC ?_) (.v _ _ (.bool _));rw [ab .eql];simp [Z]
   ·rename_i res hn;obtain⟨Z,ab⟩:=Xr (w:=w) r pZ o6 hc.1 hn;refine fg h.bq (v:=.bool (!res)) (q7 aw rfl rfl XC ?_) (.v _ _ (.bool _));rw [ab .neq];simp [Z]
def ahQ(h:Hyp P K N M β g tmps w p tt){s:TypeId}{x:Operand}{i:Nat}(aw:o.op = .fieldAddr s x i)(hs:step1 cm tt ops g p o=some (.go f)):Yields P K M β g f o tmps w:=by
 simp only [step1,aw]at hs;split at hs
 ·rename_i q off cG fZ kE z _ hd aa;obtain⟨r⟩:=ez h.tt aa;split at hs
  case h_2=>cases hs
  rename_i cV h_ yv ba;rw [Bool.cond_eq_ite]at hs;split at hs
  case isFalse=>cases hs
  rename_i hc;cases hs;obtain⟨b,hb,av⟩:=oZ (ed (ds:=[]) h.bq h.dQ hd);refine fg h.bq (v:=.pointer (some ⟨b,off+cV,none⟩)) ?_ (.ptr _ _ _ hb);simp only [execOp,aw,av];exact jj _ (WE r rfl ba (by simpa using hc) b off)
 ·rename_i cs cG fZ kE z _ hd aa;obtain⟨r⟩:=ez h.tt aa;split at hs
  case h_2=>cases hs
  rename_i cV h_ yv ba;split at hs
  case h_2=>cases hs
  rename_i yj GN;rw [Bool.cond_eq_ite]at hs;split at hs
  case isFalse=>cases hs
  rename_i hc;simp only [Bool.and_eq_true,Nat.ble_eq]at hc;obtain⟨b,off,val,av,cX,Z,ai⟩:=Gm (ed (ds:=[]) h.bq h.dQ hd)
  have eM:(execOp (Act.eval ⟨tmps,[]⟩) o).run P w = .ok (.value (.pointer (some ⟨b,off+cV,none⟩))) w:=by
   simp only [execOp,aw,av];exact jj _ (WE r rfl ba hc.1 b off)
  simp only [V.cells]at cX Z ai;rw [Bool.cond_eq_ite]at hs;split at hs
  ·cases hs;have hlen:((cs.drop cV).take yv).length=yv:=by simp;omega
   refine fg h.bq eM (.e8 b (off+cV) _ (λj=>val (cV+j)) (λj hj=>?_) (λj hj=>?_) (λj c hj=>?_))
   ·simp only [V.cells,hlen]at hj;rw [Nat.add_assoc];exact cX _ (by omega)
   ·simp only [V.cells,hlen]at hj;exact Z _ (by omega)
   ·simp only [V.cells]at hj;rw [List.getElem?_take]at hj;split at hj
    ·rw [List.getElem?_drop]at hj;exact ai _ c hj
    ·cases hj
  ·rw [Bool.cond_eq_ite]at hs;split at hs
   case isFalse=>cases hs
   rename_i eo;split at hs
   case h_2=>cases hs
   rename_i c kn;rw [Bool.cond_eq_ite]at hs;split at hs
   ·cases hs
   ·rename_i ahR;cases hs;have l_:=yi (x:=c) (by simpa using ahR)
    refine fg h.bq eM (.e8 b (off+cV) c (λj=>val (cV+j)) (λj hj=>?_) (λj hj=>?_) (λj hZ hj=>?_))
    ·rw [l_]at hj;rw [Nat.add_assoc];exact cX _ (by have:=(List.getElem?_eq_some_iff.1 kn).1;simp at hj;omega)
    ·rw [l_]at hj;exact Z _ (by have:=(List.getElem?_eq_some_iff.1 kn).1;simp at hj;omega)
    ·rw [l_]at hj;cases j with
     |zero=>simp at hj;subst hj;exact ai _ _ kn
     |succ j=>simp at hj
 ·cases hs
def ahS(h:Hyp P K N M β g tmps w p tt){s:TypeId}{x:Operand}{i:Nat}(aw:o.op = .field s x i)(hs:step1 cm tt ops g p o=some (.go f)):Yields P K M β g f o tmps w:=by
 simp only [step1,aw]at hs;split at hs
 case h_3=>cases hs
 case h_2=>
  rename_i cs cG fZ kE z _ hd aa;obtain⟨r⟩:=ez h.tt aa;split at hs
  case h_2=>cases hs
  rename_i cV h_ yv ba;split at hs
  case h_2=>cases hs
  rename_i yj c GN kn;obtain⟨Ob⟩:=ez h.tt GN;rw [Bool.cond_eq_ite]at hs;split at hs
  ·cases hs
  rename_i hc;simp only [Bool.or_eq_true,not_or,Bool.not_eq_true,Bool.not_eq_true',Bool.not_eq_false,Nat.beq_eq]at hc;cases hs;have me:=ed (ds:=[]) h.bq h.dQ hd;generalize vO:(⟨tmps,[]⟩:Act).eval x=h2 at me
  cases me with
  |agg vs _ hn Z ai=>
   have cO:cV<cs.length:=(List.getElem?_eq_some_iff.1 kn).1;have eG:vs[cV]? = some vs[cV]:=List.getElem?_eq_getElem (by omega)
   obtain⟨ha,hb⟩:=WF (w:=w) r rfl ba Ob vs (by omega)
   refine fg h.bq (v:=vs[cV]) ?_ (ai _ _ c eG kn);simp only [execOp,aw,vO];exact jj _ (hb hc.1.1 _ eG)
 rename_i cs cG fZ kE z _ hd aa;obtain⟨r⟩:=ez h.tt aa;split at hs
 case h_2=>cases hs
 rename_i cV h_ yv ba;split at hs
 case h_2=>cases hs
 rename_i yj GN;obtain⟨Ob⟩:=ez h.tt GN;rw [Bool.cond_eq_ite]at hs;split at hs
 case isFalse=>cases hs
 rename_i hc;simp only [Nat.ble_eq]at hc;obtain⟨vs,av,hlen,Z,ai⟩:=agq (ed (ds:=[]) h.bq h.dQ hd);obtain⟨ha,hb⟩:=WF (w:=w) r rfl ba Ob vs (by omega)
 rw [Bool.cond_eq_ite]at hs;split at hs
 ·rename_i h1;cases hs;refine fg h.bq (v:=.agg ⟨(vs.drop cV).take yv⟩) ?_ (.v _ _ (.agg _ _ (by simp;omega) (λv av=>Z v (List.mem_of_mem_drop (List.mem_of_mem_take av))) (λj v c av kj=>?_)))
  ·simp only [execOp,aw,av];exact jj _ (ha h1)
  ·rw [List.getElem?_take]at av kj;split at av
   ·rename_i hj;rw [if_pos hj,List.getElem?_drop]at kj;rw [List.getElem?_drop]at av;exact ai _ v c av kj
   ·cases av
 ·rename_i h1;split at hs
  case h_2=>cases hs
  rename_i c kn;cases hs;have cO:cV<cs.length:=(List.getElem?_eq_some_iff.1 kn).1;have eG:vs[cV]? = some vs[cV]:=List.getElem?_eq_getElem (by omega)
  refine fg h.bq (v:=vs[cV]) ?_ (.v _ _ (ai _ _ c eG kn));simp only [execOp,aw,av];exact jj _ (hb (by simpa using h1) _ eG)
def ahT{x y:V}(av:hv x y){k b off:Nat}{val:Nat→Value}(hk:x.cells.length=k)(cX:∀q,q<k→M b (off+q)=some (val q))(Z:∀q,q<k→(val q).oneCell'=true)
 (ai:∀(q:Nat) c,x.cells[q]? = some c→dj M (val q) c):cw M β (.pointer (some ⟨b,off,none⟩)) (.e8 y):=by
 subst hk;have b6:=av M _ (WD Z ai);cases hx:x.isAgg with
 |true=>
  rw [hx]at b6;simp only [cond_true]at b6;cases b6 with
  |agg vs cs hn lA fe=>
   have hlen:cs.length=x.cells.length:=by simpa using hn.symm
   refine .e8 b off _ val (λj hj=>cX j (by simp only [V.cells]at hj;omega)) (λj hj=>Z j (by simp only [V.cells]at hj;omega)) (λj c hj=>?_)
   simp only [V.cells]at hj;have vH:j<x.cells.length:=by have:=(List.getElem?_eq_some_iff.1 hj).1;omega
   exact fe j (val j) c (by simp [vH]) hj
  |any _ lA=>simp [Value.oneCell']at lA
 |false=>
  rw [hx]at b6;simp only [cond_false]at b6;have yw:=yi hx;have gJ:=Z 0 (by rw [yw];simp)
  have ahU:y.isAgg=false:=by
   cases y<;>first|rfl|skip
   exfalso
   generalize val 0=u at b6 gJ
   cases b6;simp [Value.oneCell']at gJ
  have Oc:=yi ahU;refine .e8 b off y val (λj hj=>cX j (by rw [yw];rw [Oc]at hj;exact hj)) (λj hj=>Z j (by rw [yw];rw [Oc]at hj;exact hj)) (λj c hj=>?_)
  rw [Oc]at hj;cases j with
  |zero=>simp at hj;subst hj;exact b6
  |succ j=>simp at hj
def ahV(h:Hyp P K N M β g tmps w p tt){t:TypeId}{x i:Operand}(aw:o.op = .indexAddr t x i)(hs:step1 cm tt ops g p o=some (.go f))(cz:∀q,q∈f.a'→q):Yields P K M β g f o tmps w:=by
 simp only [step1,aw]at hs;split at hs
 case h_2=>cases hs
 rename_i k n get kk j e fZ kE z _ hx hi aa;obtain⟨r⟩:=ez h.tt aa;split at hs
 case h_2=>cases hs
 rename_i ak size Xs z2 eH;obtain⟨dV⟩:=ez h.tt eH;rw [Bool.cond_eq_ite]at hs;split at hs
 case isFalse=>cases hs
 rename_i hc;simp only [Bool.and_eq_true,Nat.beq_eq,Nat.ble_eq]at hc;obtain⟨rfl,GO⟩:=hc
 have vP:∃(y:V) (rs:List fu) (a':List Prop),f={e:=some {d:=.e8 y},rs,a'}∧hv (get j.toNat) y∧aM j n=true:=by
  split at hs
  ·rename_i y rs eI;cases hs;exact⟨_,_,_,rfl,cz _ (by simp),cz (aM j n=true) (by simp)⟩
  ·cases hs;exact⟨_,_,_,rfl,λ_ _ h=>h,cz (aM j n=true) (by simp)⟩
  ·cases hs
 obtain⟨y,rs,a',rfl,cy,eV⟩:=vP;have eV:=Xn eV;have Od:=mr (ed (ds:=[]) h.bq h.dQ hi);rcases tI (ed (ds:=[]) h.bq h.dQ hx) with⟨_,ko⟩|⟨b,off,cap,val,av,_,hk,cX,Z,ai⟩
 ·omega
 ·have cO:j.toNat<n:=by omega
  have b6:cw M β (.pointer (some ⟨b,off+j.toNat*k,none⟩)) (.e8 y):=
   ahT cy (hk _ cO) (λq au=>cX _ q cO au) (λq au=>Z _ q cO au) (λq c au=>ai _ q c cO au)
  refine fg h.bq (v:=.pointer (some ⟨b,off+j.toNat*k,none⟩)) ?_ b6;simp only [execOp,aw,av,Od];exact jj _ (agu r rfl dV eV.1 eV.2)
def ahW(h:Hyp P K N M β g tmps w p tt){t:TypeId}{x i:Operand}(aw:o.op = .index t x i)(hs:step1 cm tt ops g p o=some (.go f))(cz:∀q,q∈f.a'→q):Yields P K M β g f o tmps w:=by
 simp only [step1,aw]at hs;split at hs
 case h_2=>cases hs
 rename_i l kk j fZ kE z _ hx hi aa;obtain⟨r⟩:=ez h.tt aa;cases hs;have hb:=Xn (cz (aM j l.length=true) (by simp))
 have ex:=m4 (ed (ds:=[]) h.bq h.dQ hx);have Od:=mr (ed (ds:=[]) h.bq h.dQ hi);refine fg h.bq (v:=.int .u8 (l.getD j.toNat 0).toNat) ?_ (.v _ _ (.int _ _));simp only [execOp,aw,ex,Od];exact jj _ (agv r rfl hb.1 hb.2)
def ahX{k n m:Nat}{get:Nat→V}{a:Nat}{b off cap:Nat}
 {val:Nat→Nat→Value} (hk:∀i,i<n→(get i).cells.length=k) (cX:∀i j,i<n→j<k→M b (off+i*k+j)=some (val i j)) (Z:∀i j,i<n→j<k→(val i j).oneCell'=true)
 (ai:∀(i j:Nat) c,i<n→(get i).cells[j]? = some c→dj M (val i j) c) (hm:a+m≤n) (hc:m≤cap):
 dj M (.slice (some ⟨b,off+a*k,none⟩) m cap) (.bM k m λi=>get (a+i)):=by
 refine .bM b (off+a*k) k m cap _ (λi j=>val (a+i) j) hc (λi hi=>hk _ (by omega)) (λi j hi hj=>?_) (λi j hi hj=>Z _ _ (by omega) hj) (λi j c hi l_=>ai _ _ _ (by omega) l_)
 have:=cX (a+i) j (by omega) hj
 rw [Nat.add_mul]at this
 rwa [show off+a*k+i*k+j=off+(a*k+i*k)+j by omega]
def GP{t e:TypeId}{aH co:d9}(r:Row P t aH)(hk:aH.k = .bM e)(dV:Row P e co){base:Option Addr}{n cap:Nat}{lo hi:Option Value}{a b:Nat}
 (kq:lo=none∧a=0∨∃k,lo=some (.int k a)) (jC:hi=none∧b=n∨∃k,hi=some (.int k b)) (m6:a≤b) (q8:b≤n) (m7:n≤cap):
 (Instr.sliceAt t (.slice base n cap) lo hi none).run P w = .ok (.slice (if cap=a then base else base.map (·.add (a*co.size))) (b-a) (cap-a)) w:=by
 have hu:=r.run_underlying w;rw [pT r hk]at hu;have GQ:b≤cap:=by omega
 rcases kq with⟨rfl,rfl⟩|⟨dt,rfl⟩<;>rcases jC with⟨rfl,rfl⟩|⟨ak,rfl⟩
 ·simp [Instr.sliceAt,hu,Instr.slice,Instr.sliceBounds,dV.run_sizeOf]
 ·simp [Instr.sliceAt,hu,Instr.slice,Instr.sliceBounds,Instr.sliceBound,asIntOf,dV.run_sizeOf,GQ]
 ·simp [Instr.sliceAt,hu,Instr.slice,Instr.sliceBounds,Instr.sliceBound,asIntOf,dV.run_sizeOf,m6]
 ·simp [Instr.sliceAt,hu,Instr.slice,Instr.sliceBounds,Instr.sliceBound,asIntOf,dV.run_sizeOf,GQ,m6]
end
section
variable {P:Program} {K:Ctx} {N:Nat} {M:Mem} {β:Nat→Option Nat} {st:aI} {g:dg} {tmps:Array Value} {w:World} {o:Oper} {f:lw} {p:Path} {tt:dD} {cm:gH} {ops:List Oper}
def sx{t:TypeId}{x:Operand}{lo hi kf:Option Operand}(aw:o.op = .slice t x lo hi kf){v u:Value}(hx:(⟨tmps,[]⟩:Act).eval x=v){a b:Option Value}(ha:lo.map (⟨tmps,[]⟩:Act).eval=a)(hb:hi.map (⟨tmps,[]⟩:Act).eval=b){c:Option Value}(hm:kf.map (⟨tmps,[]⟩:Act).eval=c)
 (h:(Instr.sliceAt t v a b c).run P w = .ok u w):(execOp (Act.eval ⟨tmps,[]⟩) o).run P w = .ok (.value u) w:=by
 simp only [execOp,aw,hx,ha,hb,hm];exact jj _ h
def GR{t:TypeId}{aH:d9}(r:Row P t aH)(hk:aH.k = .str){l:av3}{lo hi:Option Value}{a b:Nat}
 (kq:lo=none∧a=0∨∃k,lo=some (.int k a)) (jC:hi=none∧b=l.length∨∃k,hi=some (.int k b)) (m6:a≤b) (q8:b≤l.length):
 (Instr.sliceAt t (.string ⟨⟨l⟩⟩) lo hi none).run P w = .ok (.string ⟨⟨(l.take b).drop a⟩⟩) w:=by
 have hu:=r.run_underlying w;rw [qU r hk]at hu;have hs:(⟨⟨l⟩⟩:ByteArray).size=l.length:=rfl
 have hx:(⟨⟨l⟩⟩:ByteArray).extract a b=⟨⟨(l.take b).drop a⟩⟩:=by
  have:=ByteArray.extract_mk l a b
  rw [List.drop_take];exact this
 rcases kq with⟨rfl,rfl⟩|⟨dt,rfl⟩<;>rcases jC with⟨rfl,rfl⟩|⟨ak,rfl⟩
 ·simp [Instr.sliceAt,hu,Instr.slice,Instr.sliceBounds]
 ·simp [Instr.sliceAt,hu,Instr.slice,Instr.sliceBounds,Instr.sliceBound,asIntOf,q8,hs,hx]
 ·simp [Instr.sliceAt,hu,Instr.slice,Instr.sliceBounds,Instr.sliceBound,asIntOf,m6,hs,hx]
 ·simp [Instr.sliceAt,hu,Instr.slice,Instr.sliceBounds,Instr.sliceBound,asIntOf,q8,m6,hs,hx]
def Cu{v:Value}{k n:Nat}{get:Nat→V}(av:cw M β v (.v (.bM k n get))){a b:Nat}(m6:a≤b)(q8:b≤n){base:Option Addr}{cap:Nat}(vQ:v = .slice base n cap)(m7:n≤cap):
 dj M (.slice (if cap=a then base else base.map (·.add (a*k))) (b-a) (cap-a)) (.bM k (b-a) λi=>get (a+i)):=by
 rcases tI av with⟨Z|⟨a0,Z⟩,ab⟩|⟨o3,off,Xa,val,Z,hc,hk,cX,lA,ai⟩
 ·rw [vQ]at Z;cases Z;have:b=0:=by omega
  subst this;have:a=0:=by omega
  subst this;exact .l7 _ _
 ·rw [vQ]at Z;cases Z;have:b=0:=by omega
  subst this;have:a=0:=by omega
  subst this;exact .oT _ _ _
 ·rw [vQ]at Z;cases Z;by_cases XD:cap=a
  ·rw [if_pos XD];have:b-a=0:=by omega
   rw [this];exact .bM o3 off k 0 _ _ (λ_ _=>undef) (Nat.zero_le _) (by simp) (by simp) (by simp) (by simp)
  ·rw [if_neg XD];simp only [Option.map_some,addr_add];exact ahX hk cX lA ai (by omega) (by omega)
def ahY(h:Hyp P K N M β g tmps w p tt){t:TypeId}{x:Operand}{lo hi kf:Option Operand}(aw:o.op = .slice t x lo hi kf)(hs:step1 cm tt ops g p o=some (.go f))(cz:∀q,q∈f.a'→q):Yields P K M β g f o tmps w:=by
 have fR:∀{y:Option Operand} {kk:IntKind} {n:Int},y.map (λy=>rd g.env g.b5 p tt o.type y)=some (some (.v (.int kk n)))→y.map (⟨tmps,[]⟩:Act).eval=some (.int kk n):=by
  intro y kk n b6;cases y with
  |none=>simp at b6
  |some y=>
   simp at b6
   simp [mr (ed (ds:=[]) h.bq h.dQ b6)]
 have tU:∀{y:Option Operand},y.map (λy=>rd g.env g.b5 p tt o.type y)=none→y.map (⟨tmps,[]⟩:Act).eval=none:=by
  intro y b6;simp at b6;simp [b6]
 simp only [step1,aw]at hs;split at hs
 ·rename_i fZ kE z _ aa;obtain⟨r⟩:=ez h.tt aa;split at hs
  ·rename_i l hx kq jC;cases hs;have ex:=m4 (ed (ds:=[]) h.bq h.dQ hx);have:=GR (w:=w) r rfl (l:=l) (lo:=none) (hi:=none) (a:=0) (b:=l.length) (.inl ⟨rfl,rfl⟩) (.inl ⟨rfl,rfl⟩) (by omega) (by omega)
   simp at this
   exact fg h.bq (sx aw ex (tU kq) (tU jC) rfl this) (.v _ _ (.str _))
  ·rename_i l dt a hx kq jC;cases hs;have ex:=m4 (ed (ds:=[]) h.bq h.dQ hx);have hb:=tQ (cz (gV a l.length=true) (by simp))
   obtain⟨dS,rfl⟩:=Int.eq_ofNat_of_zero_le hb.1;have:=GR (w:=w) r rfl (l:=l) (lo:=some (.int dt dS)) (hi:=none) (a:=dS) (b:=l.length) (.inr ⟨_,rfl⟩) (.inl ⟨rfl,rfl⟩) (by omega) (by omega)
   simp at this
   exact fg h.bq (sx aw ex (fR kq) (tU jC) rfl this) (.v _ _ (.str _))
  ·rename_i l ak b hx kq jC;cases hs;have ex:=m4 (ed (ds:=[]) h.bq h.dQ hx);have hb:=tQ (cz (gV b l.length=true) (by simp))
   obtain⟨bJ,rfl⟩:=Int.eq_ofNat_of_zero_le hb.1;have:=GR (w:=w) r rfl (l:=l) (lo:=none) (hi:=some (.int ak bJ)) (a:=0) (b:=bJ) (.inl ⟨rfl,rfl⟩) (.inr ⟨_,rfl⟩) (by omega) (by omega)
   simp at this
   exact fg h.bq (sx aw ex (tU kq) (fR jC) rfl this) (.v _ _ (.str _))
  ·rename_i l dt a ak b hx kq jC;cases hs;have ex:=m4 (ed (ds:=[]) h.bq h.dQ hx);have hb:=Xo (cz (l5 a b l.length=true) (by simp))
   obtain⟨dS,rfl⟩:=Int.eq_ofNat_of_zero_le hb.1;obtain⟨bJ,rfl⟩:=Int.eq_ofNat_of_zero_le (a:=b) (by omega)
   have:=GR (w:=w) r rfl (l:=l) (lo:=some (.int dt dS)) (hi:=some (.int ak bJ)) (a:=dS) (b:=bJ) (.inr ⟨_,rfl⟩) (.inr ⟨_,rfl⟩) (by omega) (by omega)
   exact fg h.bq (sx aw ex (fR kq) (fR jC) rfl this) (.v _ _ (.str _))
  ·cases hs
 ·rename_i e fZ kE z _ aa;obtain⟨r⟩:=ez h.tt aa;split at hs
  ·rename_i dt size Cv k7 k n get ak a eH hx kq jC;obtain⟨dV⟩:=ez h.tt eH;rw [Bool.cond_eq_ite]at hs;split at hs
   case isFalse=>cases hs
   rename_i ig;simp only [Nat.beq_eq]at ig;subst ig
   have vP:∃(y:V) (rs:List fu) (a':List Prop),f={e:=some {d:=.v y},rs,a'}∧hv (.bM k (n-a.toNat) λi=>get (a.toNat+i)) y∧gV a n=true:=by
    split at hs
    ·rename_i y rs eI;cases hs;exact⟨_,_,_,rfl,cz _ (by simp),cz (gV a n=true) (by simp)⟩
    ·cases hs;exact⟨_,_,_,rfl,λ_ _ h=>h,cz (gV a n=true) (by simp)⟩
    ·cases hs
   obtain⟨y,rs,a',rfl,av,hb⟩:=vP;have hb:=tQ hb;obtain⟨dS,rfl⟩:=Int.eq_ofNat_of_zero_le hb.1;have lD:=ed (ds:=[]) h.bq h.dQ hx;obtain⟨base,cap,ex,m7⟩:=vv lD;have:=GP (w:=w) r rfl dV (base:=base) (n:=n) (cap:=cap) (lo:=some (.int ak dS)) (hi:=none) (a:=dS) (b:=n) (.inr ⟨_,rfl⟩) (.inl ⟨rfl,rfl⟩) (by omega) (by omega) m7
   refine fg h.bq (sx aw ex (fR kq) (tU jC) rfl this) (.v _ _ (av _ _ ?_));have:=Cu lD (a:=dS) (b:=n) (by omega) (by omega) ex m7
   simpa using this
  ·rename_i dt size Cv k7 k n get ak b eH hx kq jC;obtain⟨dV⟩:=ez h.tt eH;rw [Bool.cond_eq_ite]at hs;split at hs
   case isFalse=>cases hs
   rename_i ig;simp only [Nat.beq_eq]at ig;subst ig
   have vP:∃(y:V) (rs:List fu) (a':List Prop),f={e:=some {d:=.v y},rs,a'}∧hv (.bM k b.toNat get) y∧gV b n=true:=by
    split at hs
    ·rename_i y rs eI;cases hs;exact⟨_,_,_,rfl,cz _ (by simp),cz (gV b n=true) (by simp)⟩
    ·cases hs;exact⟨_,_,_,rfl,λ_ _ h=>h,cz (gV b n=true) (by simp)⟩
    ·cases hs
   obtain⟨y,rs,a',rfl,av,hb⟩:=vP;have hb:=tQ hb;obtain⟨bJ,rfl⟩:=Int.eq_ofNat_of_zero_le hb.1;have lD:=ed (ds:=[]) h.bq h.dQ hx;obtain⟨base,cap,ex,m7⟩:=vv lD;have:=GP (w:=w) r rfl dV (base:=base) (n:=n) (cap:=cap) (lo:=none) (hi:=some (.int ak bJ)) (a:=0) (b:=bJ) (.inl ⟨rfl,rfl⟩) (.inr ⟨_,rfl⟩) (by omega) (by omega) m7
   refine fg h.bq (sx aw ex (tU kq) (fR jC) rfl this) (.v _ _ (av _ _ ?_));have:=Cu lD (a:=0) (b:=bJ) (by omega) (by omega) ex m7
   simpa using this
  ·rename_i dt size Cv k7 k n get ak a e' b eH hx kq jC;obtain⟨dV⟩:=ez h.tt eH;rw [Bool.cond_eq_ite]at hs;split at hs
   case isFalse=>cases hs
   rename_i ig;simp only [Nat.beq_eq]at ig;subst ig
   have vP:∃(y:V) (rs:List fu) (a':List Prop),f={e:=some {d:=.v y},rs,a'}∧hv (.bM k (b.toNat-a.toNat) λi=>get (a.toNat+i)) y∧l5 a b n=true:=by
    split at hs
    ·rename_i y rs eI;cases hs;exact⟨_,_,_,rfl,cz _ (by simp),cz (l5 a b n=true) (by simp)⟩
    ·cases hs;exact⟨_,_,_,rfl,λ_ _ h=>h,cz (l5 a b n=true) (by simp)⟩
    ·cases hs
   obtain⟨y,rs,a',rfl,av,hb⟩:=vP;have hb:=Xo hb;obtain⟨dS,rfl⟩:=Int.eq_ofNat_of_zero_le hb.1;obtain⟨bJ,rfl⟩:=Int.eq_ofNat_of_zero_le (a:=b) (by omega)
   have lD:=ed (ds:=[]) h.bq h.dQ hx;obtain⟨base,cap,ex,m7⟩:=vv lD;have:=GP (w:=w) r rfl dV (base:=base) (n:=n) (cap:=cap) (lo:=some (.int ak dS)) (hi:=some (.int e' bJ)) (a:=dS) (b:=bJ) (.inr ⟨_,rfl⟩) (.inr ⟨_,rfl⟩) (by omega) (by omega) m7
   refine fg h.bq (sx aw ex (fR kq) (fR jC) rfl this) (.v _ _ (av _ _ ?_));have:=Cu lD (a:=dS) (b:=bJ) (by omega) (by omega) ex m7
   simpa using this
  ·rename_i dt size Cv k7 k n get eH hx kq jC;obtain⟨dV⟩:=ez h.tt eH;rw [Bool.cond_eq_ite]at hs;split at hs
   case isFalse=>cases hs
   rename_i ig;simp only [Nat.beq_eq]at ig;subst ig;cases hs;have lD:=ed (ds:=[]) h.bq h.dQ hx;obtain⟨base,cap,ex,m7⟩:=vv lD;have:=GP (w:=w) r rfl dV (base:=base) (n:=n) (cap:=cap) (lo:=none) (hi:=none) (a:=0) (b:=n) (.inl ⟨rfl,rfl⟩) (.inl ⟨rfl,rfl⟩) (by omega) (by omega) m7
   refine fg h.bq (sx aw ex (tU kq) (tU jC) rfl this) (.v _ _ ?_);have:=Cu lD (a:=0) (b:=n) (by omega) (by omega) ex m7
   simpa using this
  ·cases hs
 ·rename_i m e fZ kE z _ aa;obtain⟨r⟩:=ez h.tt aa;split at hs
  case h_2=>cases hs
  rename_i size Cv k7 k n get ak b e' c eH hx jC hm;obtain⟨dV⟩:=ez h.tt eH;rw [Bool.cond_eq_ite]at hs;split at hs
  case isFalse=>cases hs
  rename_i ig;simp only [Nat.beq_eq]at ig;subst ig;cases hs;have GQ:=cz (b=c) (by simp)
  subst GQ;have hb:=tQ (cz (gV b n=true) (by simp))
  obtain⟨bJ,rfl⟩:=Int.eq_ofNat_of_zero_le hb.1;have lD:=ed (ds:=[]) h.bq h.dQ hx;obtain⟨base,cap,ex,m7⟩:=vv lD;have q8:bJ≤n:=by omega
  have hu:=r.run_underlying w;rw [pT r rfl]at hu
  have eM:(Instr.sliceAt t (.slice base n cap) none (some (.int ak bJ)) (some (.int e' bJ))).run P w = .ok (.slice (if bJ=0 then base else base.map (·.add (0*k))) bJ bJ) w:=by
   have Z:bJ≤cap:=by omega
   simp [Instr.sliceAt,hu,Instr.slice,Instr.sliceBounds,Instr.sliceBound,asIntOf,dV.run_sizeOf,Z]
  have ahZ:(if bJ=0 then base else base.map (·.add (0*k)))=base:=by
   split
   ·rfl
   ·cases base with
    |none=>rfl
    |some a=>simp [Addr.add]
  rw [ahZ]at eM;have em:(some m).map (⟨tmps,[]⟩:Act).eval=some (.int e' bJ):=fR (y:=some m) hm;refine fg h.bq (sx aw ex rfl (fR jC) em eM) (.full base k _ get ?_);have XE:=Cu lD (a:=0) (b:=bJ) (by omega) q8 ex m7
  simp only [Nat.sub_zero]at XE ⊢;have XF:dj M (.slice (if cap=0 then base else base.map (·.add (0*k))) bJ cap) (.bM k bJ get):=by simpa using XE
  have eV:(if cap=0 then base else base.map (·.add (0*k)))=base:=by
   split
   ·rfl
   ·cases base with
    |none=>rfl
    |some a=>simp [Addr.add]
  rw [eV]at XF;cases XF with
  |l7=>exact .l7 _ _
  |oT a=>exact .oT _ _ _
  |bM vi off k n cap get val hc hk cX Z h=>exact .bM vi off k _ _ get val (Nat.le_refl _) hk cX Z h
 ·cases hs
def XG{c:Call}(aw:o.op = .call c)(hc:c.callee = .builtin .len){a:Operand}(e9:c.args.toList=[a]){t:TypeId}(hl:c.argTypes.toList[0]? = some t){h2 v:Value}(ha:(⟨tmps,[]⟩:Act).eval a=h2)
 (h:∀ty,(Builtin.len_ #[t] ty #[h2]).run P w = .ok v w):(execOp (Act.eval ⟨tmps,[]⟩) o).run P w = .ok (.value v) w:=by
 have vB:c.args = #[a]:=by apply Array.ext';simpa using e9
 have NM:∀ty,(Builtin.len_ c.argTypes ty #[h2]).run P w = .ok v w:=by
  intro ty;have h0:c.argTypes[0]? = some t:=by simpa using hl
  have:=h ty
  simp only [Builtin.len_,h0]at this ⊢;exact this
 simp only [execOp,aw,resolve,hc,vB,Sem.run_bind,Sem.run_pure,Result.andThen_ok,invoke,builtin,List.map_toArray,List.map_cons,List.map_nil,ha];simp [NM]
def XH{F:Nat→Option Nat}{l cI:List D}(h:lx F l=some cI):cI.length=l.length:=(x' h).1.symm
def ah0 {c : Call} (aw : o.op = .call c) {x : Operand} (hc : c.callee = .value x) {fn : FuncId} {vs : List Value} (hx : (⟨tmps, []⟩ : Act).eval x = .func (.func fn) #[] ⟨vs⟩) {fd : Func} (ba : P.funcs[fn]? = some fd) (hb : fd.body.isSome = true) (hn : fd.name ≠ "runtime.NumGoroutine") :
 (execOp (Act.eval ⟨tmps,[]⟩) o).run P w = .ok (.enter fn ⟨c.args.toList.map (⟨tmps,[]⟩:Act).eval++vs⟩) w:=by
 have q8:fd.body≠none:=by intro bm;rw [bm]at hb;cases hb
 simp [execOp,aw,resolve,hc,hx,Deferred.ofValue,invoke,callFunc,ba,q8,hn]
def XI{F:TypeId→Operand→Option D}:∀{xs:List Operand} {ts:List TypeId} {ds:List D},l6 F xs ts=some ds→ds.length=xs.length∧∀(i:Nat) x d,xs[i]? = some x→ds[i]? = some d→∃t,F t x=some d
 |[],ts,ds,h=>by simp [l6]at h;subst h;simp
 |x::xs,[],ds,h=>by simp [l6]at h
 |x::xs,t::ts,ds,h=>by
  simp only [l6]at h;split at h
  case h_2=>cases h
  rename_i d ah1 hd ib;cases h;obtain⟨Z,ab⟩:=XI ib;refine⟨by simp [Z],λi y e b6 he=>?_⟩
  cases i with
  |zero=>simp at b6 he;subst b6;subst he;exact⟨t,hd⟩
  |succ i=>simp at b6 he;exact ab i y e b6 he
mutual
def XJ{ρ:List Nat}:∀(d:D) {dL:D},eD (idx ρ) d=some dL→eD (λj=>ρ[j]?) dL=some d
 |.v x,dL,h=>by simp [eD]at h;subst h;simp [eD]
 |.ptr r off,dL,h=>by
  simp only [eD,Option.map_eq_some_iff]at h;obtain⟨j,hj,rfl⟩:=h;simp [eD,GB hj]
 |.cu r off u,dL,h=>by
  simp only [eD,Option.map_eq_some_iff]at h;obtain⟨j,hj,rfl⟩:=h;simp [eD,GB hj]
 |.e8 x,dL,h=>by simp [eD]at h;subst h;simp [eD]
 |.full k n get,dL,h=>by simp [eD]at h;subst h;simp [eD]
 |.fn g fq,dL,h=>by
  simp only [eD,Option.map_eq_some_iff]at h;obtain⟨l,aa,rfl⟩:=h;simp [eD,GS fq aa]
 |.agg cs,dL,h=>by
  simp only [eD,Option.map_eq_some_iff]at h;obtain⟨l,aa,rfl⟩:=h;simp [eD,GS cs aa]
 |.cn cs,dL,h=>by
  simp only [eD,Option.map_eq_some_iff]at h;obtain⟨l,aa,rfl⟩:=h;simp [eD,GS cs aa]
def GS{ρ:List Nat}:∀(l:List D) {cI:List D},lx (idx ρ) l=some cI→lx (λj=>ρ[j]?) cI=some l
 |[],cI,h=>by simp [lx]at h;subst h;simp [lx]
 |d::l,cI,h=>by
  simp only [lx]at h;split at h
  case h_2=>cases h
  rename_i d1 hL hd aa;cases h;simp [lx,XJ d hd,GS l aa]
end
def XK{ρ:List Nat}:∀{b bJ:List aW},ns (idx ρ) b=some bJ→ns (λj=>ρ[j]?) bJ=some b
 |[],bJ,h=>by simp [ns]at h;subst h;simp [ns]
 |e::l,bJ,h=>by
  simp only [ns]at h;split at h
  case h_2=>cases h
  rename_i e1 hL he aa;cases h;simp only [Gb,Option.map_eq_some_iff]at he;obtain⟨d,hd,rfl⟩:=he;simp [ns,Gb,XJ _ hd,XK aa]
def XL{ρ:List Nat}:∀{bs pX:List (List aW)},ke (idx ρ) bs=some pX→ke (λj=>ρ[j]?) pX=some bs
 |[],pX,h=>by simp [ke]at h;subst h;simp [ke]
 |b::l,pX,h=>by
  simp only [ke]at h;split at h
  case h_2=>cases h
  rename_i cb hL hb aa;cases h;simp [ke,XK hb,XL aa]
def ah2{st:aI}(h:bL P K M β st tmps w){ρ:List Nat}{bs H1:List (List aW)}(hn:nt ρ=true)(k6:boxes st.H ρ=some bs)(mw:ke (idx ρ) bs=some H1)
 {os:List Nat} {out:Out} {v:Value} {w':World} {M':Mem} {β':Nat→Option Nat} (jo:bL P (kG M β st tmps w ρ os) M' β' {env:=ia out,H:=cY 0 H1,aY:=ρ.length} #[v] w'):
 M.le M'∧bL P K M' β {st with env:=gW os st.env} tmps w'∧
 (∀d own,out = .ret d own→∀dL,eD (λj=>ρ[j]?) d=some dL→cw M' β v dL∧∀T l0,own=some T→mY P K M' β {st with env:=gW os st.env} tmps w' l0 v T)∧
 (∀x,out = .bl x→dj M' v x):=by
 obtain⟨cy,eV⟩:=vF k6;have e6:H1.length=ρ.length:=by rw [(yo mw).1,cy]
 obtain⟨Z,ab,aj,aD⟩:=NZ h hn k6 (XL mw) e6 jo
 have kH:∀r,look (ly ρ bs++st.H) r=look st.H r:=by
  intro r;obtain⟨aX,bW⟩:=NS (H:=st.H) (ρ:=ρ) (bs:=bs) cy hn r;by_cases hj:∃(j:Nat),ρ[j]? = some r
  ·obtain⟨j,hj⟩:=hj;rw [aX j hj,(eV j r hj).1]
  ·exact bW λj bm=>hj ⟨j,bm⟩
 have fr:∀l,({env:=gW os st.env,H:=ly ρ bs++st.H,aY:=st.aY}:aI).at l=({st with env:=gW os st.env}:aI).at l:=by
  intro l;cases l with
  |slot s=>rfl
  |cell r i=>simp only [aI.at,kH]
 refine⟨Z,ab.sub rfl (λl e aa=>⟨e,by rw [fr];exact aa,rfl,λ_ h=>h⟩) (λr cs ai=>⟨cs,by rw [←ai];exact kH r,rfl⟩),λd own hd dL kC=>?_,aD⟩
 obtain⟨aX,bW⟩:=aj d own hd dL kC;refine⟨aX,λT l0 aC=>?_⟩
 obtain⟨cZ,dr,eR⟩:=bW T l0 aC;exact⟨cZ,λl e T' b aa=>dr l e T' b (by rw [fr];exact aa),λb r cs hb ai=>eR b r cs hb (by rw [←ai];exact kH r)⟩
def XM(P:Program)(K:Ctx)(M:Mem)(β:Nat→Option Nat)(g:dg)(s:ob)(o:Oper)(tmps:Array Value)(w:World):Prop:=
 match s with
 |.go f=>(∀q,q∈f.a'→q)→Yields P K M β g f o tmps w
 |.bl x hs a'=>(∀q,q∈a'→q)→ahl P K M β g x hs o tmps w
def XN{os:List Nat}{env:List (Nat×aW)}{s:Nat}{e:aW}(h:look env s=some e):∃bG,look (gW os env) s=some bG∧bG.d=e.d:=by
 rw [nu,h];split
 ·exact⟨_,rfl,rfl⟩
 ·exact⟨_,rfl,rfl⟩
def Oe{g:dg}(h:fG P K N M β g tmps w){xs:List Operand}{ts:List TypeId}:∀{os:List Nat} {hd:List (Nat×Option Nat×TypeId)},handed tt g xs ts os=some hd→∀{vs:List Value},
 (∀(i:Nat) t,xs[i]? = some (.tmp t)→vs[i]? = some (tmps.getD t undef))→(∀(i:Nat),xs[i]? = some (.const (.slice none 0 0))→vs[i]? = some (.slice none 0 0))→
 Handed {env:=g.env,H:=g.H,aY:=g.aY} tmps vs hd
 |[],hd,bm,vs,_,_=>by
  simp [handed]at bm;subst bm;exact⟨by simp,by simp,by simp⟩
 |i::os,hd,bm,vs,Z,ab=>by
  simp only [handed]at bm;split at bm
  ·rename_i t l hx aa;have aJ:=Oe h aa Z ab;split at bm
   case h_2=>cases bm
   rename_i d e he;rw [Bool.cond_eq_ite]at bm;split at bm
   case isFalse=>cases bm
   rename_i hc;simp only [Bool.and_eq_true,List.all_eq_true,Bool.not_eq_true']at hc;cases bm;refine⟨λmZ bY T hm=>?_,λmZ T hm=>?_,λmZ vI bY T T' hm kr=>?_⟩
   ·rcases List.mem_cons.1 hm with hm|hm
    ·cases hm;exact⟨_,he,rfl,Z i t hx⟩
    ·exact aJ.some mZ bY T hm
   ·rcases List.mem_cons.1 hm with hm|hm
    ·cases hm
    ·exact aJ.none mZ T hm
   ·rcases List.mem_cons.1 hm with hm|hm<;>rcases List.mem_cons.1 kr with kr|kr
    ·cases hm;cases kr;rfl
    ·cases hm;have:=(hc.2 _ kr).1
     simp at this
    ·cases kr;have:=(hc.2 _ hm).1
     simp at this
    ·exact aJ.inj mZ vI bY T T' hm kr
  ·rename_i l hx aa;have aJ:=Oe h aa Z ab;split at bm
   case h_2=>cases bm
   rename_i e fZ kE z _ he;rw [Bool.cond_eq_ite]at bm;split at bm
   case isFalse=>cases bm
   cases bm;refine⟨λmZ bY T hm=>?_,λmZ T hm=>?_,λmZ vI bY T T' hm kr=>?_⟩
   ·rcases List.mem_cons.1 hm with hm|hm
    ·cases hm
    ·exact aJ.some mZ bY T hm
   ·rcases List.mem_cons.1 hm with hm|hm
    ·cases hm;exact ab i hx
    ·exact aJ.none mZ T hm
   ·rcases List.mem_cons.1 hm with hm|hm<;>rcases List.mem_cons.1 kr with kr|kr
    ·cases hm
    ·cases hm
    ·cases kr
    ·exact aJ.inj mZ vI bY T T' hm kr
  ·cases bm
def ah3(h:Hyp P K N M β g tmps w p tt){c:Call}(aw:o.op = .call c){x:Operand}(hc:c.callee = .value x){fn:FuncId}{fq ds:List D}(hx:rd g.env g.b5 p tt o.type x=some (.fn fn fq))
 (ib:l6 (rd g.env g.b5 p tt) c.args.toList c.argTypes.toList=some ds) {s:ob} (hs:x6 (hO P) tt g p c.args.toList c.argTypes.toList fn (ds++fq)=some s):
 XM P K M β g s o tmps w:=by
 obtain⟨vs,av,hlen,ai⟩:=WC (ed (ds:=[]) h.bq h.dQ hx);obtain⟨gI,jk⟩:=XI ib
 have e9:∀(i:Nat) v d,(c.args.toList.map (⟨tmps,[]⟩:Act).eval++vs)[i]? = some v→(ds++fq)[i]? = some d→cw M β v d:=by
  intro i v d eG tR;by_cases hi:i<c.args.toList.length
  ·rw [List.getElem?_append_left (by simpa using hi),List.getElem?_map,Option.map_eq_some_iff]at eG
   obtain⟨y,b6,rfl⟩:=eG;rw [List.getElem?_append_left (by omega)]at tR
   obtain⟨ty,hl⟩:=jk i y d b6 tR;exact ed h.bq h.dQ hl
  ·rw [List.getElem?_append_right (by simp;simp at hi;omega)]at eG
   rw [List.getElem?_append_right (by omega)]at tR
   refine ai _ v d eG ?_;rw [gI]at tR;simpa using tR
 have Of:(c.args.toList.map (⟨tmps,[]⟩:Act).eval++vs).length=(ds++fq).length:=by simp at gI ⊢;omega
 unfold x6 at hs
 dsimp only at hs
 generalize mb:oW g.H 2 (dedup ((ds++fq).flatMap refs))=ρ at hs
 split at hs
 case h_2=>cases hs
 rename_i out cH os rs eI;split at hs
 case h_2=>cases hs
 rename_i jN H1 hd XO mw vG;rw [Option.bind_eq_some_iff]at mw;obtain⟨bs,k6,mw⟩:=mw;rw [Bool.cond_eq_ite]at hs;split at hs
 ·cases hs
 rename_i XP
 have hn:nt ρ=true:=by
  have:(!nt ρ || !(List.isEmpty p||List.isEmpty os))=false:=by simpa using XP
  simp only [Bool.or_eq_false_iff,Bool.not_eq_false']at this;exact this.1
 have eL:=Oe h.bq vG (vs:=c.args.toList.map (⟨tmps,[]⟩:Act).eval++vs) (λi t aF=>by
  rw [List.getElem?_append_left (by simpa using(List.getElem?_eq_some_iff.1 aF).1),List.getElem?_map,aF];rfl) (λi aF=>by
  rw [List.getElem?_append_left (by simpa using(List.getElem?_eq_some_iff.1 aF).1),List.getElem?_map,aF];rfl)
 have ei:=Xf (st:={env:=g.env,H:=g.H,aY:=g.aY}) h.bq.bq hn k6 mw Of e9 XO eL;have e6:H1.length=ρ.length:=by rw [(yo mw).1,(vF k6).1]
 -- Gv l' contract ah4, auq l' boxes behind it
 have key:∀{vR:List (List aW)},gX P fn jN (tO hd) H1 out vR→(execOp (Act.eval ⟨tmps,[]⟩) o).run P w = .ok (.enter fn ⟨c.args.toList.map (⟨tmps,[]⟩:Act).eval++vs⟩) w∧
  Calls P fn ⟨c.args.toList.map (⟨tmps,[]⟩:Act).eval++vs⟩ w λe w'=>∃v M' β',e=q2 out v∧
   bL P (kG M β {env:=g.env,H:=g.H,aY:=g.aY} tmps w ρ (q5 hd)) M' β' {env:=ia out,H:=cY 0 vR,aY:=ρ.length} #[v] w':=by
  intro vR ah5;obtain⟨⟨fd,km,Og,jS⟩,ah6⟩:=ah5;refine⟨ah0 aw hc av km Og jS,(ah6 _ w _ M _ (by rw [Of,XH XO]) ei (λr b hb=>hb)).mono ?_⟩
  rintro e w' ⟨o',H',v,M',β',⟨rfl,rfl⟩,he,cT⟩
  rw [e6]at cT;exact⟨v,M',β',he,cT⟩
 -- l' boxes as aur aus, named aut and back
 have back:∀{vR ah7:List (List aW)},ke (λj=>ρ[j]?) vR=some ah7→vR.length=ρ.length→∀{v:Value} {w':World} {M':Mem} {β':Nat→Option Nat},
  bL P (kG M β {env:=g.env,H:=g.H,aY:=g.aY} tmps w ρ (q5 hd)) M' β' {env:=ia out,H:=cY 0 vR,aY:=ρ.length} #[v] w'→_:=
  λhx aa _ _ _ _ hp=>NZ (st:={env:=g.env,H:=g.H,aY:=g.aY}) h.bq.bq hn k6 hx aa hp
 have XQ:∀{v:Value} {w':World} {M':Mem} {β':Nat→Option Nat},
  bL P (kG M β {env:=g.env,H:=g.H,aY:=g.aY} tmps w ρ (q5 hd)) M' β' {env:=ia out,H:=cY 0 H1,aY:=ρ.length} #[v] w'→
  M.le M'∧bL P K M' β {env:=gW (q5 hd) g.env,H:=g.H,aY:=g.aY} tmps w'∧
  (∀d own,out = .ret d own→∀dL,eD (λj=>ρ[j]?) d=some dL→cw M' β v dL∧∀T l0,own=some T→mY P K M' β {env:=gW (q5 hd) g.env,H:=g.H,aY:=g.aY} tmps w' l0 v T)∧
  (∀x,out = .bl x→dj M' v x):=by
  intro v w' M' β' hp;exact ah2 (st:={env:=g.env,H:=g.H,aY:=g.aY}) h.bq.bq hn k6 mw hp
 cases out with
 |ret d own=>
  cases cH with
  |none=>
   simp only [Option.map_eq_some_iff]at hs;obtain⟨dL,kC,rfl⟩:=hs;intro cz;obtain⟨Z,ab⟩:=key (cz _ (List.mem_singleton.2 rfl));refine .inr (.inr ⟨fn,_,Z,ab.mono ?_⟩)
   rintro e w' ⟨v,M',β',he,hp⟩
   obtain⟨cX,cT,Oh,_⟩:=XQ hp;refine⟨v,he,M',β,cX,λ_ _ h=>h,λ_ _ h=>.inl h,cT,λe1 pV=>?_⟩
   cases pV;exact Oh d own rfl dL kC
  |some cH=>
   dsimp only at hs
   split at hs
   case h_2=>cases hs
   rename_i dL iS kC vL;rw [Bool.cond_eq_ite]at hs;split at hs
   case isFalse=>cases hs
   rename_i aa;cases hs;intro cz;obtain⟨Z,ab⟩:=key (cz _ (List.mem_singleton.2 rfl));refine .inr (.inr ⟨fn,_,Z,ab.mono ?_⟩)
   rintro e w' ⟨v,M',β',he,hp⟩
   obtain⟨cX,cT,Oh,_⟩:=back vL (by simpa using aa) hp
   refine⟨v,he,M',β,cX,λ_ _ h=>h,λ_ _ h=>.inl h,cT,λe1 pV=>?_⟩
   cases pV;exact Oh d own rfl dL kC
 |bl x=>
  cases cH with
  |none=>
   cases hs;intro cz;obtain⟨Z,ab⟩:=key (cz _ (List.mem_singleton.2 rfl));refine .inr ⟨fn,_,Z,ab.mono ?_⟩
   rintro e w' ⟨v,M',β',he,hp⟩
   obtain⟨cX,cT,_,Oi⟩:=XQ hp;exact⟨v,M',he,Oi x rfl,cT.pP λs e he=>XN he⟩
  |some cH=>
   dsimp only at hs
   split at hs
   case h_2=>cases hs
   rename_i iS vL;rw [Bool.cond_eq_ite]at hs;split at hs
   case isFalse=>cases hs
   rename_i aa;cases hs;intro cz;obtain⟨Z,ab⟩:=key (cz _ (List.mem_singleton.2 rfl));refine .inr ⟨fn,_,Z,ab.mono ?_⟩
   rintro e w' ⟨v,M',β',he,hp⟩
   obtain⟨cX,cT,_,Oi⟩:=back vL (by simpa using aa) hp
   exact⟨v,M',he,Oi x rfl,cT.pP λs e he=>XN he⟩
end
section
variable {P:Program} {K:Ctx} {N:Nat} {M:Mem} {β:Nat→Option Nat} {st:aI} {g:dg} {tmps:Array Value} {w:World} {o:Oper} {f:lw} {p:Path} {tt:dD} {ops:List Oper}
def XR(h:Hyp P K N M β g tmps w p tt){c:Call}(aw:o.op = .call c)(hc:c.callee = .builtin .len){d:D}(hd:mapM' (λy=>rd g.env g.b5 p tt o.type y) c.args.toList=some [d]){aH:d9}
 (aa:(c.argTypes.toList[0]?).bind (look tt)=some aH) {n:Nat} (hk:(∃l,d = .v (.str l)∧aH.k = .str∧n=l.length)∨(∃k get e,d = .v (.bM k n get)∧aH.k = .bM e)):
 Yields P K M β g {e:=some {d:=.v (.int .i64 n)},rs:=g.rs} o tmps w:=by
 obtain⟨gI,jk⟩:=tJ hd;rw [Option.bind_eq_some_iff]at aa;obtain⟨t,aF,aa⟩:=aa;obtain⟨r⟩:=ez h.tt aa
 obtain⟨a,ha⟩:∃a,c.args.toList=[a]:=by
  cases gM:c.args.toList with
  |nil=>rw [gM]at gI;simp at gI
  |cons a l=>
   rw [gM]at gI;simp at gI
   exact⟨a,by rw [gI]⟩
 have pZ:=ed (ds:=[]) h.bq h.dQ (jk 0 a d (by rw [ha];rfl) rfl)
 rcases hk with⟨l,rfl,hk,rfl⟩|⟨k,get,e,rfl,hk⟩
 ·have q6:=m4 pZ;refine fg h.bq (XG aw hc ha aF q6 (λty=>?_)) (.v _ _ (.int _ _))
  have hs:(⟨⟨l⟩⟩:ByteArray).size=l.length:=rfl;simp [Builtin.len_,r.run_underlying,qU r hk,goInt,hs]
 ·obtain⟨base,cap,q6,_⟩:=vv pZ;refine fg h.bq (XG aw hc ha aF q6 (λty=>?_)) (.v _ _ (.int _ _))
  simp [Builtin.len_,r.run_underlying,pT r hk,goInt]
def ah8(h:Hyp P K N M β g tmps w p tt){c:Call}(aw:o.op = .call c)(hc:c.callee = .builtin .min){k:IntKind}{a b:Int}(hd:mapM' (λy=>rd g.env g.b5 p tt o.type y) c.args.toList=some [.v (.int k a),.v (.int k b)]):
 Yields P K M β g {e:=some {d:=.v (.int k (bif decide (b<a)then b else a))},rs:=g.rs} o tmps w:=by
 obtain⟨gI,jk⟩:=tJ hd
 obtain⟨x,y,m3⟩:∃x y,c.args.toList=[x,y]:=by
  cases gM:c.args.toList with
  |nil=>rw [gM]at gI;simp at gI
  |cons x l=>
   cases l with
   |nil=>rw [gM]at gI;simp at gI
   |cons y l=>
    rw [gM]at gI;simp at gI
    exact⟨x,y,by rw [gI]⟩
 have ex:=mr (ed (ds:=[]) h.bq h.dQ (jk 0 x _ (by rw [m3];rfl) rfl))
 have Oj:=mr (ed (ds:=[]) h.bq h.dQ (jk 1 y _ (by rw [m3];rfl) rfl))
 have vB:c.args = #[x,y]:=by apply Array.ext';simpa using m3
 refine fg h.bq (v:=.int k (bif decide (b<a)then b else a)) ?_ (.v _ _ (.int _ _))
 simp only [execOp,aw,resolve,hc,vB,Sem.run_bind,Sem.run_pure,Result.andThen_ok,invoke,builtin,List.map_toArray,List.map_cons,List.map_nil,ex,Oj];by_cases m6:b<a<;>simp [Builtin.min_,Builtin.min2,m6]
def ah9(h:Hyp P K N M β g tmps w p tt){c:Call}(aw:o.op = .call c)(hc:c.callee = .builtin .max){k:IntKind}{a b:Int}(hd:mapM' (λy=>rd g.env g.b5 p tt o.type y) c.args.toList=some [.v (.int k a),.v (.int k b)]):
 Yields P K M β g {e:=some {d:=.v (.int k (bif decide (a<b)then b else a))},rs:=g.rs} o tmps w:=by
 obtain⟨gI,jk⟩:=tJ hd
 obtain⟨x,y,m3⟩:∃x y,c.args.toList=[x,y]:=by
  cases gM:c.args.toList with
  |nil=>rw [gM]at gI;simp at gI
  |cons x l=>
   cases l with
   |nil=>rw [gM]at gI;simp at gI
   |cons y l=>
    rw [gM]at gI;simp at gI
    exact⟨x,y,by rw [gI]⟩
 have ex:=mr (ed (ds:=[]) h.bq h.dQ (jk 0 x _ (by rw [m3];rfl) rfl))
 have Oj:=mr (ed (ds:=[]) h.bq h.dQ (jk 1 y _ (by rw [m3];rfl) rfl))
 have vB:c.args = #[x,y]:=by apply Array.ext';simpa using m3
 refine fg h.bq (v:=.int k (bif decide (a<b)then b else a)) ?_ (.v _ _ (.int _ _))
 simp only [execOp,aw,resolve,hc,vB,Sem.run_bind,Sem.run_pure,Result.andThen_ok,invoke,builtin,List.map_toArray,List.map_cons,List.map_nil,ex,Oj];by_cases m6:a<b<;>simp [Builtin.max_,Builtin.max2,m6]
def ah'(h:Hyp P K N M β g tmps w p tt){cm:gH}{x:Operand}{s t:TypeId}{ok:Bool}(aw:o.op = .typeAssert x s t ok)(hs:step1 cm tt ops g p o=some (.go f)):Yields P K M β g f o tmps w:=by
 simp only [step1,aw]at hs;split at hs
 case h_2=>cases hs
 rename_i bY y k fZ kE z _ hx aa;obtain⟨r⟩:=ez h.tt aa;have ai:=ed (ds:=[]) h.bq h.dQ hx;obtain⟨u,av,hu⟩:=Nh ai;have XS:k ≠ .pL:=by rintro rfl;simp at hs
 have N_:∀i,r.desc ≠ .interface i:=by
  intro i hd;have:=r.hk
  rw [hd]at this;simp [lB]at this;exact XS this.symm
 have gl:(bif Nat.beq bY t then(some (ob.go {e:=some {d:=(bif ok then .cn [.v y,.v (.bool true)]else .v y)},rs:=g.rs}))else none)=some (.go f):=by
  cases k<;>first|exact(XS rfl).elim|exact hs
 rw [Bool.cond_eq_ite]at gl;split at gl
 case isFalse=>cases gl
 rename_i hb;have bQ:bY=t:=by simpa using hb
 subst bQ;cases gl
 have eM:(Instr.typeAssert (.iface bY u) s bY ok).run P w = .ok (bif ok then .tuple #[u,.bool true]else u) w:=by
  unfold Instr.typeAssert;simp only [Sem.run_bind,r.run_underlying,Result.andThen_ok];cases hd:r.desc<;>first|exact(N_ _ hd).elim|(cases ok<;>simp)
 refine fg h.bq (v:=bif ok then .tuple #[u,.bool true]else u) ?_ ?_
 ·simp only [execOp,aw,av];exact jj _ eM
 ·cases ok
  ·exact .v _ _ hu
  ·refine .cn [u,.bool true] _ rfl λi v c av hc=>?_
   match i with
   | 0=>simp at av hc;subst av;subst hc;exact .v _ _ hu
   | 1=>simp at av hc;subst av;subst hc;exact .v _ _ (.bool _)
   |i+2=>simp at av
def XT(h:Hyp P K N M β g tmps w p tt){s:ob}(hs:step1 (hO P) tt ops g p o=some s):XM P K M β g s o tmps w:=by
 cases aw:o.op with
 |move x=>cases s with
  |go f=>exact λ_=>ahs h aw hs
  |bl x gl a'=>simp only [step1,aw]at hs;repeat' (first |(split at hs) |(rw [Bool.cond_eq_ite]at hs) |(cases hs;done))
 |assign x=>cases s with
  |go f=>exact λ_=>aht h aw hs
  |bl x gl a'=>simp only [step1,aw]at hs;repeat' (first |(split at hs) |(rw [Bool.cond_eq_ite]at hs) |(cases hs;done))
 |pick c a b=>
  cases c with
  |tmp c=>cases s with
   |go f=>exact λ_=>ahu h aw hs
   |bl x gl a'=>simp only [step1,aw]at hs;repeat' (first |(split at hs) |(simp at hs;done))
  |_=>simp [step1,aw]at hs
 |alloc t=>cases s with
  |go f=>exact λ_=>ahv h aw hs
  |bl x gl a'=>simp only [step1,aw]at hs;repeat' (first |(split at hs) |(cases hs;done))
 |box t x=>cases s with
  |go f=>exact λ_=>ahw h aw hs
  |bl x gl a'=>simp only [step1,aw]at hs;repeat' (first |(split at hs) |(rw [Bool.cond_eq_ite]at hs) |(cases hs;done))
 |build t parts=>cases s with
  |go f=>exact λ_=>ahx h aw hs
  |bl x gl a'=>simp only [step1,aw]at hs;repeat' (first |(split at hs) |(rw [Bool.cond_eq_ite]at hs) |(simp at hs;done) |(cases hs;done))
 |buildSlice t len parts=>cases s with
  |go f=>exact λcz=>ahz h aw hs cz
  |bl x gl a'=>simp only [step1,aw]at hs;repeat' (first |(split at hs) |(rw [Bool.cond_eq_ite]at hs) |(cases hs;done))
 |load t a=>cases s with
  |go f=>exact λ_=>ahA h aw hs
  |bl x gl a'=>simp only [step1,aw]at hs;repeat' (first |(split at hs) |(rw [Bool.cond_eq_ite]at hs) |(simp at hs;done) |(cases hs;done))
 |store t a x=>cases s with
  |go f=>exact λ_=>ahB h aw hs
  |bl x gl a'=>simp only [step1,aw]at hs;repeat' (first |(split at hs) |(rw [Bool.cond_eq_ite]at hs) |(cases hs;done))
 |nilCheck x=>cases s with
  |go f=>exact λ_=>ahC h aw hs
  |bl x gl a'=>simp only [step1,aw]at hs;repeat' (first |(split at hs) |(simp at hs;done))
 |binOp op t x y t2=>cases s with
  |go f=>exact λcz=>ahP h aw hs cz
  |bl x gl a'=>simp only [step1,aw]at hs;repeat' (first |(split at hs) |(rw [Bool.cond_eq_ite]at hs) |(simp at hs;done))
 |unOp op t x=>cases s with
  |go f=>exact λ_=>ahD h aw hs
  |bl x gl a'=>simp only [step1,aw]at hs;repeat' (first |(split at hs) |(simp at hs;done))
 |convert a b x=>cases s with
  |go f=>exact λcz=>ahE h aw hs cz
  |bl x gl a'=>simp only [step1,aw]at hs;repeat' (first |(split at hs) |(simp at hs;done))
 |makeInterface t x=>cases s with
  |go f=>exact λ_=>ahF h aw hs
  |bl x gl a'=>simp only [step1,aw]at hs;repeat' (first |(split at hs) |(simp at hs;done))
 |makeFunc fn first fq=>
  cases fn with
  |func fn=>cases s with
   |go f=>exact λ_=>ahG h aw hs
   |bl x gl a'=>simp only [step1,aw]at hs;rw [Bool.cond_eq_ite]at hs;split at hs<;>simp at hs
  |_=>simp [step1,aw]at hs
 |slice t x lo hi kf=>cases s with
  |go f=>exact λcz=>ahY h aw hs cz
  |bl x gl a'=>simp only [step1,aw]at hs;repeat' (first |(split at hs) |(rw [Bool.cond_eq_ite]at hs) |(simp at hs;done))
 |fieldAddr a x i=>cases s with
  |go f=>exact λ_=>ahQ h aw hs
  |bl x gl a'=>simp only [step1,aw]at hs;repeat' (first |(split at hs) |(rw [Bool.cond_eq_ite]at hs) |(simp at hs;done))
 |field a x i=>cases s with
  |go f=>exact λ_=>ahS h aw hs
  |bl x gl a'=>simp only [step1,aw]at hs;repeat' (first |(split at hs) |(rw [Bool.cond_eq_ite]at hs) |(simp at hs;done))
 |indexAddr t x i=>cases s with
  |go f=>exact λcz=>ahV h aw hs cz
  |bl x gl a'=>simp only [step1,aw]at hs;repeat' (first |(split at hs) |(rw [Bool.cond_eq_ite]at hs) |(simp at hs;done))
 |index t x i=>cases s with
  |go f=>exact λcz=>ahW h aw hs cz
  |bl x gl a'=>simp only [step1,aw]at hs;repeat' (first |(split at hs) |(simp at hs;done))
 |typeAssert x a t ok=>cases s with
  |go f=>exact λ_=>ah' h aw hs
  |bl x gl a'=>simp only [step1,aw]at hs;repeat' (first |(split at hs) |(rw [Bool.cond_eq_ite]at hs) |(simp at hs;done) |(cases hs;done))
 |extract x i=>cases s with
  |go f=>exact λ_=>ahH h aw hs
  |bl x gl a'=>simp only [step1,aw]at hs;repeat' (first |(split at hs) |(simp at hs;done))
 |call c=>
  simp only [step1,aw]at hs;split at hs
  ·rename_i x o7;split at hs
   case h_2=>cases hs
   rename_i fn fq ds hx ib;exact ah3 h aw o7 hx ib hs
  ·rename_i o7;split at hs
   ·rename_i l _ _ _ _ hd aa;cases hs;exact λ_=>XR h aw o7 hd aa (.inl ⟨l,rfl,rfl,rfl⟩)
   ·rename_i k n get _ _ _ _ _ hd aa;cases hs;exact λ_=>XR h aw o7 hd aa (.inr ⟨k,get,_,rfl,rfl⟩)
   ·cases hs
  ·rename_i o7;split at hs
   case h_2=>cases hs
   rename_i t x e auu Cv k7 _ t2 e9 e6 eH;split at hs
   case h_3=>cases hs
   case h_2=>
    rename_i co k n get d2 y rs hle p0 jk eI;rw [Bool.cond_eq_ite]at hs;split at hs
    case isFalse=>cases hs
    rename_i hc;simp only [Bool.and_eq_true,Nat.beq_eq,Nat.ble_eq]at hc;obtain⟨⟨⟨rfl,GT⟩,GU⟩,vS⟩:=hc;rw [Option.bind_eq_some_iff]at e6 eH;obtain⟨ah_,GV,e6⟩:=e6;obtain⟨Ok,o1,eH⟩:=eH;have ir:=ed (ds:=[]) h.bq h.dQ jk;split at hs
    case h_2=>cases hs
    rename_i ak m mp e2 o8;rw [Bool.cond_eq_ite]at hs;split at hs
    case isFalse=>cases hs
    rename_i ig;simp only [Bool.and_eq_true,Nat.beq_eq,Nat.ble_eq]at ig;obtain⟨rfl,hm⟩:=ig;cases hs;intro cz;obtain⟨news,iW,lF⟩:=Xd h.bq.bq h.tt eH o8 ir;exact ag1 h.bq h.dQ h.tt e6 rfl hle aw o7 e9 GV o1 p0 GU hm iW lF (N3 (cz (room (n+m) co.bytes=true) (by simp))) (cz (hv _ y) (by simp))
   rename_i co k n get d2 auv aZ y rs hle p0 jk vz eI;rw [Bool.cond_eq_ite]at hs;split at hs
   case isFalse=>cases hs
   rename_i hc;simp only [Bool.and_eq_true,Nat.beq_eq,Nat.ble_eq]at hc;obtain⟨⟨⟨⟨rfl,rfl⟩,GT⟩,GU⟩,vS⟩:=hc;rw [Option.bind_eq_some_iff]at e6 eH;obtain⟨ah_,GV,e6⟩:=e6;obtain⟨Ok,o1,eH⟩:=eH;have ir:=ed (ds:=[]) h.bq h.dQ jk;split at hs
   ·rename_i ak m mp e2 o8;rw [Bool.cond_eq_ite]at hs;split at hs
    case isFalse=>cases hs
    rename_i ig;simp only [Nat.beq_eq]at ig;subst ig;cases hs;intro cz;obtain⟨news,iW,lF⟩:=Xd h.bq.bq h.tt eH o8 ir;exact W' h.bq h.dQ h.tt e6 rfl hle aw o7 e9 GV o1 p0 vz rfl GU iW lF (N3 (cz (room (n+m) co.bytes=true) (by simp))) (cz (hv _ y) (by simp))
   ·rename_i l o8;rw [Bool.cond_eq_ite]at hs;split at hs
    case isFalse=>cases hs
    rename_i ig;simp only [Nat.beq_eq]at ig;cases hs;intro cz;have Ol:=m4 ir;obtain⟨news,iW,lF⟩:=ag6 (P:=P) (w:=w) h.tt eH o8 l M;rw [←Ol,←ig]at iW;rw [←ig]at lF;exact W' h.bq h.dQ h.tt e6 rfl hle aw o7 e9 GV o1 p0 vz rfl GU iW lF (N3 (cz (room (n+l.length) co.bytes=true) (by simp))) (cz (hv _ y) (by simp))
   ·cases hs
  ·rename_i o7;split at hs
   ·rename_i k a ak b hd;rw [Bool.cond_eq_ite]at hs;split at hs
    case isFalse=>cases hs
    rename_i hk;have sy:k=ak:=by simpa using hk
    subst sy;cases hs;exact λ_=>ah8 h aw o7 hd
   ·cases hs
  ·rename_i o7;split at hs
   ·rename_i k a ak b hd;rw [Bool.cond_eq_ite]at hs;split at hs
    case isFalse=>cases hs
    rename_i hk;have sy:k=ak:=by simpa using hk
    subst sy;cases hs;exact λ_=>ah9 h aw o7 hd
   ·cases hs
  ·cases hs
 |panic x=>cases s with
  |go f=>simp only [step1,aw]at hs;repeat' (first |(split at hs) |(simp at hs;done))
  |bl y gl a'=>
   simp only [step1,aw]at hs;split at hs
   case h_2=>cases hs
   rename_i t z hd;cases hs;intro _;have ai:=ed (ds:=[]) h.bq h.dQ hd;obtain⟨u,av,hu⟩:=Nh ai;refine .inl ⟨.iface t u,?_,.iface t u z hu,rfl⟩;simp [execOp,aw,av,Instr.panic]
 |_=>simp [step1,aw]at hs
end
inductive cq where
 |normal
 |exit (id:Nat)
 |ret
 |bl (x:V)
def q9(P:Program)(K:Ctx)(N:Nat)(fA:cq)(st:aI)(e:Exit)(a:Act)(w:World):Prop:=
 match fA with
 |.normal=>e = .normal∧a.defers=K.ds∧a.tmps.size=N∧∃M β,bL P K M β st a.tmps w
 |.exit id=>e = .exit id∧a.defers=K.ds∧a.tmps.size=N∧∃M β,bL P K M β st a.tmps w
 |.ret=>e = .ret∧a.defers=K.ds∧a.tmps.size=N∧∃M β,bL P K M β st a.tmps w
 |.bl x=>∃v,e = .panic [{v,recovered:=false}]∧a.defers=K.ds∧∃M β,dj M v x∧bL P K M β st a.tmps w
section
variable {P:Program} {K:Ctx} {N:Nat} {M:Mem} {β:Nat→Option Nat} {st:aI} {g e4:dg} {tmps:Array Value} {w:World} {o:Oper} {f:lw} {p:Path} {tt:dD} {ops:List Oper}
def bL.Cw(h:bL P K M β st tmps w)(en:Array Value):bL P K M β {env:=[],H:=st.H,aY:=st.aY} en w:=by
 have Z:bL P K M β {env:=[],H:=st.H,aY:=st.aY} tmps w:=h.sub rfl (λl e aa=>by
  cases l with
  |slot s=>simp [aI.at,look]at aa
  |cell r i=>exact⟨e,aa,rfl,λ_ h=>h⟩) (λr cs ai=>⟨cs,ai,rfl⟩)
 have av:∀l e,({env:=[],H:=st.H,aY:=st.aY}:aI).at l=some e→ce en w β l=ce tmps w β l:=by
  intro l e aa;cases l with
  |slot s=>simp [aI.at,look]at aa
  |cell r i=>rfl
 constructor
 ·intro l e aa;rw [av l e aa];exact Z.e5 l e aa
 ·intro l e T aa aC;rw [av l e aa];exact Z.own l e T aa aC
 ·intro l cI e aZ T T' b aa aC cN ec hb bQ;rw [av l e aa]at hb;rw [av cI aZ cN]at bQ;exact Z.uniq l cI e aZ T T' b aa aC cN ec hb bQ
 ·intro l e T b r cs aa aC hb ai;rw [av l e aa]at hb;exact Z.unbox l e T b r cs aa aC hb ai
 ·exact Z.box
 ·exact Z.inj
 ·exact Z.lt
 ·exact Z.mem
 ·exact Z.m0
 ·exact Z.frame
 ·exact Z.iC
 ·exact Z.jh
 ·exact Z.hY
def Cx(h:fG P K N M β g tmps w):∀{p:Path} {q:Prop},fF tmps p→under g p q→q
 |[],_,_,au=>au
 |(t,o3)::p,q,hp,au=>by
  have aF:tmps.getD t undef = .bool o3:=hp (t,o3) (by simp)
  have yx:fF tmps p:=λx hx=>hp x (by simp [hx])
  simp only [under]at au;split at au
  ·rename_i b hb;refine Cx h yx (au ?_);unfold BV at hb;split at hb
   ·rename_i q' bJ hc;cases hb;by_cases iX:fF tmps q'
    ·have:=vu ((h.cond t _ _ hc).1 iX)
     rw [aF]at this;cases this;rfl
    ·have:=(h.cond t _ _ hc).2 iX
     rw [aF]at this;cases this
   ·cases hb
   ·split at hb
    ·rename_i bJ own he;cases hb;have:=vu (h.bq.e5 (.slot t) _ he)
     simp only [ce]at this;rw [aF]at this;cases this;rfl
    ·cases hb
  ·exact Cx h yx au
def XU(h:fG P K N M β g tmps w){opsA:Array Oper}(nz:opsA.toList=ops)(hp:pQ ops g o=some p):Region.wanted o (yielded opsA tmps)=true↔fF tmps p:=by
 unfold pQ at hp;split at hp
 ·rename_i hg;cases hp;simp [Region.wanted,hg,fF]
 ·rename_i j o3 hg;split at hp
  case h_2=>cases hp
  rename_i t aF
  have b6:yielded opsA tmps j=some o3↔tmps.getD t undef = .bool o3:=by
   unfold yielded;have:opsA[j]? = ops[j]? := by rw [←nz];simp
   rw [this,aF];simp only [Option.bind_some,Array.getD_eq_getD_getElem?];cases bm:tmps[t]? with
   |none=>simp [undef]
   |some v=>cases v<;>simp
  have hw:Region.wanted o (yielded opsA tmps)=true↔tmps.getD t undef = .bool o3:=by
   rw [←b6];simp [Region.wanted,hg]
  split at hp
  ·rename_i q b hc;cases hp;rw [hw];constructor
   ·intro jT x hx;rcases List.mem_append.1 hx with hx|hx
    ·by_cases iX:fF tmps q
     ·exact iX x hx
     ·have:=(h.cond t _ _ hc).2 iX
      rw [jT]at this;cases this
    ·simp at hx;subst hx;exact jT
   ·intro iX;exact iX (t,o3) (by simp)
  ·cases hp
  ·split at hp
   ·cases hp;rw [hw];exact⟨λh x hx=>by simp at hx;subst hx;exact h,λh=>h (t,o3) (by simp)⟩
   ·cases hp
def Om{t:Nat}{v:Value}{q:Path}(au:∀x,x∈q→x.1≠t):fF (tmps.setIfInBounds t v) q↔fF tmps q:=by
 unfold fF;constructor<;>intro h x hx
 ·have:=h x hx
  rwa [Array.getD_eq_getD_getElem?,Array.getElem?_setIfInBounds_ne (Ne.symm (au x hx)),←Array.getD_eq_getD_getElem?]at this
 ·have:=h x hx
  rwa [Array.getD_eq_getD_getElem?,Array.getElem?_setIfInBounds_ne (Ne.symm (au x hx)),←Array.getD_eq_getD_getElem?]
def aia{t s:Nat}{v:Value}(h:s≠t):(tmps.setIfInBounds t v).getD s undef=tmps.getD s undef:=by
 rw [Array.getD_eq_getD_getElem?,Array.getElem?_setIfInBounds_ne (Ne.symm h),←Array.getD_eq_getD_getElem?]
def aib{b5:List (Nat×Path×D)}{t:Nat}(h:x9 b5 t=true){s:Nat}{q:Path}{d:D}(hc:look b5 s=some (q,d))(hs:s≠t):∀x,x∈q→x.1≠t:=by
 unfold x9 at h;rw [List.all_eq_true]at h;have:=h _ (sm hc)
 simp only [Bool.or_eq_true,Nat.beq_eq,List.all_eq_true,Bool.not_eq_true']at this;rcases this with Z|Z
 ·exact absurd Z hs
 ·intro x hx e;have:=Z x hx
  rw [e]at this;simp at this
def On(h:∀t q d,look g.b5 t=some (q,d)→(fF tmps q→cw M β (tmps.getD t undef) d)∧(¬ fF tmps q→tmps.getD t undef=undef)){t:Nat}{v:Value}(ba:x9 g.b5 t=true){M':Mem}{β':Nat→Option Nat}
 (cX:M.le M') (hD:∀r b,β r=some b→β' r=some b):
 ∀s q d,look (del g.b5 t) s=some (q,d)→(fF (tmps.setIfInBounds t v) q→cw M' β' ((tmps.setIfInBounds t v).getD s undef) d)∧(¬ fF (tmps.setIfInBounds t v) q→(tmps.setIfInBounds t v).getD s undef=undef):=by
 intro s q d hc;rw [qR]at hc;by_cases hs:t=s
 ·simp [hs]at hc
 ·rw [if_neg hs]at hc;rw [Om (aib ba hc (Ne.symm hs)),aia (Ne.symm hs)];exact⟨λiX=>(((h s q d hc).1 iX).mono cX).M3 hD,(h s q d hc).2⟩
def yy(ds:List Deferred):Act.eval ⟨tmps,ds⟩=Act.eval ⟨tmps,[]⟩:=by
 funext x;cases x<;>rfl
def XV{α:Type}:∀(a b:List (Nat×α)) (q:Nat),look (a++b) q=none→look a q=none∧look b q=none
 |[],b,q,h=>⟨rfl,h⟩
 |(j,x)::a,b,q,h=>by
  simp only [List.cons_append,dy]at h ⊢;by_cases hj:j=q
  ·simp [hj]at h
  ·simp only [hj,if_false]at h ⊢;exact XV a b q h
def fG.Oo(h:fG P K N M β g tmps w){β':Nat→Option Nat}{hs:List (Nat×List aW)}(vT:∀r b,β' r=some b→β r=some b∨(look hs r).isSome=true):
 ∀s id,look g.ids s=some id→look (hs++g.H) id=none→∀b,β' id≠some b:=by
 intro s id hid aa b hb;obtain⟨Z,ab⟩:=XV _ _ _ aa;rcases vT id b hb with aj|aj
 ·exact h.fresh s id hid ab b aj
 ·rw [Z]at aj;cases aj
def Cy(h:fG P K N M β g tmps w)(cf:ff P tt=true){opsA:Array Oper}(nz:opsA.toList=ops)(hs:kg (hO P) tt N ops g o=some (.go e4))(cz:∀q,q∈e4.a'→q){Q:Exit→Act→World→Prop}{next:Act→World→Prop}
 (gt:∀en w' M' β',fG P K N M' β' e4 en w'→next ⟨en,K.ds⟩ w'):
 if Region.wanted o (yielded opsA tmps)then o.wp P ⟨tmps,K.ds⟩ w next Q∨(o.asks P ⟨tmps,K.ds⟩ w∧LetsOut Q)else next ((⟨tmps,K.ds⟩:Act).put o.dst undef) w:=by
 unfold kg at hs;split at hs
 case h_1=>cases hs
 rename_i p hp;have hw:=XU h nz hp;split at hs
 ·cases hs
 ·rw [Bool.cond_eq_ite]at hs;split at hs<;>cases hs
 rename_i f ba
 dsimp only at hs
 by_cases iX:fF tmps p
 ·rw [if_pos (
   hw.2 iX)]
  refine .inl ?_;have ic:=XT (g:=g) (ops:=ops) ⟨h,iX,cf⟩ ba
  -- Gv follows once l' value is there
  have main:(∀q,q∈f.a'→q)∧∀v w',iU P K M β g f tmps v w'→next ((⟨tmps,K.ds⟩:Act).put o.dst v) w':=by
   split at hs
   ·rename_i vU;rw [Bool.cond_eq_ite]at hs;split at hs
    case isFalse=>cases hs
    rename_i vS;have Cz:p=[]:=by simpa using vS
    subst Cz;cases hs;refine⟨λq au=>Cx h iX (cz _ (List.mem_append_left _ (List.mem_map.2 ⟨q,au,rfl⟩))),?_⟩
    rintro v w' ⟨M',β',cX,hD,vT,cT,_⟩
    rw [vU];exact gt tmps w' M' β' ⟨cT,h.size,h.Oo vT,λs q d hc=>⟨λiX=>(((h.cond s q d hc).1 iX).mono cX).M3 hD,(h.cond s q d hc).2⟩⟩
   ·rename_i t vU;rw [Bool.cond_eq_ite]at hs;split at hs
    case isFalse=>cases hs
    rename_i hc;simp only [Bool.and_eq_true,Nat.blt_eq]at hc;have cO:t<tmps.size:=by rw [h.size];exact hc.1
    rcases p with _|⟨x,Oq⟩<;>dsimp only at hs
    ·cases hs;refine⟨λq au=>Cx h iX (cz _ (List.mem_append_left _ (List.mem_map.2 ⟨q,au,rfl⟩))),?_⟩
     rintro v w' ⟨M',β',cX,hD,vT,cT,ic⟩
     rw [vU];refine gt _ w' M' β' ⟨?_,by simpa using h.size,h.Oo vT,On h.cond hc.2 cX hD⟩
     cases he:f.e with
     |none=>exact cT.drop
     |some e=>
      obtain⟨Z,ab⟩:=ic e he;exact cT.put cO Z (λT aC=>ab T _ aC)
    ·split at hs
     ·rename_i e he vV o0;rw [Bool.cond_eq_ite]at hs;split at hs
      case isFalse=>cases hs
      rename_i lH;simp only [Bool.and_eq_true,List.all_eq_true,Nat.beq_eq,Bool.not_eq_true']at lH;cases hs;refine⟨λq au=>Cx h iX (cz _ (List.mem_append_left _ (List.mem_map.2 ⟨q,au,rfl⟩))),?_⟩
      rintro v w' ⟨M',β',cX,hD,vT,cT,ic⟩
      rw [vU];obtain⟨Z,_⟩:=ic e he
      have kF:∀y,y∈x::Oq→y.1≠t:=λy b6 e=>by
       have:=lH.1 y b6
       rw [e]at this;simp at this
      refine gt _ w' M' β' ⟨?_,by simpa using h.size,by have:=h.Oo vT;rw [vV]at this;exact this,λs q d ei=>?_⟩
      ·have:after g f={env:=g.env,H:=g.H,aY:=g.aY}:=by unfold after;rw [o0,vV,lH.2];rfl
       rw [this]at cT;exact cT.drop
      ·rw [dy]at ei;by_cases kl:t=s
       ·rw [if_pos kl]at ei;cases ei;subst kl;rw [Om kF];refine⟨λ_=>?_,λhn=>absurd iX hn⟩
        have:(tmps.setIfInBounds t v).getD t undef=v:=by simp [cO]
        rw [this];exact Z
       ·rw [if_neg kl]at ei;exact On h.cond hc.2 cX hD s q d ei
     ·cases hs
  obtain⟨aic,jo⟩:=main;rcases ic aic with⟨v,w',eM,kI⟩|⟨he,w',eM,kI⟩|⟨fn,vs,eM,vW⟩
  ·unfold Oper.wp;rw [yy,eM];exact jo v w' kI
  ·unfold Oper.wp;rw [yy,eM];exact jo undef w' kI
  ·unfold Oper.wp;rw [yy,eM];refine vW.mono ?_
   rintro e w' ⟨v,rfl,kI⟩
   exact jo v w' kI
 ·have aid:Region.wanted o (yielded opsA tmps)=false:=by
   rw [Bool.eq_false_iff];exact λbm=>iX (hw.1 bm)
  rw [aid];simp only [Bool.false_eq_true,if_false];split at hs
  ·rename_i vU;rw [Bool.cond_eq_ite]at hs;split at hs
   case isFalse=>cases hs
   rename_i vS;have Cz:p=[]:=by simpa using vS
   subst Cz;exact absurd (λx hx=>by cases hx) iX
  ·rename_i t vU;rw [Bool.cond_eq_ite]at hs;split at hs
   case isFalse=>cases hs
   rename_i hc;simp only [Bool.and_eq_true,Nat.blt_eq]at hc;rcases p with _|⟨x,Oq⟩<;>dsimp only at hs
   ·exact absurd (λx hx=>by cases hx) iX
   ·split at hs
    ·rename_i e he vV o0;rw [Bool.cond_eq_ite]at hs;split at hs
     case isFalse=>cases hs
     rename_i lH;simp only [Bool.and_eq_true,List.all_eq_true,Nat.beq_eq,Bool.not_eq_true']at lH;cases hs;rw [vU]
     have kF:∀y,y∈x::Oq→y.1≠t:=λy b6 e=>by
      have:=lH.1 y b6
      rw [e]at this;simp at this
     refine gt _ w M β ⟨h.bq.drop,by simpa using h.size,h.fresh,λs q d ei=>?_⟩
     rw [dy]at ei;by_cases kl:t=s
     ·rw [if_pos kl]at ei;cases ei;subst kl;rw [Om kF];refine⟨λbm=>absurd bm iX,λ_=>?_⟩
      have cO:t<tmps.size:=by rw [h.size];exact hc.1
      simp [cO]
     ·rw [if_neg kl]at ei;exact On h.cond hc.2 (Mem.le_refl _) (λ_ _ h=>h) s q d ei
    ·cases hs
end
section
variable {P:Program} {K:Ctx} {N E:Nat} {M:Mem} {β:Nat→Option Nat} {st:aI} {g e4:dg} {tmps:Array Value} {w:World} {o:Oper} {f:lw} {p:Path} {tt:dD} {ops:List Oper}
def XW(h:fG P K N M β g tmps w)(cf:ff P tt=true){opsA:Array Oper}(nz:opsA.toList=ops){x:V}{st:aI}{a':List Prop}(hs:kg (hO P) tt N ops g o=some (.bl x st a'))(cz:∀q,q∈a'→q){Q:Exit→Act→World→Prop}{next:Act→World→Prop}
 (gt:∀e dS w',q9 P K N (.bl x) st e dS w'→Q e dS w'):
 if Region.wanted o (yielded opsA tmps)then o.wp P ⟨tmps,K.ds⟩ w next Q∨(o.asks P ⟨tmps,K.ds⟩ w∧LetsOut Q)else next ((⟨tmps,K.ds⟩:Act).put o.dst undef) w:=by
 unfold kg at hs;split at hs
 case h_1=>cases hs
 rename_i p hp;have hw:=XU h nz hp;split at hs
 ·cases hs
 ·rename_i y gl tV dE;rw [Bool.cond_eq_ite]at hs;split at hs
  case isFalse=>cases hs
  rename_i vS;have Cz:p=[]:=by simpa using vS
  subst Cz;cases hs;have iX:fF tmps []:=λx hx=>by cases hx
  rw [if_pos (hw.2 iX)];refine .inl ?_;have ic:=XT (g:=g) (ops:=ops) ⟨h,iX,cf⟩ dE;rcases ic (λq au=>cz q (List.mem_append_left _ au)) with⟨v,eM,ai,rfl⟩|⟨fn,vs,eM,vW⟩
  ·unfold Oper.wp;rw [yy,eM];exact gt _ _ _ ⟨v,rfl,rfl,M,β,ai,h.bq.pP λs e he=>⟨e,he,rfl⟩⟩
  ·unfold Oper.wp;rw [yy,eM];refine vW.mono ?_
   rintro e w' ⟨v,M',rfl,ai,cT⟩
   exact gt _ _ _ ⟨v,rfl,rfl,M',β,ai,cT⟩
 ·dsimp only at hs
  repeat' (first|(split at hs)|(rw [Bool.cond_eq_ite]at hs)|(cases hs;done))
def aie{cm:gH}(hs:kg cm tt N ops g o=some (.go e4)):∀q,q∈g.a'→q∈e4.a':=by
 intro q au;unfold kg at hs;split at hs
 case h_1=>cases hs
 split at hs
 ·cases hs
 ·rw [Bool.cond_eq_ite]at hs;split at hs<;>cases hs
 ·dsimp only at hs
  repeat' (first|(split at hs)|(rw [Bool.cond_eq_ite]at hs)|(cases hs;exact List.mem_append_right _ au)|(cases hs;done))
def aif{cm:gH}{x:V}{st:aI}{a':List Prop}(hs:kg cm tt N ops g o=some (.bl x st a')):∀q,q∈g.a'→q∈a':=by
 intro q au;unfold kg at hs;split at hs
 case h_1=>cases hs
 split at hs
 ·cases hs
 ·rw [Bool.cond_eq_ite]at hs;split at hs<;>cases hs;exact List.mem_append_right _ au
 ·dsimp only at hs
  repeat' (first|(split at hs)|(rw [Bool.cond_eq_ite]at hs)|(cases hs;done))
def XX:tC→List Prop
 |.go g=>g.a'
 |.bl _ _ a'=>a'
def XY{cm:gH}:∀{l:List Oper} {g:dg} {fin:tC},tD cm tt N ops l g=some fin→∀q,q∈g.a'→q∈XX fin
 |[],g,fin,h,q,au=>by simp [tD]at h;subst h;exact au
 |o::l,g,fin,h,q,au=>by
  simp only [tD]at h;split at h
  ·rename_i e4 hs;exact XY h q (aie hs q au)
  ·cases fin with
   |go e4=>exact absurd h (by intro bm;rename_i dk;exact dk _ bm)
   |bl x st a'=>exact aif h q au
def Ot(cf:ff P tt=true){opsA:Array Oper}(nz:opsA.toList=ops){Q:Exit→Act→World→Prop}{fin:tC}(k8:∀q,q∈XX fin→q)
 (ee:match fin with
  |.go e4=>∀en w' M' β',fG P K N M' β' e4 en w'→Q .normal ⟨en,K.ds⟩ w'
  |.bl x st _=>∀e dS w',q9 P K N (.bl x) st e dS w'→Q e dS w'):
 ∀(l:List Oper) (k:Nat) (g:dg) (tmps:Array Value) (w:World) (M:Mem) (β:Nat→Option Nat),(∀j,l[j]? = ops[k+j]?)→fG P K N M β g tmps w→tD (hO P) tt N ops l g=some fin→
  wpOps P opsA Q (List.range' k l.length) ⟨tmps,K.ds⟩ w
 |[],k,g,tmps,w,M,β,_,h,ai=>by
  simp [tD]at ai;subst ai;exact ee tmps w M β h
 |o::l,k,g,tmps,w,M,β,aa,h,ai=>by
  have hk:opsA[k]? = some o:=by
   have:=aa 0
   simp at this
   rw [←Array.getElem?_toList,nz];exact this.symm
  simp only [List.length_cons,List.range'_succ,wpOps,hk];simp only [tD]at ai;split at ai
  ·rename_i e4 hs;refine Cy h cf nz hs (λq au=>k8 q (XY ai q au)) (λen w' M' β' cS=>?_)
   exact Ot cf nz k8 ee l (k+1) e4 en w' M' β' (λj=>by have:=aa (j+1);simpa [Nat.add_assoc,Nat.add_comm 1 j]using this) cS ai
  ·cases fin with
   |go e4=>exact absurd ai (by intro bm;rename_i dk;exact dk _ bm)
   |bl x st a'=>exact XW h cf nz ai k8 (λe dS w' b7=>ee e dS w' b7)
def be(P:Program)(N E:Nat)(c:Code)(Q:cq→aI→Prop)(st:aI):Prop:=
 ∀(K:Ctx),(∀r b,K.jO r=some b→r<E)→∀(a:Act) (w:World),q9 P K N .normal st .normal a w→c.wp P (λe dS w'=>∃fA b9,q9 P K N fA b9 e dS w'∧Q fA b9) a w
def be.mono{c:Code}{Q XZ:cq→aI→Prop}(h:be P N E c Q st)(au:∀fA b9,Q fA b9→XZ fA b9):be P N E c XZ st:=
 λK eg a w hs=>wp_mono (h K eg a w hs) λ_ _ _ ⟨fA,b9,Z,ab⟩=>⟨fA,b9,Z,au _ _ ab⟩
@[reducible] def cq.then (next : aI → Prop) (Q : cq → aI → Prop) : cq → aI → Prop
 |.normal,st=>next st
 |e,st=>Q e st
@[reducible] def cq.inBlock (id : Nat) (Q : cq → aI → Prop) : cq → aI → Prop
 |.exit i,st=>if i=id then Q .normal st else Q (.exit i) st
 |e,st=>Q e st
def be.seq{x y:Code}{Q:cq→aI→Prop}(h:be P N E x (cq.then (be P N E y Q) Q) st):be P N E (.seq x y) Q st:=by
 intro K eg a w hs;refine wp_seq (wp_mono (h K eg a w hs) ?_)
 rintro e dS w' ⟨fA,b9,Z,ab⟩
 cases fA with
 |normal=>
  obtain⟨rfl,aj⟩:=Z;exact ab K eg dS w' ⟨rfl,aj⟩
 |exit i=>obtain⟨rfl,aj⟩:=Z;exact⟨.exit i,b9,⟨rfl,aj⟩,ab⟩
 |ret=>obtain⟨rfl,aj⟩:=Z;exact⟨.ret,b9,⟨rfl,aj⟩,ab⟩
 |bl x=>obtain⟨v,rfl,aj⟩:=Z;exact⟨.bl x,b9,⟨v,rfl,aj⟩,ab⟩
def be.skip{Q:cq→aI→Prop}(h:Q .normal st):be P N E .skip Q st:=λ_ _ _ _ hs=>wp_skip ⟨.normal,st,hs,h⟩
def be.label{l:Nat}{Q:cq→aI→Prop}(h:Q .normal st):be P N E (.label l) Q st:=λ_ _ _ _ hs=>wp_label ⟨.normal,st,hs,h⟩
def be.exit{id:Nat}{Q:cq→aI→Prop}(h:Q (.exit id) st):be P N E (.exit id) Q st:=λ_ _ _ _ hs=>wp_exit ⟨.exit id,st,⟨rfl,hs.2⟩,h⟩
def be.ret{Q:cq→aI→Prop}(h:Q .ret st):be P N E .ret Q st:=λ_ _ _ _ hs=>wp_ret ⟨.ret,st,⟨rfl,hs.2⟩,h⟩
def be.block{id:Nat}{c:Code}{Q:cq→aI→Prop}(h:be P N E c (cq.inBlock id Q) st):be P N E (.block id c) Q st:=by
 intro K eg a w hs;refine wp_block (wp_mono (h K eg a w hs) ?_)
 rintro e dS w' ⟨fA,b9,Z,ab⟩
 cases fA with
 |normal=>obtain⟨rfl,aj⟩:=Z;exact⟨.normal,b9,⟨rfl,aj⟩,ab⟩
 |exit i=>
  obtain⟨rfl,aj⟩:=Z;by_cases hi:i=id
  ·simp only [cq.inBlock,hi,if_true]at ab;simp only [Exit.inBlock,hi,if_true];exact⟨.normal,b9,⟨rfl,aj⟩,ab⟩
  ·simp only [cq.inBlock,hi,if_false]at ab;simp only [Exit.inBlock,hi,if_false];exact⟨.exit i,b9,⟨rfl,aj⟩,ab⟩
 |ret=>obtain⟨rfl,aj⟩:=Z;exact⟨.ret,b9,⟨rfl,aj⟩,ab⟩
 |bl x=>obtain⟨v,rfl,aj⟩:=Z;exact⟨.bl x,b9,⟨v,rfl,aj⟩,ab⟩
def be.cond{c:Nat}{x y:Code}{Q:cq→aI→Prop}(b:Bool)(own:Option TypeId)(hc:look st.env c=some ⟨.v (.bool b),own⟩)(aF:b=true→be P N E x Q st)(ba:b=false→be P N E y Q st):be P N E (.cond (.tmp c) x y) Q st:=by
 intro K eg a w hs;obtain⟨_,_,_,M,β,cT⟩:=id hs;have av:a.eval (.tmp c) = .bool b:=vu (cT.e5 (.slot c) _ hc);exact wp_cond_split av (λhb=>aF hb K eg a w hs) (λhb=>ba hb K eg a w hs)
def be.loop{c:Code}{Q:cq→aI→Prop}{σ:Type}(I:Nat→σ→aI→Prop)(X0:∀n s st,I n s st→∃m,n=m+1∧be P N E c (cq.then (λb9=>∃sl,I m sl b9) Q) st)
 {n:Nat} {s:σ} {st:aI} (h0:I n s st):be P N E (.loop c) Q st:=by
 intro K eg a w hs b k cs
 have key:∀n s st a w,I n s st→q9 P K N .normal st .normal a w→
  ∃e dS w',(∃fA b9,q9 P K N fA b9 e dS w'∧Q fA b9)∧Arrives P (lone (b.at a (.code c :: .inLoop c::k)) cs w) b k cs e dS w':=by
  intro n;induction n with
  |zero=>
   intro s st a w my _;obtain⟨m,hm,_⟩:=X0 0 s st my;omega
  |succ n aJ=>
   intro s st a w my hs;obtain⟨m,hm,Og⟩:=X0 (n+1) s st my;have:m=n:=by omega
   subst this;obtain⟨e,GW,GX,⟨fA,b9,Z,ab⟩,yz⟩:=Og K eg a w hs b (.inLoop c::k) cs;cases fA with
   |normal=>
    obtain⟨rfl,aj⟩:=Z;obtain⟨sl,aig⟩:=ab;obtain⟨aih,aii,aij,aik,ail⟩:=aJ sl b9 GW GX aig ⟨rfl,aj⟩;exact⟨aih,aii,aij,aik,.of_steps (Steps.trans yz (.one step_inLoop)) ail⟩
   |exit i=>obtain⟨rfl,aj⟩:=Z;exact⟨_,GW,GX,⟨.exit i,b9,⟨rfl,aj⟩,ab⟩,.pass (x:=.inLoop c) rfl (λ_ _=>.inl (by simp)) yz⟩
   |ret=>obtain⟨rfl,aj⟩:=Z;exact⟨_,GW,GX,⟨.ret,b9,⟨rfl,aj⟩,ab⟩,.pass (x:=.inLoop c) rfl (λ_ _=>.inl (by simp)) yz⟩
   |bl x=>obtain⟨v,rfl,aj⟩:=Z;exact⟨_,GW,GX,⟨.bl x,b9,⟨v,rfl,aj⟩,ab⟩,.pass (x:=.inLoop c) rfl (λ_ _=>.inl (by simp)) yz⟩
 obtain⟨e,dS,w',au,yz⟩:=key n s st a w h0 hs;exact⟨e,dS,w',au,.of_steps (.one step_loop) yz⟩
end
def yA(tt:dD)(st:aI):ResultVar→Option D
 |.tmp t=>(look st.env t).map (·.d)
 |.cell a t=>match look st.env a,look tt t with
  |some ⟨.ptr r off,_⟩,some aH=>match look st.H r with
   |some cs=>bif aH.k.isAgg then(bif Nat.ble (off+aH.size) cs.length then some (mV (((cs.drop off).take aH.size).map (·.d)))else none) else(cs[off]?).map (·.d)
   |none=>none
  |_,_=>none
def X1(tt:dD)(st:aI):List ResultVar→Option (D×Option TypeId)
 |[.tmp t]=>(look st.env t).map λe=>(e.d,e.own)
 |[x]=>(yA tt st x).map (·,none)
 |xs=>(mapM' (yA tt st) xs).map λds=>(.cn ds,none)
def leave(tt:dD)(E:Nat)(rs:List ResultVar)(st:aI):Option (Out×List (List aW)):=
 match X1 tt st rs,boxes st.H (List.range E) with
 |some (d,own),some H'=>bif below E d&&H'.all (si E)then some (.ret d own,H')else none
 |_,_=>none
def GY(E:Nat)(H:List (Nat×List aW)):Option (List (List aW)):=
 match boxes H (List.range E) with
 |some H'=>bif H'.all (si E)then some H' else none
 |none=>none
def sz(tt:dD)(E c:Nat):List ResultVar→aI→Option (Out×List (List aW))
 |[.cell a t],st=>match look st.env a,look tt t with
  |some ⟨.ptr r off,_⟩,some aH=>match look st.H r,boxes st.H (List.range E) with
   |some cs,some H'=>
    bif (((((aH.k.isAgg&&Nat.ble (off+aH.size) cs.length)&&tA (marks c) (marksOf 0 ((cs.drop off).take aH.size)))&&Nat.ble E r)&&below E (mV (((cs.drop off).take aH.size).map (·.d))))&&H'.all (si E)) then
     some (.ret (mV (((cs.drop off).take aH.size).map (·.d))) (some c),H')else none
   |_,_=>none
  |_,_=>none
 |_,_=>none
def oq(H:List (List aW)):List (List aW):=H.map λb=>b.map λe=>{d:=e.d}
def sA(tt:dD)(E:Nat)(rs:List ResultVar)(R:Out→List (List aW)→Prop):cq→aI→Prop
 |.normal,st=>∃o H',(leave tt E rs st=some (o,H')∨∃c,sz tt E c rs st=some (o,H'))∧R o H'
 |.ret,st=>∃o H',(leave tt E rs st=some (o,H')∨∃c,sz tt E c rs st=some (o,H'))∧R o H'
 |.bl x,st=>∃H',GY E st.H=some H'∧R (.bl x) (oq H')
 |.exit _,_=>False
section
variable {P:Program} {K:Ctx} {N E:Nat} {M:Mem} {β:Nat→Option Nat} {st:aI} {tmps:Array Value} {w:World} {tt:dD}
def yB(tmps:Array Value):ResultVar→Sem Value
 |.tmp t=>pure (tmps.getD t undef)
 |.cell a t=>do loadVar t (←asAddr (tmps.getD a undef))
def X2(h:bL P K M β st tmps w)(cf:ff P tt=true){x:ResultVar}{d:D}(hx:yA tt st x=some d):
 ∃v,(yB tmps x).run P w = .ok v w∧cw M β v d:=by
 cases x with
 |tmp t=>
  simp only [yA,Option.map_eq_some_iff]at hx;obtain⟨e,he,rfl⟩:=hx;exact⟨_,rfl,h.e5 (.slot t) e he⟩
 |cell a t=>
  simp only [yA]at hx;split at hx
  case h_2=>cases hx
  rename_i r off own aH ha aa;obtain⟨row⟩:=ez cf aa;split at hx
  case h_2=>cases hx
  rename_i cs ai;obtain⟨b,hb,av⟩:=oZ (h.e5 (.slot a) _ ha);simp only [ce]at av;obtain⟨bJ,vs,T,bQ,bm,hlen,_,_,gJ,k2⟩:=h.box r cs ai;rw [hb]at bQ;cases bQ
  have X3:∀{u:Value},(Instr.loadAt t (.pointer (some ⟨b,off,none⟩))).run P w = .ok u w→(do loadVar t (←asAddr (tmps.getD a undef)):Sem Value).run P w = .ok u w:=by
   intro u hu;rw [av];simpa [Instr.loadAt,Instr.sureAddr,asAddr]using hu
  rw [Bool.cond_eq_ite]at hx;split at hx
  ·rename_i h1;rw [Bool.cond_eq_ite]at hx;split at hx
   case isFalse=>cases hx
   rename_i hle;simp only [Nat.ble_eq]at hle;cases hx;refine⟨_,X3 (Gn (P:=P) row (off:=off) bm (by omega) h1),?_⟩
   refine yh (by simp;omega) (λv av=>gJ v (List.mem_of_mem_drop (List.mem_of_mem_take av))) (λi v c av hc=>?_)
   rw [List.getElem?_map,Option.map_eq_some_iff]at hc;obtain⟨e,he,rfl⟩:=hc;rw [List.getElem?_take]at av he;split at av
   ·rename_i hi;rw [if_pos hi,List.getElem?_drop]at he;rw [List.getElem?_drop]at av;have:=h.e5 (.cell r (off+i)) e (by simp [aI.at,ai,he])
    simpa [ce,hb,cell_of_heap bm,av]using this
   ·cases av
  ·rename_i h1;simp only [Option.map_eq_some_iff]at hx;obtain⟨e,he,rfl⟩:=hx;obtain⟨jn,ag5,pS,v,eV,Xc,eG,ci⟩:=M8 h ai he;rw [hb]at eV;cases eV;refine⟨v,X3 (Ni (P:=P) row (by rw [cell_of_heap Xc,eG]) (by simpa using h1)),?_⟩
   have:=h.e5 (.cell r off) e (by simp [aI.at,ai,he])
   rwa [ci]at this
def X4(h:bL P K M β st tmps w)(cf:ff P tt=true):∀{xs:List ResultVar} {ds:List D},mapM' (yA tt st) xs=some ds→
 ∃vs:List Value,(xs.mapM (yB tmps)).run P w = .ok vs w∧vs.length=ds.length∧
  ∀(i:Nat) v d,vs[i]? = some v→ds[i]? = some d→cw M β v d
 |[],ds,hx=>by simp [mapM']at hx;subst hx;exact⟨[],rfl,rfl,by simp⟩
 |x::xs,ds,hx=>by
  simp only [mapM']at hx;split at hx
  case h_2=>cases hx
  rename_i d ah1 hd ib;cases hx;obtain⟨v,av,f5⟩:=X2 h cf hd;obtain⟨vs,nw,aa,ai⟩:=X4 h cf ib;refine⟨v::vs,?_,by simp [aa],λi u c hu hc=>?_⟩
  ·simp only [List.mapM_cons,Sem.run_bind,av,Result.andThen_ok,nw,Sem.run_pure]
  ·cases i with
   |zero=>simp at hu hc;subst hu;subst hc;exact f5
   |succ i=>simp at hu hc;exact ai i u c hu hc
def aim{H:List (Nat×List aW)}{E:Nat}{H':List (List aW)}(h:boxes H (List.range E)=some H'):H'.length=E∧∀r,r<E→look H r=H'[r]? ∧ (H'[r]?).isSome=true:=by
 obtain⟨Z,ab⟩:=vF h;exact⟨by simpa using Z,λr ai=>ab r r (by simp [ai])⟩
def bL.leave(h:bL P K M β st tmps w){H':List (List aW)}(vX:boxes st.H (List.range E)=some H')(X5:H'.all (si E)=true)(eg:∀r b,K.jO r=some b→r<E){v:Value}{d:D}{own:Option TypeId}
 (av:cw M β v d) (hd:below E d=true) (f0:∀T,own=some T→∃l,mY P K M β {env:=gW l st.env,H:=st.H,aY:=st.aY} tmps w (.slot 0) v T∧True):
 ∃ β',bL P K M β' {env:=[(0,{d,own})],H:=cY 0 H',aY:=E} #[v] w:=by
 obtain⟨aa,mc⟩:=aim vX;have Z:=h.Cw #[undef]
 have kH:∀r cs,look (cY 0 H') r=some cs→r<E∧look st.H r=some cs:=by
  intro r cs ai;rw [ny]at ai;have cO:r<E:=by have:=(List.getElem?_eq_some_iff.1 ai).1;omega
  exact⟨cO,by rw [(mc r cO).1];exact ai⟩
 have hle:E≤st.aY∨E=0:=by
  by_cases h0:E=0
  ·exact .inr h0
  ·obtain⟨ab,aj⟩:=mc (E-1) (by omega)
   obtain⟨cs,ei⟩:=Option.isSome_iff_exists.1 aj;rw [ei]at ab;obtain⟨b,_,_,hb,_⟩:=h.box _ cs ab;have:=h.lt _ b hb
   exact .inl (by omega)
 have ab:bL P K M β {env:=[],H:=cY 0 H',aY:=st.aY} #[undef] w:=by
  refine Z.sub rfl (λl e aa=>?_) (λr cs ai=>⟨cs,(kH r cs ai).2,rfl⟩)
  cases l with
  |slot s=>simp [aI.at,look]at aa
  |cell r i=>
   simp only [aI.at]at aa ⊢;cases ai:look (cY 0 H') r with
   |none=>simp [ai]at aa
   |some cs=>simp [ai]at aa;exact⟨e,by simp [(kH r cs ai).2,aa],rfl,λ_ h=>h⟩
 -- l' slot
 have aj:bL P K M β {env:=[(0,{d,own})],H:=cY 0 H',aY:=st.aY} #[v] w:=by
  have ain:=ab.put (t:=0) (v:=v) (e:={d,own}) (by simp) av (λT aC=>?_)
  ·simpa using ain
  ·obtain⟨l,hn,_⟩:=f0 T aC;refine⟨hn.own,λhL e T' b e6 ec _ hb bQ=>?_,λb r cs hb ai=>hn.unbox b r cs hb (kH r cs ai).2⟩
   cases hL with
   |slot s=>simp [aI.at,look]at e6
   |cell r i=>
    simp only [aI.at]at e6;cases ai:look (cY 0 H') r with
    |none=>simp [ai]at e6
    |some cs=>
     simp [ai]at e6;exact hn.apart (.cell r i) e T' b (by simp [aI.at,(kH r cs ai).2,e6]) ec (by simp) hb bQ
 refine⟨λr=>if r<E then β r else none,?_⟩
 have ci:∀l e,({env:=[(0,{d,own})],H:=cY 0 H',aY:=st.aY}:aI).at l=some e→ce #[v] w (λr=>if r<E then β r else none) l=ce #[v] w β l:=by
  intro l e aa;cases l with
  |slot s=>rfl
  |cell r i=>
   simp only [aI.at]at aa;cases ai:look (cY 0 H') r with
   |none=>simp [ai]at aa
   |some cs=>simp [ce,(kH r cs ai).1]
 have nv:∀l e,({env:=[(0,{d,own})],H:=cY 0 H',aY:=st.aY}:aI).at l=some e→below E e.d=true:=by
  intro l e aa;cases l with
  |slot s=>
   simp only [aI.at,dy]at aa;split at aa
   ·cases aa;exact hd
   ·simp [look]at aa
  |cell r i=>
   simp only [aI.at]at aa;cases ai:look (cY 0 H') r with
   |none=>simp [ai]at aa
   |some cs=>
    simp [ai]at aa;rw [ny]at ai;rw [List.all_eq_true]at X5;exact Nc (X5 cs (List.mem_of_getElem? ai)) aa
 constructor
 ·intro l e aa;rw [ci l e aa];exact(aj.e5 l e aa).Wt (λr ai=>by simp [ai]) (nv l e aa)
 ·intro l e T aa aC;rw [ci l e aa];exact aj.own l e T aa aC
 ·intro l cI e aZ T T' b aa aC cN ec hb bQ;rw [ci l e aa]at hb;rw [ci cI aZ cN]at bQ;exact aj.uniq l cI e aZ T T' b aa aC cN ec hb bQ
 ·intro l e T b r cs aa aC hb ai;rw [ci l e aa]at hb;have:=aj.unbox l e T b r cs aa aC hb ai
  simpa [(kH r cs ai).1]using this
 ·intro r cs ai;obtain⟨b,vs,T,aD,aX⟩:=aj.box r cs ai;exact⟨b,vs,T,by simpa [(kH r cs ai).1]using aD,aX⟩
 ·intro r cJ b cs cs' ai fe hb bQ;exact aj.inj r cJ b cs cs' ai fe (by simpa [(kH r cs ai).1]using hb) (by simpa [(kH cJ cs' fe).1]using bQ)
 ·intro r b hb;by_cases cO:r<E
  ·exact cO
  ·simp [cO]at hb
 ·exact aj.mem
 ·exact aj.m0
 ·exact aj.frame
 ·intro r b hb;simp [eg r b hb,aj.iC r b hb]
 ·exact aj.jh
 ·exact aj.hY
def bL.era{env:List (Nat×aW)}{H:List (List aW)}{n:Nat}(h:bL P K M β {env:=env,H:=cY 0 H,aY:=n} tmps w):bL P K M β {env:=env,H:=cY 0 (oq H),aY:=n} tmps w:=by
 refine h.sub rfl (λl e aa=>?_) (λr cs ai=>?_)
 ·cases l with
  |slot s=>exact⟨e,aa,rfl,λ_ h=>h⟩
  |cell r i=>
   simp only [aI.at,ny,oq,List.getElem?_map]at aa ⊢;cases hb:H[r]? with
   |none=>simp [hb]at aa
   |some b=>
    simp only [hb,Option.map_some,Option.bind_some,List.getElem?_map,Option.map_eq_some_iff]at aa;obtain⟨bG,h0,rfl⟩:=aa;exact⟨bG,by simpa using h0,rfl,λT aC=>by cases aC⟩
 ·simp only [ny,oq,List.getElem?_map,Option.map_eq_some_iff]at ai ⊢;obtain⟨b,hb,rfl⟩:=ai;exact⟨b,hb,by simp⟩
def GZ{fn:Func}{E:Nat}{en:Array Value}{w':World}{b9:aI}{M':Mem}{β':Nat→Option Nat}{o:Out}{H':List (List aW)}(cf:ff P tt=true)(eg:∀r b,K.jO r=some b→r<E)(hs:bL P K M' β' b9 en w')
 (aa:Ab.leave tt E fn.results.toList b9=some (o,H')):
 ∃v,(results fn en).run P w' = .ok v w'∧∃jB M' β',Ending.returned v=q2 o jB∧bL P K M' β' {env:=ia o,H:=cY 0 H',aY:=E} #[jB] w':=by
 unfold Ab.leave at aa;split at aa
 case h_2=>cases aa
 rename_i d own H1 ic vX;rw [Bool.cond_eq_ite]at aa;split at aa
 case isFalse=>cases aa
 rename_i hc;simp only [Bool.and_eq_true]at hc;cases aa
 -- l' value of l' results
 have ci:∃v,(results fn en).run P w' = .ok v w'∧cw M' β' v d∧∀T,own=some T→∃l,mY P K M' β' {env:=gW l b9.env,H:=b9.H,aY:=b9.aY} en w' (.slot 0) v T∧True:=by
  have hm:∀{vs:List Value},(fn.results.toList.mapM (yB en)).run P w' = .ok vs w'→
   (results fn en).run P w' = .ok (if h:vs.length=1 then vs[0]else .tuple ⟨vs⟩) w':=by
   intro vs nw
   have ic:results fn en=(do let vs ←fn.results.mapM (yB en);pure (if h:vs.size=1 then vs[0]else .tuple vs)):=by
    unfold results
    congr 2
   rw [ic,show fn.results=⟨fn.results.toList⟩from rfl,List.mapM_toArray]
   simp only [Sem.run_bind,Sem.run_map,nw,Result.andThen_ok,Sem.run_pure];simp
  unfold X1 at ic;split at ic
  ·rename_i t aF;simp only [Option.map_eq_some_iff,Prod.mk.injEq]at ic;obtain⟨e,he,rfl,rfl⟩:=ic;have hE:=hs.e5 (.slot t) e he;refine⟨en.getD t undef,?_,hE,λT aC=>⟨[t],hs.hand he aC (.slot 0),trivial⟩⟩
   have:=hm (vs:=[en.getD t undef]) (by rw [aF];rfl)
   simpa using this
  ·rename_i x dk hx;simp only [Option.map_eq_some_iff,Prod.mk.injEq]at ic;obtain⟨dL,kC,rfl,rfl⟩:=ic;obtain⟨v,av,f5⟩:=X2 hs cf kC;refine⟨v,?_,f5,by simp⟩
   have:=hm (vs:=[v]) (by rw [hx];simp only [List.mapM_cons,List.mapM_nil,Sem.run_bind,av,Result.andThen_ok,Sem.run_pure])
   simpa using this
  ·simp only [Option.map_eq_some_iff,Prod.mk.injEq]at ic;obtain⟨ds,ib,rfl,rfl⟩:=ic;obtain⟨vs',nw,aa,f5⟩:=X4 hs cf ib;refine⟨.tuple ⟨vs'⟩,?_,.cn vs' ds aa f5,by simp⟩
   have dk:vs'.length≠1:=by
    rename_i Z ab;rw [aa,(tJ ib).1];intro bm;obtain⟨x,hx⟩:=List.length_eq_one_iff.1 bm;exact ab x hx
   have:=hm nw
   simpa [dk]using this
 obtain⟨v,eM,f5,f0⟩:=ci;obtain⟨CA,k8⟩:=hs.leave vX hc.2 eg f5 hc.1 f0;exact⟨v,eM,v,M',CA,rfl,k8⟩
def X6{H:List (Nat×List aW)}{r:Nat}{cs:List aW}:∀{l:List Nat},(∀x,x∈l→x≠r)→boxes ((r,cs)::H) l=boxes H l
 |[],_=>rfl
 |x::l,h=>by
  have aJ:=X6 (H:=H) (cs:=cs) (l:=l) λy b6=>h y (by simp [b6])
  have hx:=h x (by simp)
  simp only [boxes,aJ,dy,if_neg (Ne.symm hx)]
def X7{fn:Func}{E:Nat}{en:Array Value}{w':World}{b9:aI}{M':Mem}{β':Nat→Option Nat}{o:Out}{H':List (List aW)}(cf:ff P tt=true)(eg:∀r b,K.jO r=some b→r<E)(hs:bL P K M' β' b9 en w')
 {c:Nat} (aa:Ab.sz tt E c fn.results.toList b9=some (o,H')):
 ∃v,(results fn en).run P w' = .ok v w'∧∃jB M' β',Ending.returned v=q2 o jB∧bL P K M' β' {env:=ia o,H:=cY 0 H',aY:=E} #[jB] w':=by
 unfold Ab.sz at aa;split at aa
 case h_2=>cases aa
 rename_i a t aF;split at aa
 case h_2=>cases aa
 rename_i r off es aH ha vY;split at aa
 case h_2=>cases aa
 rename_i cs H1 ai vX;rw [Bool.cond_eq_ite]at aa;split at aa
 case isFalse=>cases aa
 rename_i hc;simp only [Bool.and_eq_true,Nat.ble_eq]at hc;obtain⟨⟨⟨⟨⟨h1,hle⟩,hm⟩,auw⟩,aio⟩,mv⟩:=hc;cases aa;obtain⟨row⟩:=ez cf vY;obtain⟨b,hb,av⟩:=oZ (hs.e5 (.slot a) _ ha);simp only [ce]at av;obtain⟨bJ,vs,T,bQ,bm,hlen,_,_,gJ,k2⟩:=hs.box r cs ai;rw [hb]at bQ;cases bQ;have qZ:=NH hm;have jR:((cs.drop off).take aH.size).length=aH.size:=by simp;omega
 have lC:=oi cs off (((cs.drop off).take aH.size).map λe=>({d:=e.d}:aW)) (by rw [List.length_map,jR];exact hle)
 have q0:∀j,j<aH.size→((cs.drop off).take aH.size)[j]? = cs[off+j]? := λj hj=>by rw [List.getElem?_take,if_pos hj,List.getElem?_drop]
 obtain⟨ji,Ou⟩:=hs.W1 (T:=c) (size:=aH.size) (off:=off) ai hb bm gJ hlen (cs':=setAt cs off (((cs.drop off).take aH.size).map λe=>{d:=e.d})) (λx hx=>by
  rw [qZ]at hx;obtain⟨_,e,ab,aj⟩:=Ca _ 0 x hx;rw [Nat.sub_zero]at ab;have cO:x.1<aH.size:=by rw [←jR];exact(List.getElem?_eq_some_iff.1 ab).1
  exact⟨cO,e,by rw [←q0 x.1 cO];exact ab,aj⟩) lC.1 (λj aZ hj=>by
  rw [lC.2]at hj;rw [List.length_map,jR]at hj;by_cases hi:off≤j∧j<off+aH.size
  ·rw [if_pos hi,List.getElem?_map,Option.map_eq_some_iff]at hj;obtain⟨bG,Z,rfl⟩:=hj;rw [q0 _ (by omega),show off+(j-off)=j by omega]at Z
   exact⟨bG,Z,rfl,λU f6=>by cases f6⟩
  ·rw [if_neg hi]at hj;refine⟨aZ,hj,rfl,λU f6=>⟨f6,λx hx agU=>?_⟩⟩
   rw [qZ]at hx;obtain⟨_,e,ab,_⟩:=Ca _ 0 x hx;rw [Nat.sub_zero]at ab;have cO:x.1<aH.size:=by rw [←jR];exact(List.getElem?_eq_some_iff.1 ab).1
   omega) (.slot 0)
 have eM:(yB en (.cell a t)).run P w' = .ok (.agg ⟨(vs.drop off).take aH.size⟩) w':=by
  have hu:=Gn (P:=P) (w:=w') row (off:=off) bm (by omega) h1
  show(do loadVar t (←asAddr (en.getD a undef)):Sem Value).run P w'=_
  rw [av];simpa [Instr.loadAt,Instr.sureAddr,asAddr]using hu
 have f5:cw M' β' (.agg ⟨(vs.drop off).take aH.size⟩) (mV (((cs.drop off).take aH.size).map (·.d))):=by
  refine yh (by simp;omega) (λv av=>gJ v (List.mem_of_mem_drop (List.mem_of_mem_take av))) (λi v c av hc=>?_)
  rw [List.getElem?_map,Option.map_eq_some_iff]at hc;obtain⟨e,he,rfl⟩:=hc;rw [List.getElem?_take]at av he;split at av
  ·rename_i hi;rw [if_pos hi,List.getElem?_drop]at he;rw [List.getElem?_drop]at av;have:=hs.e5 (.cell r (off+i)) e (by simp [aI.at,ai,he])
   simpa [ce,hb,cell_of_heap bm,av]using this
  ·cases av
 have ic:(results fn en).run P w' = .ok (.agg ⟨(vs.drop off).take aH.size⟩) w':=by
  have ic:results fn en=(do let vs ←fn.results.mapM (yB en);pure (if h:vs.size=1 then vs[0]else .tuple vs)):=by
   unfold results
   congr 2
  rw [ic,show fn.results=⟨fn.results.toList⟩from rfl,List.mapM_toArray,aF]
  simp only [List.mapM_cons,List.mapM_nil,Sem.run_bind,Sem.run_map,eM,Result.andThen_ok,Sem.run_pure];simp
 obtain⟨sq,k8⟩:=ji.leave (H':=H') (own:=some c) (by
  rw [X6 (λx hx=>by have:=List.mem_range.1 hx;omega)];exact vX) mv eg f5 aio (λT aC=>by cases aC;exact⟨[],Ou,trivial⟩)
 exact⟨_,ic,_,M',sq,rfl,k8⟩
def X8{fn:Func}{E:Nat}{en:Array Value}{w':World}{b9:aI}{M':Mem}{β':Nat→Option Nat}{o:Out}{H':List (List aW)}(cf:ff P tt=true)(eg:∀r b,K.jO r=some b→r<E)(hs:bL P K M' β' b9 en w')
 (aa:Ab.leave tt E fn.results.toList b9=some (o,H')∨∃c,Ab.sz tt E c fn.results.toList b9=some (o,H')):
 ∃v,(results fn en).run P w' = .ok v w'∧∃jB M' β',Ending.returned v=q2 o jB∧bL P K M' β' {env:=ia o,H:=cY 0 H',aY:=E} #[jB] w':=
 aa.elim (GZ cf eg hs) fun⟨_,h⟩=>X7 cf eg hs h
def bL.vZ{P:Program}{K:Ctx}{M:Mem}{β:Nat→Option Nat}{st:aI}{tmps:Array Value}{w:World}(h:bL P K M β st tmps w)(ds:List Deferred):bL P {K with ds:=ds} M β st tmps w:=
 ⟨h.e5,h.own,h.uniq,h.unbox,h.box,h.inj,h.lt,h.mem,h.m0,h.frame,h.iC,h.jh,h.hY⟩
def Ov{args:List D}{es:List (Nat×TypeId)}{H:List (List aW)}{vs:List Value}{n:Nat}(hlen:vs.length=args.length)(cT:bL P K M β {env:=h3 args es,H:=cY 0 H,aY:=H.length} ⟨vs⟩ w):
 bL P K M β {env:=h3 args es,H:=cY 0 H,aY:=H.length} ((⟨vs⟩:Array Value)++Array.replicate n undef) w:=by
 have av:∀l e,({env:=h3 args es,H:=cY 0 H,aY:=H.length}:aI).at l=some e→ce ((⟨vs⟩:Array Value)++Array.replicate (n) undef) w β l=ce ⟨vs⟩ w β l:=by
  intro l e aa;cases l with
  |slot s=>
   simp only [aI.at,h3,ny,Cg,Option.map_eq_some_iff]at aa;obtain⟨d,hd,_⟩:=aa;have hs:s<vs.length:=by have:=(List.getElem?_eq_some_iff.1 hd).1;omega
   simp only [ce,Array.getD_eq_getD_getElem?];rw [Array.getElem?_append_left (by simpa using hs)]
  |cell r i=>rfl
 constructor
 ·intro l e aa;rw [av l e aa];exact cT.e5 l e aa
 ·intro l e T aa aC;rw [av l e aa];exact cT.own l e T aa aC
 ·intro l cI e aZ T T' b aa aC cN ec hb bQ;rw [av l e aa]at hb;rw [av cI aZ cN]at bQ;exact cT.uniq l cI e aZ T T' b aa aC cN ec hb bQ
 ·intro l e T b r cs aa aC hb ai;rw [av l e aa]at hb;exact cT.unbox l e T b r cs aa aC hb ai
 ·exact cT.box
 ·exact cT.inj
 ·exact cT.lt
 ·exact cT.mem
 ·exact cT.m0
 ·exact cT.frame
 ·exact cT.iC
 ·exact cT.jh
 ·exact cT.hY
def q3.of_wp {f : FuncId} {fn : Func} {c : Code} {args : List D} {es : List (Nat × TypeId)} {H : List (List aW)} {R : Out → List (List aW) → Prop} (cf : ff P tt = true) (ba : P.funcs[f]? = some fn) (hb : fn.body = some c) (jS : decide (fn.name = "runtime.NumGoroutine") = false)
 (e9:Nat.ble args.length fn.ntmps=true) (h:be P fn.ntmps H.length c (sA tt H.length fn.results.toList R) {env:=h3 args es,H:=cY 0 H,aY:=H.length}):q3 P f args es H R:=by
 refine⟨⟨fn,ba,by rw [hb];rfl,by simpa using jS⟩,?_⟩
 intro cE w vs M β hlen Ow Ox
 suffices key:∀K:Ctx,K.ds=[]→bL P K M β {env:=h3 args es,H:=cY 0 H,aY:=H.length} ⟨vs⟩ w→(∀r b,β r=some b→K.jO r=some b)→
  Calls P f ⟨vs⟩ w λe w'=>∃o H' v M' β',R o H'∧e=q2 o v∧bL P K M' β' {env:=ia o,H:=cY 0 H',aY:=H.length} #[v] w' from
  (key {cE with ds:=[]} rfl (Ow.vZ []) Ox).mono λe w' ⟨o,H',v,M',β',Z,ab,aj⟩=>⟨o,H',v,M',β',Z,ab,aj.vZ cE.ds⟩
 intro K ib cT hD;have eg:∀r b,K.jO r=some b→r<H.length:=λr b hb=>cT.lt r b (cT.iC r b hb)
 simp only [Nat.ble_eq]at e9;have aip:=Ov (n:=fn.ntmps-(⟨vs⟩:Array Value).size) hlen cT;have aiq:=h K eg {tmps:=(⟨vs⟩:Array Value)++Array.replicate (fn.ntmps-(⟨vs⟩:Array Value).size) undef,defers:=[]} w ⟨rfl,ib.symm,by simp;omega,M,β,aip⟩
 refine calls_of_wp ba hb (wp_mono aiq ?_)
 have fin:∀(dS:Act) (w':World) (b9:aI) M' β',bL P K M' β' b9 dS.tmps w'→(∃o H',(Ab.leave tt H.length fn.results.toList b9=some (o,H')∨∃c,Ab.sz tt H.length c fn.results.toList b9=some (o,H'))∧R o H')→
  ∃v,(results fn dS.tmps).run P w' = .ok v w'∧∃o H' jB M' β',R o H'∧Ending.returned v=q2 o jB∧bL P K M' β' {env:=ia o,H:=cY 0 H',aY:=H.length} #[jB] w':=by
  intro dS w' b9 M' β' hs ⟨o,H',aa,gm⟩;rcases aa with aa|⟨_,aa⟩
  ·obtain⟨v,Z,jB,vy,sq,ab,aj⟩:=GZ cf eg hs aa;exact⟨v,Z,o,H',jB,vy,sq,gm,ab,aj⟩
  ·obtain⟨v,Z,jB,vy,sq,ab,aj⟩:=X7 cf eg hs aa;exact⟨v,Z,o,H',jB,vy,sq,gm,ab,aj⟩
 rintro e dS w' ⟨fA,b9,Z,ab⟩
 cases fA with
 |normal=>
  obtain⟨rfl,hd,_,M',β',hs⟩:=Z;exact⟨hd.trans ib,fin dS w' b9 M' β' hs ab⟩
 |ret=>
  obtain⟨rfl,hd,_,M',β',hs⟩:=Z;exact⟨hd.trans ib,fin dS w' b9 M' β' hs ab⟩
 |exit i=>exact ab.elim
 |bl x=>
  obtain⟨v,rfl,hd,M',β',f5,hs⟩:=Z;obtain⟨H1,aa,gm⟩:=ab;unfold GY at aa;split at aa
  case h_2=>cases aa
  rename_i cH vX;rw [Bool.cond_eq_ite]at aa;split at aa
  case isFalse=>cases aa
  rename_i hc;cases aa;obtain⟨CA,k8⟩:=hs.leave (own:=none) vX hc eg (.v v x f5) rfl (by simp)
  exact⟨hd.trans ib,.bl x,oq H1,v,M',CA,gm,rfl,k8.era⟩
end
end Go.Ab

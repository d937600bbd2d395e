/- The abstract machine: a step of code over plain data, proved against the model. -/
import Derived.Laws.Build
import Derived.Laws.IdiomStrings
import Derived.Test.YtbncfepdlmnmiaaGreatDoorMachA
set_option linter.all false
namespace Go.Ab
section
variable {P:Program} {K:Ctx} {N:Nat} {M:Mem} {β:Nat→Option Nat} {g:dt} {tmps:Array Value} {w:World} {o:Oper} {f:lG} {p:Path} {tt:dS} {cx:gJ} {ops:List Oper}
structure lO(M:Mem)(k m:Nat)(get:Nat→V)(news:List Value):Prop where
 len:news.length=m*k
 hk:∀i,i<m→(get i).cells.length=k
 one:∀u,u∈news→u.oneCell'=true
 rep:∀(i j:Nat) c u,i<m→(get i).cells[j]? = some c→news[i*k+j]? = some u→dw M u c
def flat(k m:Nat)(val:Nat→Nat→Value):List Value:=(List.range (m*k)).map λq=>val (q / k) (q % k)
def rc(k m:Nat)(val:Nat→Nat→Value):(flat k m val).length=m*k:=by simp [flat]
def agz{k m:Nat}{val:Nat→Nat→Value}{i j:Nat}(hi:i<m)(hj:j<k):(flat k m val)[i*k+j]? = some (val i j):=by
 have b2:i*k+j<m*k:=by
  have Z:(i+1)*k≤m*k:=Nat.mul_le_mul_right k hi;rw [Nat.add_mul]at Z;omega
 have Z:(i*k+j) / k=i:=by rw [Nat.mul_comm,Nat.mul_add_div (by omega),Nat.div_eq_of_lt hj];omega
 have ad:(i*k+j) % k=j:=by rw [Nat.mul_comm,Nat.mul_add_mod,Nat.mod_eq_of_lt hj]
 simp [flat,b2,Z,ad]
def W8{k m:Nat}{val:Nat→Nat→Value}{q:Nat}{u:Value}(h:(flat k m val)[q]? = some u):q / k<m∧q % k<k∧q=q / k*k+q % k∧u=val (q / k) (q % k):=by
 have av:q<m*k:=by have:=(List.getElem?_eq_some_iff.1 h).1;rwa [rc]at this
 have hk:0<k:=by
  rcases Nat.eq_zero_or_pos k with rfl|h;· simp at av
  ·exact h
 refine⟨(Nat.div_lt_iff_lt_mul hk).2 av,Nat.mod_lt _ hk,(Nat.div_add_mod' q k).symm,?_⟩
 simp [flat,av]at h;exact h.symm
def N6{v:Value}{k n:Nat}{get:Nat→V}(h:cE M β v (.v (.bT k n get))):((v = .slice none 0 0∨∃a,v = .slice (some a) 0 0)∧n=0)∨
 ∃(b off cap:Nat) (eY:List Value),v = .slice (some ⟨b,off,none⟩) n cap∧n≤cap∧lO M k n get eY∧∀(q:Nat) u,eY[q]? = some u→M b (off+q)=some u:=by
 rcases tQ h with h|⟨b,off,cap,val,rfl,hc,hk,db,Z,ah⟩
 ·exact .inl h
 ·refine .inr ⟨b,off,cap,flat k n val,rfl,hc,⟨rc k n val,hk,?_,?_⟩,?_⟩
  ·refine WS λq u hu=>?_
   obtain⟨ad,am,_,rfl⟩:=W8 hu;exact Z _ _ ad am
  ·intro i j c u hi hc hu;have hj:j<k:=by rw [←hk i hi];exact(List.getElem?_eq_some_iff.1 hc).1
   rw [agz hi hj]at hu;cases hu;exact ah i j c hi hc
  ·intro q u hu;obtain⟨ad,am,aR,rfl⟩:=W8 hu;have:=db _ _ ad am
   rwa [Nat.add_assoc,←aR]at this
def yH(k:Nat)(get:Nat→V):lO M k 0 get []:=⟨by simp,by simp,by simp,by simp⟩
def lO.app{k n m:Nat}{get mw:Nat→V}{eY news:List Value}(h:lO M k n get eY)(ad:lO M k m mw news):lO M k (n+m) (λi=>bif Nat.blt i n then get i else mw (i-n)) (eY++news):=by
 have hb:∀i,(bif Nat.blt i n then get i else mw (i-n))=if i<n then get i else mw (i-n):=by
  intro i;by_cases hi:i<n
  ·have:Nat.blt i n=true:=by simpa using hi
   simp [this,hi]
  ·have:Nat.blt i n=false:=by rw [Bool.eq_false_iff];simpa using hi
   simp [this,hi]
 refine⟨by simp [h.len,ad.len,Nat.add_mul],λi hi=>?_,λu hu=>?_,λi j c u hi hc hu=>?_⟩
 ·rw [hb];split
  ·exact h.hk i (by assumption)
  ·exact ad.hk _ (by omega)
 ·rcases List.mem_append.1 hu with hu|hu
  ·exact h.one u hu
  ·exact ad.one u hu
 ·rw [hb]at hc;by_cases hin:i<n
  ·rw [if_pos hin]at hc;have hj:j<k:=by rw [←h.hk i hin];exact(List.getElem?_eq_some_iff.1 hc).1
   have b2:i*k+j<eY.length:=by
    rw [h.len];have Z:(i+1)*k≤n*k:=Nat.mul_le_mul_right k hin;rw [Nat.add_mul]at Z;omega
   rw [List.getElem?_append_left b2]at hu;exact h.rep i j c u hin hc hu
  ·rw [if_neg hin]at hc;have asU:n*k≤i*k:=Nat.mul_le_mul_right k (by omega)
   rw [List.getElem?_append_right (by rw [h.len];omega),h.len]at hu
   have:i*k+j-n*k=(i-n)*k+j:=by rw [Nat.sub_mul];omega
   rw [this]at hu;exact ad.rep (i-n) j c u (by omega) hc hu
def lO.mono{M':Mem}(db:M.le M'){k n:Nat}{get:Nat→V}{eY:List Value}(h:lO M k n get eY):lO M' k n get eY:=
 ⟨h.len,h.hk,h.one,λi j c u hi hc hu=>(h.rep i j c u hi hc hu).mono db⟩
def lO.bT{k n cap b off:Nat}{get:Nat→V}{eY:List Value}(h:lO M k n get eY)(hc:n≤cap)(db:∀(q:Nat) u,eY[q]? = some u→M b (off+q)=some u):
 dw M (.slice (some ⟨b,off,none⟩) n cap) (.bT k n get):=by
 have hin:∀i j,i<n→j<k→eY[i*k+j]? = some (eY.getD (i*k+j) undef):=λi j hi hj=>agi h.len hi hj
 refine .bT b off k n cap get (λi j=>eY.getD (i*k+j) undef) hc h.hk (λi j hi hj=>?_) (λi j hi hj=>GZ h.one (hin i j hi hj)) (λi j c hi l_=>?_)
 ·rw [Nat.add_assoc];exact db _ _ (hin i j hi hj)
 ·have hj:j<k:=by rw [←h.hk i hi];exact(List.getElem?_eq_some_iff.1 l_).1
  exact h.rep i j c _ hi l_ (hin i j hi hj)
def agA(t hS ty e:TypeId)(i:TypeInfo)(ax:P.underlying t=some (.slice e))(hi:P.info? e=some i)(b vH ma:Nat)(x:Value)(n:Nat)(news:List Value)(hs:Src P i.size hS x n news w)
 (fP:vH+n≤ma) {vs:List Value} {T:TypeId} (bB:w.heap[b]? = some (.cells ⟨vs⟩ T (0,0))) (hle:vH*i.size+news.length≤vs.length):
 (Builtin.append_ #[t,hS] ty #[.slice (some ⟨b,0,none⟩) vH ma,x]).run P w = .ok (.slice (some ⟨b,0,none⟩) (vH+n) ma) (w.setRow b (vs.take (vH*i.size)++news++vs.drop (vH*i.size+news.length)).toArray):=by
 have dC:=run_storeCells_at P b (vH*i.size) T news 0 ⟨vs⟩ w bB (by simpa using hle) hs.one
 simp only [Nat.add_zero]at dC;rcases hs.kind with⟨a7,hk⟩|hk<;>simp [Builtin.append_,run_underlying ax,run_underlying hk,sizeOf,typeInfo,hi,hs.len,fP,hs.cells,addr_add,dC]
def agB(t hS ty e:TypeId)(i:TypeInfo)(ax:P.underlying t=some (.slice e))(hi:P.info? e=some i)(x:Value)(news:List Value)(hs:Src P i.size hS x 0 news w):
 (Builtin.append_ #[t,hS] ty #[.slice none 0 0,x]).run P w = .ok (.slice none 0 0) w:=by
 rcases hs.kind with⟨a7,hk⟩|hk<;>simp [Builtin.append_,run_underlying ax,run_underlying hk,sizeOf,typeInfo,hi,hs.len,hs.cells]
def G6{t hS:TypeId}{a x:Operand}{c:Call}(aq:o.op = .call c)(hc:c.callee = .builtin .append)(fc:c.args.toList=[a,x])(ht:c.argTypes.toList[0]? = some t)(pc:c.argTypes.toList[1]? = some hS)
 {h4 N7:Value} (ha:(⟨tmps,[]⟩:Act).eval a=h4) (hx:(⟨tmps,[]⟩:Act).eval x=N7) {v:Value} {w':World}
 (h:∀ty,(Builtin.append_ #[t,hS] ty #[h4,N7]).run P w = .ok v w'):
 (execOp (Act.eval ⟨tmps,[]⟩) o).run P w = .ok (.value v) w':=by
 have vI:c.args = #[a,x]:=by apply Array.ext';simpa using fc
 have N8:∀ty,(Builtin.append_ c.argTypes ty #[h4,N7]).run P w = .ok v w':=by
  intro ty;have h0:c.argTypes[0]? = some t:=by simpa using ht
  have Z:c.argTypes[1]? = some hS:=by simpa using pc
  have:=h ty
  simp only [Builtin.append_,h0,Z]at this ⊢;exact this
 simp only [execOp,aq,resolve,hc,vI,Sem.run_bind,Sem.run_pure,Result.andThen_ok,invoke,builtin,List.map_toArray,List.map_cons,List.map_nil,ha,hx];simp [N8]
def agC(h:fO P K N M β g tmps w)(hp:fV tmps p)(co:fl P tt=true){t hS e:TypeId}{aJ cA:en}(ae:look tt t=some aJ)(hk:aJ.k = .bT e)(eQ:look tt e=some cA){s:Nat}{x:Operand}{c:Call}
 (aq:o.op = .call c) (hc:c.callee = .builtin .append) (fc:c.args.toList=[.tmp s,x]) (ht:c.argTypes.toList[0]? = some t) (pc:c.argTypes.toList[1]? = some hS)
 {n m:Nat} {get mw:Nat→V} (hs:rd g.env g.ca p tt o.type (.tmp s)=some (.full cA.size n get)) (Ck:1≤cA.bytes) (hm:1≤m)
 {news:List Value} (kb:Src P cA.size hS ((⟨tmps,[]⟩:Act).eval x) m news w) (mb:lO M cA.size m mw news) (fP:(n+m)*cA.bytes≤140737488355328)
 {y:V} (ci:hK (.bT cA.size (n+m) λi=>bif Nat.blt i n then get i else mw (i-n)) y) {rs:List fw} {bc:List Prop}:
 Yields P K M β g {e:=some {d:=.v y,own:=some e},hF:=[s],rs,bc} o tmps w:=by
 obtain⟨r⟩:=eK co ae;obtain⟨ei⟩:=eK co eQ;have o_:=h.bC.hF [s];have eV:=er (ds:=[]) h hp hs;have Cl:P.underlying t=some (.slice e):=by rw [r.hd,qa r hk]
 have vJ:(⟨tmps,[]⟩:Act).eval (.tmp s)=tmps.getD s undef:=rfl;rw [vJ]at eV
 have vK:∃base,tmps.getD s undef = .slice base n n∧dw M (.slice base n n) (.bT cA.size n get):=by
  generalize tmps.getD s undef=h4 at eV
  cases eV with
  |full base k n get h=>exact⟨base,rfl,h⟩
 obtain⟨base,ao,f9⟩:=vK;have b2:n<n+m:=by omega
 have vL:∃eY:List Value,lO M cA.size n get eY∧∀w':World,w'.heap=w.heap→(Builtin.firstCells cA.size n (.slice base n n)).run P w' = .ok eY.toArray w':=by
  rcases N6 (cE.v _ _ f9:cE M β _ _) with⟨tT|⟨a,tT⟩,kA⟩|⟨b,off,cap,eY,tT,hcap,holds,hold⟩
  ·simp only [Value.slice.injEq]at tT;obtain⟨rfl,rfl,_⟩:=tT;exact⟨[],yH _ _,λw' _=>run_firstCells_none w' cA.size 0 0 0⟩
  ·simp only [Value.slice.injEq]at tT;obtain⟨rfl,rfl,_⟩:=tT;refine⟨[],yH _ _,λw' oe=>?_⟩
   exact run_firstCells_some (P:=P) w' cA.size 0 a 0 0 [] (by simp) (λj u hj=>by simp at hj)
  ·simp only [Value.slice.injEq]at tT;obtain⟨rfl,_,rfl⟩:=tT;refine⟨eY,holds,λw' oe=>?_⟩
   refine run_firstCells_some (P:=P) w' cA.size n ⟨b,off,none⟩ n n eY (by rw [holds.len]) (λj u hj=>?_)
   rw [addr_add,so (w:=w) (by rw [oe])]
   exact h.bC.mem _ _ _ (hold j u hj)
 obtain⟨eY,holds,vL⟩:=vL
 have N9:((n+m:Nat):Int)≤9223372036854775807:=by
  have:n+m≤(n+m)*cA.bytes:=Nat.le_mul_of_pos_right _ Ck
  omega
 have N':=growslice_fits (need:=n+m) (old:=n) (bytes:=cA.bytes) b2 fP;have hcap:=grownCap_ge w (n+m) n e;have sz:=holds.app mb
 have vM:ei.z.cells.size=cA.size:=by
  obtain⟨np,_⟩:=yz (M:=M) ei.Cd;have:=ei.NF
  simp at np;omega
 generalize vC:(Builtin.zeroCells ei.z.cells (grownCap w (n+m) n e-(n+m))).toList=zs
 have N_:Builtin.zeroCells ei.z.cells (grownCap w (n+m) n e-(n+m))=zs.toArray:=by rw [←vC]
 have Oa:zs.length=(grownCap w (n+m) n e-(n+m))*cA.size:=by
  rw [←vC];simp [Builtin.zeroCells,vM]
 have eX:∀ty,(Builtin.append_ #[t,hS] ty #[tmps.getD s undef,(⟨tmps,[]⟩:Act).eval x]).run P w =
  .ok (.slice (some ⟨w.heap.size,0,none⟩) (n+m) (grownCap w (n+m) n e)) (w.drew.alloc (.cells ⟨eY++news++zs⟩ e (0,0))):=by
  intro ty;have:=run_append_grow_src (P:=P) w t hS ty e ei.info ei.z Cl ei.hi ei.dG base n n eY (by rw [ei.size];exact vL w.drew rfl) _ m news (by rw [ei.size];exact kb) b2 N9 (by rw [ei.bytes];exact N')
  rw [ao,this,N_];simp
 have oe:(w.drew.alloc (.cells ⟨eY++news++zs⟩ e (0,0))).heap=w.heap.push (.cells ⟨eY++news++zs⟩ e (0,0)):=rfl
 have Ob:(eY++news++zs).length=grownCap w (n+m) n e*cA.size:=by
  rw [List.length_append,sz.len,Oa,←Nat.add_mul];congr 1;omega
 obtain⟨c',hle⟩:=o_.newRow (vs:=eY++news++zs) (T:=e) (n:=(n+m)*cA.size) oe
 have Cg:(eY++news++zs).take ((n+m)*cA.size)=eY++news:=by
  rw [List.take_append_of_le_length (by rw [sz.len];exact Nat.le_refl _),List.take_of_length_le (by rw [sz.len];exact Nat.le_refl _)]
 refine .inl ⟨_,_,G6 aq hc fc ht pc vJ rfl eX,_,β,hle,λ_ _ h=>h,λ_ _ h=>.inl h,c',λe1 he=>?_⟩
 cases he;refine⟨.v _ _ (ci _ _ ((sz.mono hle).bT hcap λq u hu=>?_)),λT l0 aT=>?_⟩
 ·rw [Cg];exact G1 hu
 ·cases aT;have:=NV (l0:=l0) (T:=e) o_ (vs:=eY++news++zs) (T':=e) (n:=n+m) (cap:=grownCap w (n+m) n e) rfl oe hcap (by rw [ei.cellsOf,Ob];exact Nat.le_refl _)
  rw [ei.cellsOf]at this;exact this
def W9(h:fO P K N M β g tmps w)(hp:fV tmps p)(co:fl P tt=true){t hS e:TypeId}{aJ cA:en}(ae:look tt t=some aJ)(hk:aJ.k = .bT e)(eQ:look tt e=some cA){s:Nat}{x:Operand}{c:Call}
 (aq:o.op = .call c) (hc:c.callee = .builtin .append) (fc:c.args.toList=[.tmp s,x]) (ht:c.argTypes.toList[0]? = some t) (pc:c.argTypes.toList[1]? = some hS)
 {n m:Nat} {get mw:Nat→V} (hs:rd g.env g.ca p tt o.type (.tmp s)=some (.v (.bT cA.size n get))) {yG:aZ} (vG:look g.env s=some yG) (f8:yG.own=some e) (Ck:1≤cA.bytes)
 {news:List Value} (kb:Src P cA.size hS ((⟨tmps,[]⟩:Act).eval x) m news w) (mb:lO M cA.size m mw news) (fP:(n+m)*cA.bytes≤140737488355328)
 {y:V} (ci:hK (.bT cA.size (n+m) λi=>bif Nat.blt i n then get i else mw (i-n)) y) {rs:List fw} {bc:List Prop}:
 Yields P K M β g {e:=some {d:=.v y,own:=some e},hF:=[s],rs,bc} o tmps w:=by
 obtain⟨r⟩:=eK co ae;obtain⟨ei⟩:=eK co eQ;have o_:=h.bC.hF [s];have eV:=er (ds:=[]) h hp hs;have Cl:P.underlying t=some (.slice e):=by rw [r.hd,qa r hk]
 have vJ:(⟨tmps,[]⟩:Act).eval (.tmp s)=tmps.getD s undef:=rfl;rw [vJ]at eV;have Cm:=h.bC.own (.slot s) yG e vG f8;simp only [cn]at Cm;have Cn:=h.bC.hand vG f8
 -- lN row agD is grown
 have W':∀(base:Option Addr) (ma:Nat) (eY:List Value),tmps.getD s undef = .slice base n ma→lO M cA.size n get eY→
  (∀w':World,w'.heap=w.heap→(Builtin.firstCells cA.size n (.slice base n ma)).run P w' = .ok eY.toArray w')→ma<n+m→
  Yields P K M β g {e:=some {d:=.v y,own:=some e},hF:=[s],rs,bc} o tmps w:=by
  intro base ma eY ao holds vL b2
  have N9:((n+m:Nat):Int)≤9223372036854775807:=by
   have:n+m≤(n+m)*cA.bytes:=Nat.le_mul_of_pos_right _ Ck
   omega
  have N':=growslice_fits (need:=n+m) (old:=ma) (bytes:=cA.bytes) b2 fP;have hcap:=grownCap_ge w (n+m) ma e;have sz:=holds.app mb
  have vM:ei.z.cells.size=cA.size:=by
   obtain⟨np,_⟩:=yz (M:=M) ei.Cd;have:=ei.NF
   simp at np;omega
  generalize vC:(Builtin.zeroCells ei.z.cells (grownCap w (n+m) ma e-(n+m))).toList=zs
  have N_:Builtin.zeroCells ei.z.cells (grownCap w (n+m) ma e-(n+m))=zs.toArray:=by rw [←vC]
  have Oa:zs.length=(grownCap w (n+m) ma e-(n+m))*cA.size:=by
   rw [←vC];simp [Builtin.zeroCells,vM]
  have eX:∀ty,(Builtin.append_ #[t,hS] ty #[tmps.getD s undef,(⟨tmps,[]⟩:Act).eval x]).run P w =
   .ok (.slice (some ⟨w.heap.size,0,none⟩) (n+m) (grownCap w (n+m) ma e)) (w.drew.alloc (.cells ⟨eY++news++zs⟩ e (0,0))):=by
   intro ty;have:=run_append_grow_src (P:=P) w t hS ty e ei.info ei.z Cl ei.hi ei.dG base n ma eY (by rw [ei.size];exact vL w.drew rfl) _ m news (by rw [ei.size];exact kb) b2 N9 (by rw [ei.bytes];exact N')
   rw [ao,this,N_];simp
  have oe:(w.drew.alloc (.cells ⟨eY++news++zs⟩ e (0,0))).heap=w.heap.push (.cells ⟨eY++news++zs⟩ e (0,0)):=rfl
  have Ob:(eY++news++zs).length=grownCap w (n+m) ma e*cA.size:=by
   rw [List.length_append,sz.len,Oa,←Nat.add_mul];congr 1;omega
  obtain⟨c',hle⟩:=o_.newRow (vs:=eY++news++zs) (T:=e) (n:=(n+m)*cA.size) oe
  have Cg:(eY++news++zs).take ((n+m)*cA.size)=eY++news:=by
   rw [List.take_append_of_le_length (by rw [sz.len];exact Nat.le_refl _),List.take_of_length_le (by rw [sz.len];exact Nat.le_refl _)]
  refine .inl ⟨_,_,G6 aq hc fc ht pc vJ rfl eX,_,β,hle,λ_ _ h=>h,λ_ _ h=>.inl h,c',λe1 he=>?_⟩
  cases he;refine⟨.v _ _ (ci _ _ ((sz.mono hle).bT hcap λq u hu=>?_)),λT l0 aT=>?_⟩
  ·rw [Cg];exact G1 hu
  ·cases aT;have:=NV (l0:=l0) (T:=e) o_ (vs:=eY++news++zs) (T':=e) (n:=n+m) (cap:=grownCap w (n+m) ma e) rfl oe hcap (by rw [ei.cellsOf,Ob];exact Nat.le_refl _)
   rw [ei.cellsOf]at this;exact this
 replace Cm:=kx.bT Cm eV
 have ch:(tmps.getD s undef = .slice none 0 0∧n=0)∨∃(b off cap:Nat) (eY:List Value),tmps.getD s undef = .slice (some ⟨b,off,none⟩) n cap∧n≤cap∧lO M cA.size n get eY∧∀(q:Nat) u,eY[q]? = some u→M b (off+q)=some u:=by
  rcases N6 eV with⟨ao|⟨a,ao⟩,kA⟩|hx
  ·exact .inl ⟨ao,kA⟩
  ·subst kA;rcases Cm with h0|⟨bM,n',W_,vs,T',Z,_⟩
   ·exact .inl ⟨h0,rfl⟩
   ·rw [ao]at Z;simp only [Value.slice.injEq,Option.some.injEq]at Z;obtain⟨rfl,rfl,rfl⟩:=Z;exact .inr ⟨bM,0,0,[],ao,Nat.le_refl _,yH _ _,λq u hu=>by simp at hu⟩
  ·exact .inr hx
 rcases ch with⟨ao,kA⟩|⟨b,off,cap,eY,ao,hcap,holds,hold⟩
 ·subst kA;by_cases hm:m=0
  ·subst hm;refine .inl ⟨_,_,G6 aq hc fc ht pc (vJ.trans ao) rfl (λty=>agB (w:=w) t hS ty e ei.info Cl ei.hi _ news (by rw [ei.size];exact kb)),M,β,Mem.le_refl _,λ_ _ h=>h,λ_ _ h=>.inl h,o_,λe1 he=>?_⟩
   cases he;exact⟨.v _ _ (ci _ _ (.mv _ _)),λT l0 _=>NA l0 T⟩
  ·refine W' none 0 [] ao (yH _ _) (λw' _=>run_firstCells_none w' cA.size 0 0 0) (by omega)
 ·by_cases b2:cap<n+m
  ·refine W' (some ⟨b,off,none⟩) cap eY ao holds (λw' oe=>?_) b2
   refine run_firstCells_some (P:=P) w' cA.size n ⟨b,off,none⟩ n cap eY (by rw [holds.len]) (λj u hj=>?_)
   rw [addr_add,so (w:=w) (by rw [oe])]
   exact h.bC.mem _ _ _ (hold j u hj)
  · -- there is room
   rcases Cm with h0|⟨bM,n',W_,vs,T',Z,asV,bB,nu,kV,dV,NW⟩
   ·rw [ao]at h0;simp at h0
   ·rw [ao]at Z;simp only [Value.slice.injEq,Option.some.injEq,Addr.mk.injEq,and_true]at Z;obtain⟨⟨rfl,rfl⟩,rfl,rfl⟩:=Z;rw [ei.cellsOf]at nu kV
    have hlen:n*cA.size+news.length≤vs.length:=by
     rw [mb.len,←Nat.add_mul];exact Nat.le_trans (Nat.mul_le_mul_right _ (by omega)) nu
    have eX:∀ty,(Builtin.append_ #[t,hS] ty #[tmps.getD s undef,(⟨tmps,[]⟩:Act).eval x]).run P w =
     .ok (.slice (some ⟨b,0,none⟩) (n+m) cap) (w.setRow b (vs.take (n*cA.size)++news++vs.drop (n*cA.size+news.length)).toArray):=by
     intro ty;have:=agA (P:=P) (w:=w) t hS ty e ei.info Cl ei.hi b n cap _ m news (by rw [ei.size];exact kb) (by omega) bB (by rw [ei.size];exact hlen)
     rw [ei.size]at this;rw [ao,this]
    generalize Xa:vs.take (n*cA.size)++news++vs.drop (n*cA.size+news.length)=vs' at eX
    have agE:vs'.length=vs.length:=by rw [←Xa,vD hlen]
    have q8:(w.setRow b vs'.toArray).heap[b]? = some (.cells ⟨vs'⟩ T' (0,0)):=setRow_heap w b _ _ T' (0,0) bB;have hle:M.le (jt M b (n*cA.size) news):=NU kV;have kR:∀T,jp T (tmps.getD s undef) b:=λT=>by rw [ao];rfl
    have c':bR P K (jt M b (n*cA.size) news) β {env:=gX [s] g.env,H:=g.H,a1:=g.a1} tmps (w.setRow b vs'.toArray):=by
     refine o_.free b dV (λr cs ah hb=>(Cn (.slot s)).unbox b r cs (kR _) ah hb) (λl e1 hr e7 tU=>?_) (λbM dY _=>setRow_other w b bM _ dY) hle (λbM o' dY=>?_) (λo' jH pd=>?_)
     ·by_cases G7:l = .slot s
      ·subst G7;simp only [aK.at,nq,List.mem_singleton,if_true,Option.map_eq_some_iff]at e7;obtain⟨_,_,rfl⟩:=e7;simp at tU
      ·exact(Cn (.slot s)).apart l e1 hr b e7 tU G7 (kR _)
     ·simp [jt,dY]
     ·rw [cell_of_heap q8,←Xa,Ch hlen];unfold jt at pd;split at pd
      ·rename_i ky;rw [if_pos ⟨ky.2.1,ky.2.2⟩];exact pd
      ·rename_i ky;rw [if_neg (λCo=>ky ⟨rfl,Co.1,Co.2⟩)]
       have:=h.bC.mem _ _ _ pd
       rwa [cell_of_heap bB]at this
    refine .inl ⟨_,_,G6 aq hc fc ht pc vJ rfl eX,_,β,hle,λ_ _ h=>h,λ_ _ h=>.inl h,c',λe1 he=>?_⟩
    cases he;refine⟨.v _ _ (ci _ _ (((holds.app mb).mono hle).bT (by omega) λq u hu=>?_)),λT l0 aT=>?_⟩
    ·by_cases av:q<eY.length
     ·rw [List.getElem?_append_left av]at hu;exact hle _ _ _ (hold q u hu)
     ·rw [List.getElem?_append_right (by omega)]at hu
      have:=G1 (M:=M) (b:=b) (lo:=n*cA.size) hu
      rw [holds.len]at this;rw [Nat.zero_add];have qc:n*cA.size+(q-n*cA.size)=q:=by rw [holds.len]at av;omega
      rwa [qc]at this
    ·cases aT;refine⟨.inr ⟨b,n+m,cap,vs',T',rfl,by omega,q8,by rw [ei.cellsOf,agE];exact nu,λo' lh=>?_,dV,NW⟩,λl e1 hr cl e7 tU _ cP=>?_,λcl r cs cP ah=>?_⟩
     ·rw [ei.cellsOf,Nat.add_mul]at lh;unfold jt;rw [if_neg (λCo=>by rw [mb.len]at Co;omega)]
      exact kV o' (by omega)
     ·simp [jp,kw]at cP;subst cP
      have G7:l ≠ .slot s:=by
       rintro rfl
       simp only [after,aK.at,nq,List.mem_singleton,if_true,Option.map_eq_some_iff]at e7;obtain⟨_,_,rfl⟩:=e7;simp at tU
      have agF:cn tmps (w.setRow b vs'.toArray) β l=cn tmps w β l:=by
       cases l with
       |slot sq=>rfl
       |cell r i=>
        have eQ:=e7;simp only [after,aK.at]at eQ;cases ah:look g.H r with
        |none=>simp [ah]at eQ
        |some cs=>
         obtain⟨jI,agG,p_,fk,Xb,_⟩:=h.bC.box r cs ah;have dY:jI≠b:=by rintro rfl;exact(Cn (.slot s)).unbox jI r cs (kR _) ah fk
         simp only [cn,fk];rw [so (w:=w) (setRow_other w b jI _ dY)]
      rw [agF];exact(Cn (.slot s)).apart l e1 hr b e7 tU G7 (kR _)
     ·simp [jp,kw]at cP;subst cP;exact(Cn (.slot s)).unbox b r cs (kR _) ah
def Xc(h:bR P K M β {env:=g.env,H:=g.H,a1:=g.a1} tmps w)(co:fl P tt=true){hS e2:TypeId}{aJ:en}(ae:look tt hS=some aJ)(hk:aJ.k = .bT e2){v:Value}{k m:Nat}{get:Nat→V}
 (ao:cE M β v (.v (.bT k m get))):∃news,Src P k hS v m news w∧lO M k m get news:=by
 obtain⟨r⟩:=eK co ae;have hu:P.underlying hS=some (.slice e2):=by rw [r.hd,qa r hk]
 rcases N6 ao with⟨rfl|⟨a,rfl⟩,rfl⟩|⟨b,off,cap,eY,rfl,_,mb,hold⟩
 ·exact⟨[],Src.ofNil w hu 0,yH _ _⟩
 ·exact⟨[],Src.ofSlice w hu a 0 0 [] (by simp) (λj u hj=>by simp at hj) (by simp),yH _ _⟩
 ·have hc:∀(j:Nat) u,eY[j]? = some u→w.cell? ((⟨b,off,none⟩:Addr).add j)=some u:=λj u hj=>by rw [addr_add];exact h.mem _ _ _ (hold j u hj)
  exact⟨eY,Src.ofSlice w hu _ m cap eY mb.len hc mb.one,mb⟩
def agH(co:fl P tt=true){hS:TypeId}{aJ:en}(ae:look tt hS=some aJ)(hk:aJ.k = .str)(l:auJ)(M:Mem):
 ∃news,Src P 1 hS (.string ⟨⟨l⟩⟩) l.length news w∧lO M 1 l.length (λi=>.int .u8 (l.getD i 0).toNat) news:=by
 obtain⟨r⟩:=eK co ae;have hu:P.underlying hS=some .string:=by rw [r.hd,q6 r hk]
 refine⟨byteCells ⟨⟨l⟩⟩,Src.ofString w hu ⟨⟨l⟩⟩,⟨by simp [byteCells],λi _=>rfl,λu hu=>?_,λi j c u hi hc hu=>?_⟩⟩
 ·obtain⟨_,_,rfl⟩:=List.mem_map.1 hu;rfl
 ·cases j with
  |succ j=>simp [V.cells]at hc
  |zero=>
   simp [V.cells]at hc;subst hc;simp only [byteCells,Nat.mul_one,Nat.add_zero,List.getElem?_map,Option.map_eq_some_iff]at hu;obtain⟨a,ha,rfl⟩:=hu;have:l[i]? = some a:=ha
   simp [this];exact .int _ _
end
def sA:Nat→List D→List (Nat×TypeId)→List aZ
 |_,[],_=>[]
 |i,d::l,eb=>{d,own:=look eb i}::sA (i+1) l eb
def h5(args:List D)(eb:List (Nat×TypeId)):List (Nat×aZ):=da 0 (sA 0 args eb)
def Cp:∀(l:List D) (k i:Nat) (eb:List (Nat×TypeId)),(sA k l eb)[i]? = (l[i]?).map λd=>({d,own:=look eb (k+i)}:aZ)
 |[],k,i,eb=>by simp [sA]
 |d::l,k,i,eb=>by
  cases i with
  |zero=>simp [sA]
  |succ i=>
   simp only [sA,List.getElem?_cons_succ,Cp l (k+1) i eb];rw [show k+1+i=k+(i+1)by omega]
def ij:Out→List (Nat×aZ)
 |.ret d own=>[(0,{d,own})]
 |.bj x=>[(0,{d:=.v x})]
def re:Out→Value→Ending
 |.ret _ _,v=>.returned v
 |.bj _,v=>.panicked [{v,recovered:=false}]
def rf(P:Program)(f:FuncId)(args:List D)(eb:List (Nat×TypeId))(H:List (List aZ))(R:Out→List (List aZ)→Prop):Prop:=
 (∃ fd, P.funcs[f]? = some fd ∧ fd.body.isSome = true ∧ fd.name ≠ "runtime.NumGoroutine") ∧
 ∀(K:Ctx) (w:World) (vs:List Value) (M:Mem) (β:Nat→Option Nat),vs.length=args.length→
  bR P K M β {env:=h5 args eb,H:=da 0 H,a1:=H.length} ⟨vs⟩ w→(∀r b,β r=some b→K.j' r=some b)→
  Calls P f ⟨vs⟩ w λe w'=>∃o H' v M' β',R o H'∧e=re o v∧bR P K M' β' {env:=ij o,H:=da 0 H',a1:=H.length} #[v] w'
def rf.mono{P:Program}{f:FuncId}{args:List D}{eb:List (Nat×TypeId)}{H:List (List aZ)}{R Xd:Out→List (List aZ)→Prop}(h:rf P f args eb H R)(ah:∀o H',R o H'→Xd o H'):rf P f args eb H Xd:=
 ⟨h.1,λK w vs M β ae hs hb=>(h.2 K w vs M β ae hs hb).mono λ_ _ ⟨o,H',v,M',β',Z,ad,am⟩=>⟨o,H',v,M',β',ah _ _ Z,ad,am⟩⟩
def gj(P:Program)(f:FuncId)(args:List D)(eb:List (Nat×TypeId))(H:List (List aZ))(o:Out)(cm:List (List aZ)):Prop:=rf P f args eb H λo' H'=>o'=o∧H'=cm
def hT(P:Program):gJ:={call:=gj P,eq:=ND P}
def Xe{α:Type}:∀(l:List α) (n i:Nat),look (da n l) i=if n≤i then l[i-n]? else none
 |[],n,i=>by simp [da,look]
 |x::l,n,i=>by
  simp only [da,dN,Xe l (n+1) i];by_cases Z:n=i
  ·subst Z;simp
  ·rw [if_neg Z];by_cases ad:n≤i
   ·rw [if_pos (by omega),if_pos ad]
    obtain⟨j,rfl⟩:∃j,i=n+1+j:=⟨i-(n+1),by omega⟩
    rw [show n+1+j-(n+1)=j by omega,show n+1+j-n=j+1 by omega]
    simp
   ·rw [if_neg (by omega),if_neg ad]
def nv{α:Type}(l:List α)(i:Nat):look (da 0 l) i=l[i]? := by simp [Xe]
def G8:∀{ρ:List Nat} {r j:Nat},idx ρ r=some j→ρ[j]? = some r
 |[],_,_,h=>by simp [idx]at h
 |x::l,r,j,h=>by
  simp only [idx]at h;rw [Bool.cond_eq_ite]at h;split at h
  ·rename_i hb;cases h;simp at hb;simp [hb]
  ·simp only [Option.map_eq_some_iff]at h;obtain⟨k,hk,rfl⟩:=h;simpa using G8 hk
def G9:∀{l:List Nat},nn l=true→∀(i j:Nat) r,l[i]? = some r→l[j]? = some r→i=j
 |[],_,i,_,_,h,_=>by simp at h
 |x::l,h,i,j,r,hi,hj=>by
  simp only [nn,Bool.and_eq_true,Bool.not_eq_true',List.any_eq_false]at h;have hx:∀k,l[k]? = some x→False:=λk hk=>by have:=h.1 x (List.mem_of_getElem? hk);simp at this
  cases i<;>cases j
  ·rfl
  ·simp at hi hj;subst hi;exact(hx _ hj).elim
  ·simp at hi hj;subst hj;exact(hx _ hi).elim
  ·simp at hi hj;rw [G9 h.2 _ _ r hi hj]
def vN{H:List (Nat×List aZ)}:∀{ρ:List Nat} {bs:List (List aZ)},boxes H ρ=some bs→bs.length=ρ.length∧∀(j r:Nat),ρ[j]? = some r→look H r=bs[j]? ∧ (bs[j]?).isSome=true
 |[],bs,h=>by simp [boxes]at h;subst h;simp
 |x::ρ,bs,h=>by
  simp only [boxes]at h;split at h
  case h_2=>cases h
  rename_i b qd hb lj;cases h;obtain⟨Z,ad⟩:=vN lj;refine⟨by simp [Z],λj r hj=>?_⟩
  cases j with
  |zero=>simp at hj;subst hj;simp [hb]
  |succ j=>simp at hj;simpa using ad j r hj
def yI{f:Nat→Option Nat}:∀{b bM:List aZ},nm f b=some bM→bM.length=b.length∧∀(i:Nat) a7,bM[i]? = some a7→∃e,b[i]? = some e∧eP f e.d=some a7.d∧a7.own=e.own
 |[],bM,h=>by simp [nm]at h;subst h;simp
 |e::l,bM,h=>by
  simp only [nm]at h;split at h
  case h_2=>cases h
  rename_i e1 i_ he ae;cases h;obtain⟨Z,ad⟩:=yI ae;refine⟨by simp [Z],λi a7 hi=>?_⟩
  cases i with
  |zero=>
   simp at hi;subst hi
   simp only [GJ,Option.map_eq_some_iff]at he;obtain⟨d,hd,rfl⟩:=he;exact⟨e,by simp,hd,rfl⟩
  |succ i=>simp at hi;simpa using ad i a7 hi
def agI{f:Nat→Option Nat}{d:D}{r off:Nat}{u:TypeId}(h:eP f d=some (.cK r off u)):∃gY,d = .cK gY off u:=by
 cases d with
 |cK gY asW oj=>
  simp only [eP,Option.map_eq_some_iff]at h;obtain⟨s,_,ad⟩:=h;cases ad;exact⟨gY,rfl⟩
 |v x=>simp [eP]at h
 |fg x=>simp [eP]at h
 |full k n get=>simp [eP]at h
 |ptr gY o=>simp [eP]at h
 |fn g c=>simp [eP]at h
 |agg c=>simp [eP]at h
 |bU c=>simp [eP]at h
def lJ.eP{P:Program}{T:TypeId}{n:Nat}{f:Nat→Option Nat}{b bM:List aZ}(h:lJ P T n b)(ah:nm f b=some bM):lJ P T n bM:=λe he r off u hd=>by
 obtain⟨i,hi,rfl⟩:=List.getElem_of_mem he;obtain⟨bO,Z,ad,_⟩:=(yI ah).2 i _ (List.getElem?_eq_getElem hi);rw [hd]at ad;obtain⟨gY,am⟩:=agI ad;exact h bO (List.mem_of_getElem? Z) gY off u am
def yJ{f:Nat→Option Nat}:∀{bs qd:List (List aZ)},kt f bs=some qd→qd.length=bs.length∧∀(j:Nat) bM,qd[j]? = some bM→∃b,bs[j]? = some b∧nm f b=some bM
 |[],qd,h=>by simp [kt]at h;subst h;simp
 |b::l,qd,h=>by
  simp only [kt]at h;split at h
  case h_2=>cases h
  rename_i cl i_ hb ae;cases h;obtain⟨Z,ad⟩:=yJ ae;refine⟨by simp [Z],λj bM hj=>?_⟩
  cases j with
  |zero=>simp at hj;subst hj;exact⟨b,by simp,hb⟩
  |succ j=>simp at hj;simpa using ad j bM hj
def Oc{H:List (Nat×List aZ)}:∀{ρ:List Nat} {bs:List (List aZ)},bs.length=ρ.length→nn ρ=true→∀r,
 (∀(j:Nat),ρ[j]? = some r→look (lI ρ bs++H) r=bs[j]?)∧((∀(j:Nat),ρ[j]? ≠ some r)→look (lI ρ bs++H) r=look H r)
 |[],bs,_,_,r=>by simp [lI]
 |x::ρ,[],h,_,_=>by simp at h
 |x::ρ,b::bs,h,hn,r=>by
  have GR:nn ρ=true:=by simp [nn]at hn;exact hn.2
  obtain⟨Z,ad⟩:=Oc (H:=H) (ρ:=ρ) (bs:=bs) (by simpa using h) GR r
  simp only [lI,List.cons_append,dN];refine⟨λj hj=>?_,λhj=>?_⟩
  ·by_cases hx:x=r
   ·have:j=0:=G9 hn j 0 r hj (by simp [hx])
    subst this;simp [hx]
   ·cases j with
    |zero=>simp at hj;exact(hx hj).elim
    |succ j=>simp at hj;rw [if_neg hx];simpa using Z j hj
  ·have hx:x≠r:=λe=>hj 0 (by simp [e])
   rw [if_neg hx];exact ad λj=>by simpa using hj (j+1)
section
variable {P:Program} {K:Ctx} {N:Nat} {M:Mem} {β:Nat→Option Nat} {st:aK} {g:dt} {tmps:Array Value} {w:World} {o:Oper} {f:lG} {p:Path} {tt:dS} {cx:gJ} {ops:List Oper}
def Cq(ρ os:List Nat):Loc→Prop
 |.cell r _=>r∈ρ
 |.slot t=>t∈os
def rh(st:aK)(tmps:Array Value)(w:World)(β:Nat→Option Nat)(ρ os:List Nat)(b:Nat):Prop:=
 (∃r,r∈ρ∧β r=some b)∨∃l e T,Cq ρ os l∧st.at l=some e∧e.own=some T∧jp T (cn tmps w β l) b
open Classical in
noncomputable def kW(M:Mem)(β:Nat→Option Nat)(st:aK)(tmps:Array Value)(w:World)(ρ os:List Nat):Ctx:=
 {vr:=M,F:=λb=>if rh st tmps w β ρ os b then none else w.heap[b]?,j':=λj=>(ρ[j]?).bind β,h1:=(w.os,w.output)}
structure Handed(st:aK)(tmps:Array Value)(vs:List Value)(hd:List (Nat×Option Nat×TypeId)):Prop where
 some:∀i t T,(i,Option.some t,T)∈hd→∃e,st.at (.slot t)=Option.some e∧e.own=Option.some T∧vs[i]? = Option.some (tmps.getD t undef)
 none:∀i T,(i,Option.none,T)∈hd→vs[i]? = Option.some (.slice Option.none 0 0)
 inj:∀i j t T T',(i,Option.some t,T)∈hd→(j,Option.some t,T')∈hd→i=j
def tV(hd:List (Nat×Option Nat×TypeId)):List (Nat×TypeId):=hd.map λx=>(x.1,x.2.2)
def ri(hd:List (Nat×Option Nat×TypeId)):List Nat:=hd.filterMap λx=>x.2.1
def agJ{hd:List (Nat×Option Nat×TypeId)}{i:Nat}{T:TypeId}(h:look (tV hd) i=some T):∃o,(i,o,T)∈hd:=by
 have:=sr h
 simp only [tV,List.mem_map]at this;obtain⟨⟨a,o,T'⟩,Z,ad⟩:=this;cases ad;exact⟨o,Z⟩
def agK{hd:List (Nat×Option Nat×TypeId)}{i t:Nat}{T:TypeId}(h:(i,some t,T)∈hd):t∈ri hd:=by
 simp only [ri,List.mem_filterMap];exact⟨_,h,rfl⟩
def G'(ρ:List Nat)(hd:List (Nat×Option Nat×TypeId))(T:TypeId):Loc→Loc→Prop
 |.cell j i,.cell r mW=>i=mW∧ρ[j]? = some r
 |.slot s,.slot t=>(s,some t,T)∈hd
 |_,_=>False
def Xf(h:bR P K M β st tmps w){ρ:List Nat}{bs H1:List (List aZ)}(hn:nn ρ=true)(lj:boxes st.H ρ=some bs)(mB:kt (idx ρ) bs=some H1){ds jZ:List D}{vs:List Value}
 (hlen:vs.length=ds.length) (ao:∀(i:Nat) v d,vs[i]? = some v→ds[i]? = some d→cE M β v d) (fc:lH (idx ρ) ds=some jZ) {hd:List (Nat×Option Nat×TypeId)} (vO:Handed st tmps vs hd):
 bR P (kW M β st tmps w ρ (ri hd)) M (λj=>(ρ[j]?).bind β) {env:=h5 jZ (tV hd),H:=da 0 H1,a1:=H1.length} ⟨vs⟩ w:=by
 obtain⟨cP,fk⟩:=vN lj;obtain⟨ii,jb⟩:=yJ mB;obtain⟨asX,agL⟩:=yq fc
 have Xg:∀{v d eA},cE M β v d→eP (idx ρ) d=some eA→cE M (λj=>(ρ[j]?).bind β) v eA:=by
  intro v d eA hd kQ;exact hd.eP (λr s b hs hb=>by rw [G8 hs];simpa using hb) kQ
 -- a cell of lN Od is a cell of ours
 have iA:∀j i a7,({env:=h5 jZ (tV hd),H:=da 0 H1,a1:=H1.length}:aK).at (.cell j i)=some a7→∃(r:Nat) (e:aZ),ρ[j]? = some r∧st.at (.cell r i)=some e∧eP (idx ρ) e.d=some a7.d∧a7.own=e.own∧
  cn ⟨vs⟩ w (λj=>(ρ[j]?).bind β) (.cell j i)=cn tmps w β (.cell r i):=by
  intro j i a7 he;simp only [aK.at,nv]at he;cases hj:H1[j]? with
  |none=>simp [hj]at he
  |some bM=>
   simp only [hj,Option.bind_some]at he;obtain⟨b,hb,ol⟩:=jb j bM hj;have vP:j<ρ.length:=by have:=(List.getElem?_eq_some_iff.1 hb).1;omega
   have mc:ρ[j]? = some ρ[j]:=List.getElem?_eq_getElem vP;obtain⟨ae,_⟩:=fk j _ mc;obtain⟨_,Oe⟩:=yI ol;obtain⟨e,qb,Of,Og⟩:=Oe i a7 he;exact⟨_,e,mc,by simp [aK.at,ae,hb,qb],Of,Og,by simp [cn,mc]⟩
 have Xh:∀s a7,({env:=h5 jZ (tV hd),H:=da 0 H1,a1:=H1.length}:aK).at (.slot s)=some a7→a7.own=look (tV hd) s∧∃v d,vs[s]? = some v∧ds[s]? = some d∧eP (idx ρ) d=some a7.d:=by
  intro s a7 he;simp only [aK.at,h5,nv,Cp,Option.map_eq_some_iff]at he;obtain⟨eA,kQ,rfl⟩:=he;have hs:s<jZ.length:=(List.getElem?_eq_some_iff.1 kQ).1;have ik:ds[s]? = some ds[s]:=List.getElem?_eq_getElem (by omega)
  obtain⟨d1,gK,agM⟩:=agL s _ ik;rw [kQ]at gK;cases gK;exact⟨by simp,_,_,List.getElem?_eq_getElem (by omega),ik,agM⟩
 -- asY 'own' place of lN Od is one of ours
 have G_:∀cR a7 T,({env:=h5 jZ (tV hd),H:=da 0 H1,a1:=H1.length}:aK).at cR=some a7→a7.own=some T→
  cn ⟨vs⟩ w (λj=>(ρ[j]?).bind β) cR = .slice none 0 0∨∃l e,G' ρ hd T cR l∧Cq ρ (ri hd) l∧st.at l=some e∧e.own=some T∧cn ⟨vs⟩ w (λj=>(ρ[j]?).bind β) cR=cn tmps w β l:=by
  intro cR a7 T ae aT;cases cR with
  |slot s=>
   obtain⟨aq,v,d,Z,ad,am⟩:=Xh s a7 ae;rw [aq]at aT;obtain⟨o,hm⟩:=agJ aT;have cB:cn (⟨vs⟩:Array Value) w (λj=>(ρ[j]?).bind β) (.slot s)=v:=by simp [cn,Z]
   cases o with
   |none=>
    have:=vO.none s T hm
    rw [Z]at this;cases this;exact .inl cB
   |some t=>
    obtain⟨e,aR,bv,cz⟩:=vO.some s t T hm;rw [Z]at cz;cases cz;exact .inr ⟨.slot t,e,hm,agK hm,aR,bv,cB⟩
  |cell j i=>
   obtain⟨r,e,mc,he,_,f8,cB⟩:=iA j i a7 ae;exact .inr ⟨.cell r i,e,⟨rfl,mc⟩,List.mem_of_getElem? mc,he,by rw [←f8,aT],cB⟩
 have agN:∀T T' i_ mC l,G' ρ hd T i_ l→G' ρ hd T' mC l→i_=mC:=by
  intro T T' i_ mC l Z ad;cases i_<;>cases mC<;>cases l<;>simp only [G']at Z ad
  ·rw [vO.inj _ _ _ _ _ Z ad]
  ·obtain⟨rfl,am⟩:=Z;obtain⟨rfl,aR⟩:=ad;rw [G9 hn _ _ _ am aR]
 have kX:∀j cs',look (da 0 H1) j=some cs'→∃(r:Nat) (cs:List aZ),ρ[j]? = some r∧look st.H r=some cs∧cs.length=cs'.length∧∃f,nm f cs=some cs':=by
  intro j cs' hj;rw [nv]at hj;obtain⟨b,hb,ol⟩:=jb j cs' hj;have vP:j<ρ.length:=by have:=(List.getElem?_eq_some_iff.1 hb).1;omega
  have mc:ρ[j]? = some ρ[j]:=List.getElem?_eq_getElem vP;obtain⟨ae,_⟩:=fk j _ mc;exact⟨_,b,mc,by rw [ae,hb],(yI ol).1.symm,_,ol⟩
 constructor
 ·intro l a7 ae;cases l with
  |slot s=>
   obtain⟨_,v,d,Z,ad,am⟩:=Xh s a7 ae;have:=Xg (ao s v d Z ad) am
   simpa [cn,Z]using this
  |cell j i=>
   obtain⟨r,e,mc,he,ol,_,cB⟩:=iA j i a7 ae;rw [cB];exact Xg (h.fb _ e he) ol
 ·intro cR a7 T ae aT;rcases G_ cR a7 T ae aT with h0|⟨l,e,_,bB,he,ep,cB⟩
  ·rw [h0];exact .inl rfl
  ·rw [cB];refine(h.own _ e T he ep).yr λb hb _=>?_
   simp only [kW];rw [if_pos];exact .inr ⟨l,e,T,bB,he,ep,hb⟩
 ·intro i_ mC e1 e2 T T' b ae aT cZ ep hb b0;rcases G_ i_ e1 T ae aT with h0|⟨l,e,ax,bB,he,Oh,cB⟩
  ·rw [h0]at hb;cases hb
  rcases G_ mC e2 T' cZ ep with h0|⟨cR,a7,dm,Co,sB,agO,q4⟩
  ·rw [h0]at b0;cases b0
  rw [cB]at hb;rw [q4]at b0;have:=h.uniq _ _ e a7 T T' b he Oh sB agO hb b0
  subst this;exact agN _ _ _ _ _ ax dm
 ·intro cR a7 T b j cs' ae aT hb hj;rcases G_ cR a7 T ae aT with h0|⟨l,e,ax,bB,he,Oh,cB⟩
  ·rw [h0]at hb;cases hb
  rw [cB]at hb;obtain⟨r2,cs,agP,ev,_⟩:=kX j cs' hj;have:=h.unbox _ e T b r2 cs he Oh hb ev
  simpa [agP]using this
 ·intro j cs' hj;obtain⟨r,cs,mc,ev,ae,f,agQ⟩:=kX j cs' hj;obtain⟨b,o8,T,Z,ad,am,aR,bv,cz⟩:=h.box r cs ev;refine⟨b,o8,T,by simp [mc,Z],ad,by omega,aR,?_,cz.1,cz.2.eP agQ⟩
  simp only [kW];rw [if_pos];exact .inl ⟨r,List.mem_of_getElem? mc,Z⟩
 ·intro j vQ b c h2 hj Ha hb b0;obtain⟨r,cs,mc,ev,_⟩:=kX j c hj;obtain⟨cT,cs',Xi,vR,_⟩:=kX vQ h2 Ha;have:r=cT:=h.inj r cT b cs cs' ev vR (by simpa [mc]using hb) (by simpa [Xi]using b0)
  subst this;exact G9 hn j vQ r mc Xi
 ·intro j b hb;simp only [Option.bind_eq_some_iff]at hb;obtain⟨r,ah,_⟩:=hb;have:=(List.getElem?_eq_some_iff.1 ah).1
  show j<H1.length
  omega
 ·exact h.mem
 ·exact Mem.le_refl _
 ·intro b bc hb;simp only [kW]at hb;split at hb
  ·cases hb
  ·exact⟨hb,λ_=>rfl⟩
 ·intro j b hb;exact hb
 ·refine h.jq.mono λb bc dV=>?_
  have Oi:¬ rh st tmps w β ρ (ri hd) b:=by
   rintro (⟨r,ah,mD⟩|⟨l,e,T,ah,he,aT,kR⟩)
   ·obtain⟨j,hj⟩:=List.getElem?_of_mem ah;obtain⟨ae,vS⟩:=fk j r hj;obtain⟨cs,ev⟩:=Option.isSome_iff_exists.1 vS;obtain⟨jI,_,_,am,_,_,_,aR,_⟩:=h.box r cs (by rw [ae,ev])
    rw [mD]at am;cases am;rw [aR]at dV;cases dV
   ·rw [(h.own _ e T he aT).free kR]at dV;cases dV
  simp only [kW];rw [if_neg Oi];exact(h.frame b bc dV).1
 ·rfl
def agR{ρ os:List Nat}{st:aK}{H:List (Nat×List aZ)}{n s:Nat}{e:aZ}(ae:({env:=gX os st.env,H:=H,a1:=n}:aK).at (.slot s)=some e):
 ∃bO,st.at (.slot s)=some bO∧bO.d=e.d∧(∀T,e.own=some T→bO.own=some T)∧∀T,e.own=some T→¬ Cq ρ os (.slot s):=by
 simp only [aK.at,nq]at ae;by_cases hs:s∈os
 ·rw [if_pos hs,Option.map_eq_some_iff]at ae;obtain⟨bO,Z,ad⟩:=ae;subst ad;exact⟨bO,Z,rfl,(λT aT=>by cases aT),(λT aT=>by cases aT)⟩
 ·rw [if_neg hs]at ae;exact⟨e,ae,rfl,(λT aT=>aT),(λT _=>hs)⟩
def Oj(h:bR P K M β st tmps w){ρ:List Nat}{bs cm i':List (List aZ)}(hn:nn ρ=true)(lj:boxes st.H ρ=some bs)(vT:kt (λj=>ρ[j]?) cm=some i')(eQ:cm.length=ρ.length)
 {os:List Nat} {out:Out} {v:Value} {w':World} {M':Mem} {β':Nat→Option Nat} (jv:bR P (kW M β st tmps w ρ os) M' β' {env:=ij out,H:=da 0 cm,a1:=ρ.length} #[v] w'):
 M.le M'∧bR P K M' β {env:=gX os st.env,H:=lI ρ i'++st.H,a1:=st.a1} tmps w'∧
 (∀d own,out = .ret d own→∀eA,eP (λj=>ρ[j]?) d=some eA→cE M' β v eA∧∀T l0,own=some T→mV P K M' β {env:=gX os st.env,H:=lI ρ i'++st.H,a1:=st.a1} tmps w' l0 v T)∧
 (∀x,out = .bj x→dw M' v x):=by
 obtain⟨cP,fk⟩:=vN lj;obtain⟨ii,jb⟩:=yJ vT;have db:M.le M':=jv.m0;have hL:∀(j r b:Nat),ρ[j]? = some r→β r=some b→β' j=some b:=λj r b hj hb=>jv.iH j b (by simp [kW,hj,hb])
 have tW:∀(j r:Nat),ρ[j]? = some r→∃cs b,look st.H r=some cs∧β r=some b∧β' j=some b:=by
  intro j r hj;obtain⟨Z,ad⟩:=fk j r hj;obtain⟨cs,ev⟩:=Option.isSome_iff_exists.1 ad;rw [ev]at Z;obtain⟨b,_,_,hb,_⟩:=h.box r cs Z;exact⟨cs,b,Z,hb,hL j r b hj hb⟩
 have Xj:∀{v d eA},cE M' β' v d→eP (λj=>ρ[j]?) d=some eA→cE M' β v eA:=by
  intro v d eA hd kQ;refine hd.eP (λj r b hj hb=>?_) kQ
  obtain⟨_,cl,_,Z,ad⟩:=tW j r hj;rw [hb]at ad;cases ad;exact Z
 -- G2 is not rh is kept
 have Cr:∀b,¬ rh st tmps w β ρ os b→b<w.heap.size→w'.heap[b]? = w.heap[b]? ∧ ∀o,M' b o=M b o:=by
  intro b hb b2
  have dV:(kW M β st tmps w ρ os).F b=some w.heap[b]:=by
   simp only [kW];rw [if_neg hb];exact Array.getElem?_eq_getElem b2
  obtain⟨Z,ad⟩:=jv.frame b _ dV;exact⟨by rw [Z,Array.getElem?_eq_getElem b2],ad⟩
 have Xk:∀b,(kW M β st tmps w ρ os).F b=none→K.F b=none:=by
  intro b hb;simp only [kW]at hb;split at hb
  ·rename_i hp;rcases hp with⟨r,ah,mD⟩|⟨l,e,T,ah,he,aT,kR⟩
   ·obtain⟨j,hj⟩:=List.getElem?_of_mem ah;obtain⟨cs,cl,ev,cP,_⟩:=tW j r hj;obtain⟨jI,_,_,Z,_,_,_,ad,_⟩:=h.box r cs ev;rw [mD]at Z;cases Z;exact ad
   ·exact(h.own _ e T he aT).free kR
  ·cases dV:K.F b with
   |none=>rfl
   |some bc=>have:=(h.frame b bc dV).1;rw [hb]at this;cases this
 have hold:∀b,(kW M β st tmps w ρ os).F b=none→b<w.heap.size→rh st tmps w β ρ os b:=by
  intro b hb b2;simp only [kW]at hb;split at hb
  ·assumption
  ·rw [Array.getElem?_eq_getElem b2]at hb;cases hb
 -- asZ own boxes agD as0 not handed on
 have Hb:∀r cs b,look st.H r=some cs→(∀(j:Nat),ρ[j]? ≠ some r)→β r=some b→¬ rh st tmps w β ρ os b:=by
  intro r cs b ah ja hb hp;rcases hp with⟨cT,fj,b0⟩|⟨l,e,T,fj,he,aT,kR⟩
  ·obtain⟨j,hj⟩:=List.getElem?_of_mem fj;obtain⟨cs',_,vR,_⟩:=tW j cT hj;have:=h.inj r cT b cs cs' ah vR hb b0
   subst this;exact ja j hj
  ·exact h.unbox _ e T b r cs he aT kR ah hb
 have Cs:∀r,(∃(j:Nat),ρ[j]? = some r∧look (lI ρ i'++st.H) r=i'[j]?)∨((∀(j:Nat),ρ[j]? ≠ some r)∧look (lI ρ i'++st.H) r=look st.H r):=by
  intro r;obtain⟨Z,ad⟩:=Oc (H:=st.H) (ρ:=ρ) (bs:=i') (by omega) hn r
  by_cases hj:∃(j:Nat),ρ[j]? = some r
  ·obtain⟨j,hj⟩:=hj;exact .inl ⟨j,hj,Z j hj⟩
  ·have:∀(j:Nat),ρ[j]? ≠ some r:=λj bB=>hj ⟨j,bB⟩
   exact .inr ⟨this,ad this⟩
 -- a place of lN new state: lN Od, or kept
 have fr:∀l e,({env:=gX os st.env,H:=lI ρ i'++st.H,a1:=st.a1}:aK).at l=some e→
  (∃(j r i:Nat) (a7:aZ),l = .cell r i∧ρ[j]? = some r∧({env:=ij out,H:=da 0 cm,a1:=ρ.length}:aK).at (.cell j i)=some a7∧eP (λj=>ρ[j]?) a7.d=some e.d∧e.own=a7.own∧cn tmps w' β l=cn #[v] w' β' (.cell j i))∨
  (∃bO,st.at l=some bO∧bO.d=e.d∧(∀T,e.own=some T→bO.own=some T)∧cn tmps w' β l=cn tmps w β l∧(∀T,e.own=some T→¬ Cq ρ os l)):=by
  intro l e ae;cases l with
  |slot s=>
   obtain⟨bO,Z,ad,am,aR⟩:=agR ae;exact .inr ⟨bO,Z,ad,am,rfl,aR⟩
  |cell r i=>
   rcases Cs r with⟨j,hj,md⟩|⟨ja,md⟩
   ·simp only [aK.at,md]at ae;cases bB:i'[j]? with
    |none=>simp [bB]at ae
    |some bM=>
     simp only [bB,Option.bind_some]at ae;obtain⟨b,hb,ol⟩:=jb j bM bB;obtain⟨_,Oe⟩:=yI ol;obtain⟨a7,qb,Of,Og⟩:=Oe i e ae;obtain⟨_,cl,_,cP,vv⟩:=tW j r hj;exact .inl ⟨j,r,i,a7,rfl,hj,by simp [aK.at,nv,hb,qb],Of,Og,by simp [cn,cP,vv]⟩
   ·simp only [aK.at,md]at ae;refine .inr ⟨e,ae,rfl,λ_ h=>h,?_,λT _ bB=>by obtain⟨j,hj⟩:=List.getElem?_of_mem bB;exact ja j hj⟩
    cases ah:look st.H r with
    |none=>simp [ah]at ae
    |some cs=>
     obtain⟨b,_,_,hb,bB,_⟩:=h.box r cs ah;simp only [cn,hb];rw [so (w:=w) (Cr b (Hb r cs b ah ja hb) (lt_of_heap bB)).1]
 -- a kept 'own' as1 block is not rh
 have Ct:∀l e T b,st.at l=some e→e.own=some T→¬ Cq ρ os l→jp T (cn tmps w β l) b→¬ rh st tmps w β ρ os b:=by
  intro l e T b ae aT ja hb hp;rcases hp with⟨cT,fj,b0⟩|⟨cR,a7,T',fj,he,ep,kR⟩
  ·obtain⟨j,hj⟩:=List.getElem?_of_mem fj;obtain⟨cs',_,vR,_⟩:=tW j cT hj;exact h.unbox l e T b cT cs' ae aT hb vR b0
  ·have:=h.uniq l _ e a7 T T' b ae aT he ep hb kR
   subst this;exact ja fj
 -- lN Od 'own' blocks as2 ours
 have Cu:∀T u b,kx P (kW M β st tmps w ρ os).F M' w' T u→jp T u b→∀bM,bM=b→bM<w.heap.size→rh st tmps w β ρ os bM:=by
  intro T u b aq hb bM q5 b2;subst q5;exact hold bM (aq.free hb) b2
 have Hc:∀r cs,look (lI ρ i'++st.H) r=some cs→∃lP,look st.H r=some lP:=by
  intro r cs ah;rcases Cs r with⟨j,hj,_⟩|⟨_,md⟩
  ·obtain⟨lP,_,Z,_⟩:=tW j r hj;exact⟨lP,Z⟩
  ·exact⟨cs,by rw [←md];exact ah⟩
 have c':bR P K M' β {env:=gX os st.env,H:=lI ρ i'++st.H,a1:=st.a1} tmps w':=by
  constructor
  ·intro l e ae;rcases fr l e ae with⟨j,r,i,a7,rfl,hj,sB,ol,_,cB⟩|⟨bO,aq,Cv,li,cB,_⟩
   ·rw [cB];exact Xj (jv.fb _ a7 sB) ol
   ·rw [cB,←Cv];exact(h.fb l bO aq).mono db
  ·intro l e T ae aT;rcases fr l e ae with⟨j,r,i,a7,rfl,hj,sB,_,f8,cB⟩|⟨bO,aq,Cv,li,cB,ja⟩
   ·rw [cB];rw [f8]at aT;exact(jv.own _ a7 T sB aT).yr λb _ cz=>Xk b cz
   ·rw [cB];have ja:=ja T aT;have aT:=li T aT;refine(h.own l bO T aq aT).congr (λb hb=>?_) (λb o' hb=>?_)
    ·exact(Cr b (Ct l bO T b aq aT ja hb) ((h.own l bO T aq aT).lt hb)).1
    ·exact(Cr b (Ct l bO T b aq aT ja hb) ((h.own l bO T aq aT).lt hb)).2 o'
  ·intro l cR e1 e2 T T' b ae aT cZ ep hb b0
   rcases fr l e1 ae with⟨j,r,i,x,rfl,hj,hx,_,f8,cB⟩|⟨bO,aq,Cv,li,cB,ja⟩ <;>
    rcases fr cR e2 cZ with⟨vQ,cT,mW,Cw,rfl,Ha,yK,_,Xl,q4⟩|⟨yw,lh,as3,Cc,q4,Ok⟩
   ·rw [cB]at hb;rw [q4]at b0;rw [f8]at aT;rw [Xl]at ep;have:=jv.uniq _ _ x Cw T T' b hx aT yK ep hb b0
    cases this;rw [hj]at Ha;cases Ha;rfl
   ·rw [cB]at hb;rw [q4]at b0;rw [f8]at aT;have Ok:=Ok T' ep;have ep:=Cc T' ep;exact(Ct cR yw T' b lh ep Ok b0 (Cu T _ b (jv.own _ x T hx aT) hb b rfl ((h.own cR yw T' lh ep).lt b0))).elim
   ·rw [cB]at hb;rw [q4]at b0;rw [Xl]at ep;have ja:=ja T aT;have aT:=li T aT;exact(Ct l bO T b aq aT ja hb (Cu T' _ b (jv.own _ Cw T' yK ep) b0 b rfl ((h.own l bO T aq aT).lt hb))).elim
   ·rw [cB]at hb;rw [q4]at b0;exact h.uniq l cR bO yw T T' b aq (li T aT) lh (Cc T' ep) hb b0
  ·intro l e T b r cs ae aT hb ah mD;obtain⟨lP,mx⟩:=Hc r cs ah;rcases fr l e ae with⟨j,r1,i,x,rfl,hj,hx,_,f8,cB⟩|⟨bO,aq,Cv,li,cB,ja⟩
   ·rw [cB]at hb;rw [f8]at aT;rcases Cs r with⟨j2,vU,md⟩|⟨Ol,_⟩
    ·have ad:∃c2,look (da 0 cm) j2=some c2:=by
      rw [nv];exact⟨_,List.getElem?_eq_getElem (by have:=(List.getElem?_eq_some_iff.1 vU).1;omega)⟩
     obtain⟨c2,kY⟩:=ad;exact jv.unbox _ x T b j2 c2 hx aT hb kY (hL j2 r b vU mD)
    ·obtain⟨cl,_,_,cP,bB,_⟩:=h.box r lP mx;rw [mD]at cP;cases cP;exact Hb r lP b mx Ol mD (Cu T _ b (jv.own _ x T hx aT) hb b rfl (lt_of_heap bB))
   ·rw [cB]at hb;exact h.unbox l bO T b r lP aq (li T aT) hb mx mD
  ·intro r cs ah;rcases Cs r with⟨j,hj,md⟩|⟨ja,md⟩
   ·rw [md]at ah;obtain⟨c2,kY,ol⟩:=jb j cs ah;obtain⟨lP,pe,agS,Xm,agT⟩:=tW j r hj;obtain⟨b,o8,T,Z,ad,am,aR,bv,cz⟩:=jv.box j c2 (by rw [nv];exact kY)
    rw [agT]at Z;cases Z;obtain⟨jI,_,_,eG,_,_,_,eD,_⟩:=h.box r lP agS;rw [Xm]at eG;cases eG;exact⟨pe,o8,T,Xm,ad,by rw [am,(yI ol).1],aR,eD,cz.1,cz.2.eP ol⟩
   ·rw [md]at ah;obtain⟨b,o8,T,Z,ad,am,aR,bv,cz⟩:=h.box r cs ah;have hk:=Cr b (Hb r cs b ah ja Z) (lt_of_heap ad);exact⟨b,o8,T,Z,hk.1.trans ad,am,λo'=>(hk.2 o').trans (aR o'),bv,cz⟩
  ·intro r cT b c h2 ah fj hb b0;obtain⟨c0,mx⟩:=Hc r c ah;obtain⟨agU,agV⟩:=Hc cT h2 fj;exact h.inj r cT b c0 agU mx agV hb b0
  ·exact h.lt
  ·exact jv.mem
  ·exact Mem.le_trans h.m0 db
  ·intro b bc dV;obtain⟨Z,ad⟩:=h.frame b bc dV
   have Oi:¬ rh st tmps w β ρ os b:=by
    rintro (⟨r,ah,mD⟩|⟨l,e,T,ah,he,aT,kR⟩)
    ·obtain⟨j,hj⟩:=List.getElem?_of_mem ah;obtain⟨cs,_,ev,_⟩:=tW j r hj;obtain⟨jI,_,_,am,_,_,_,aR,_⟩:=h.box r cs ev;rw [mD]at am;cases am;rw [aR]at dV;cases dV
    ·rw [(h.own _ e T he aT).free kR]at dV;cases dV
   have hk:=Cr b Oi (lt_of_heap Z);exact⟨hk.1.trans Z,λo'=>(hk.2 o').trans (ad o')⟩
  ·exact h.iH
  ·exact h.jq
  ·exact Eq.trans (show(w'.os,w'.output)=(w.os,w.output)from jv.h1) h.h1
 refine⟨db,c',λd own Om eA kQ=>?_,λx Om=>?_⟩
 ·subst Om;have il:=jv.fb (.slot 0) {d,own} (by simp [aK.at,ij,look])
  refine⟨Xj (by simpa [cn]using il) kQ,λT l0 aT=>?_⟩
  have aq:=jv.own (.slot 0) {d,own} T (by simp [aK.at,ij,look]) aT
  simp only [cn]at aq;have lh:kx P (kW M β st tmps w ρ os).F M' w' T v:=by simpa using aq
  refine⟨?_,λl e T' b ae ep _ hb b0=>?_,λb r cs hb ah mD=>?_⟩
  ·exact lh.yr λb _ cz=>Xk b cz
  ·rcases fr l e ae with⟨j,r,i,x,rfl,hj,hx,_,f8,cB⟩|⟨bO,On,Cv,li,cB,ja⟩
   ·rw [cB]at b0;rw [f8]at ep;have:=jv.uniq (.slot 0) (.cell j i) {d,own} x T T' b (by simp [aK.at,ij,look]) aT hx ep (by simpa [cn]using hb) b0
    cases this
   ·rw [cB]at b0;have ja:=ja T' ep;have ep:=li T' ep;exact Ct l bO T' b On ep ja b0 (Cu T v b lh hb b rfl ((h.own l bO T' On ep).lt b0))
  ·obtain⟨lP,mx⟩:=Hc r cs ah;rcases Cs r with⟨j2,vU,md⟩|⟨Ol,_⟩
   ·have ad:∃c2,look (da 0 cm) j2=some c2:=by
     rw [nv];exact⟨_,List.getElem?_eq_getElem (by have:=(List.getElem?_eq_some_iff.1 vU).1;omega)⟩
    obtain⟨c2,kY⟩:=ad;exact jv.unbox (.slot 0) {d,own} T b j2 c2 (by simp [aK.at,ij,look]) aT (by simpa [cn]using hb) kY (hL j2 r b vU mD)
   ·obtain⟨cl,_,_,cP,bB,_⟩:=h.box r lP mx;rw [mD]at cP;cases cP;exact Hb r lP b mx Ol mD (Cu T v b lh hb b rfl (lt_of_heap bB))
 ·subst Om;have il:=jv.fb (.slot 0) {d:=.v x} (by simp [aK.at,ij,look])
  have:=og il
  simpa [cn]using this
end
def Xn{i:Int}{n:Nat}(h:aN i n=true):0≤i∧i<n:=by simpa [aN]using h
def vV{i:Int}{n:Nat}(h:hE i n=true):0≤i∧i≤n:=by simpa [hE]using h
def agW{i:Int}{n:Nat}(h:0≤i∧i≤n):hE i n=true:=by simpa [hE]using h
def Xo{a b:Int}{n:Nat}(h:lF a b n=true):0≤a∧a≤b∧b≤n:=by simpa [lF]using h
def Xp{a:Int}(h:p3 a=true):a≠0:=by simpa [p3]using h
def Oo{n b:Nat}(h:room n b=true):n*b≤140737488355328:=by simpa [room]using h
def agX{n:Nat}(h:cq n=true):n≤9223372036854775807:=by simpa [cq]using h
section
variable {P:Program} {K:Ctx} {N:Nat} {M:Mem} {β:Nat→Option Nat} {st:aK} {g:dt} {tmps:Array Value} {w:World} {o:Oper} {f:lG} {p:Path} {tt:dS} {cx:gJ} {ops:List Oper}
def Xq:∀(l:List (Nat×aZ)) (s:Nat),look (p8 l) s=(look l s).map λe=>({d:=e.d}:aZ)
 |[],s=>rfl
 |(t,e)::l,s=>by
  simp only [p8,dN];by_cases h:t=s
  ·simp [h]
  ·simp only [h,if_false];exact Xq l s
def bR.p8{st:aK}(h:bR P K M β st tmps w){env:List (Nat×aZ)}(he:∀s e,look env s=some e→∃bO,look st.env s=some bO∧bO.d=e.d):bR P K M β {env:=Ab.p8 env,H:=st.H,a1:=st.a1} tmps w:=
 h.sub rfl (λl e ae=>by
  cases l with
  |slot s=>
   simp only [aK.at,Xq,Option.map_eq_some_iff]at ae;obtain⟨e1,Z,rfl⟩:=ae;obtain⟨bO,ad,am⟩:=he s e1 Z;exact⟨bO,ad,am,λ_ h=>by cases h⟩
  |cell r i=>exact⟨e,ae,rfl,λ_ h=>h⟩) (λr cs ah=>⟨cs,ah,rfl⟩)
def agY(P:Program)(K:Ctx)(M:Mem)(β:Nat→Option Nat)(g:dt)(x:V)(hs:List (Nat×List aZ))(o:Oper)(tmps:Array Value)(w:World):Prop:=
 (∃v,(execOp (Act.eval ⟨tmps,[]⟩) o).run P w = .halt (.panic v) w∧dw M v x∧hs=[])∨
 (∃fn vs,(execOp (Act.eval ⟨tmps,[]⟩) o).run P w = .ok (.enter fn vs) w∧Calls P fn vs w λe w'=>∃v M' ,e = .panicked [{v,recovered:=false}]∧dw M' v x∧
  bR P K M' β {env:=p8 g.env,H:=hs++g.H,a1:=g.a1} tmps w')
def agZ{op:BinOp}{k:IntKind}{a b:Int}{x:V}{bc:List Prop}(h:No op k a b=some (x,bc))(cH:∀q,q∈bc→q)(t:TypeId):
 ∃v,(binOp op t (.int k a) (.int k b)).run P w = .ok v w∧dw M v x:=by
 have fin:∀{s:Sem Value} {v:Value},s.run P w = .ok v w→dw M v x→∃v,s.run P w = .ok v w∧dw M v x:=λZ ad=>⟨_,Z,ad⟩
 cases op<;>simp only [No,Option.some.injEq,Prod.mk.injEq,reduceCtorEq]at h<;>obtain⟨rfl,rfl⟩:=h
 case quo=>
  have hb:=Xp (cH _ (List.mem_singleton.2 rfl));refine fin (v:=.int k (k.wrap (a.tdiv b))) ?_ (.int _ _);simp [binOp,Op.intDiv,hb]
 case rem=>
  have hb:=Xp (cH _ (List.mem_singleton.2 rfl));refine fin (v:=.int k (a.tmod b)) ?_ (.int _ _);simp [binOp,Op.intDiv,hb]
 case add=>exact fin (v:=.int k (k.wrap (a+b))) (by simp [binOp,Op.intArith]) (.int _ _)
 case sub=>exact fin (v:=.int k (k.wrap (a-b))) (by simp [binOp,Op.intArith]) (.int _ _)
 case mul=>exact fin (v:=.int k (k.wrap (a*b))) (by simp [binOp,Op.intArith]) (.int _ _)
 case eql=>exact fin (v:=.bool (decide (a=b))) (by simp [binOp,Op.intCmp];rfl) (.bool _)
 case neq=>exact fin (v:=.bool (!decide (a=b))) (by simp [binOp,Op.intCmp];rfl) (.bool _)
 case lss=>exact fin (v:=.bool (decide (a<b))) (by simp [binOp,Op.intCmp]) (.bool _)
 case leq=>exact fin (v:=.bool (decide (a≤b))) (by simp [binOp,Op.intCmp]) (.bool _)
 case gtr=>exact fin (v:=.bool (decide (b<a))) (by simp [binOp,Op.intCmp]) (.bool _)
 case geq=>exact fin (v:=.bool (decide (b≤a))) (by simp [binOp,Op.intCmp]) (.bool _)
 case and=>exact fin (v:=.int k (p5 k a b)) (by simp [binOp,Op.intBits,p5]) (.int _ _)
 case or=>exact fin (v:=.int k (tH k a b)) (by simp [binOp,Op.intBits,tH]) (.int _ _)
 case xor=>exact fin (v:=.int k (o2 k a b)) (by simp [binOp,Op.intBits,o2]) (.int _ _)
 case andNot=>exact fin (v:=.int k (Nm k a b)) (by simp [binOp,Op.intBits,Nm]) (.int _ _)
def ag0{op:BinOp}{k k':IntKind}{a b:Int}{x:V}{bc:List Prop}(h:Nn op k a b=some (x,bc))(cH:∀q,q∈bc→q)(t:TypeId):
 ∃v,(binOp op t (.int k a) (.int k' b)).run P w = .ok v w∧dw M v x:=by
 unfold Nn at h;split at h
 ·simp only [Option.some.injEq,Prod.mk.injEq]at h;obtain⟨rfl,rfl⟩:=h;have hb:0≤b:=by simpa [o3]using cH (o3 b=true) (by simp)
  exact⟨.int k (sj k a b),by simp [binOp,Op.shift,show¬ b<0 by omega,sj],.int _ _⟩
 ·simp only [Option.some.injEq,Prod.mk.injEq]at h;obtain⟨rfl,rfl⟩:=h;have hb:0≤b:=by simpa [o3]using cH (o3 b=true) (by simp)
  exact⟨.int k (tI k a b),by simp [binOp,Op.shift,show¬ b<0 by omega,tI],.int _ _⟩
 ·cases h
def ag1{op:BinOp}{a b:auJ}{x:V}{bc:List Prop}(h:Np op a b=some (x,bc))(cH:∀q,q∈bc→q)(t:TypeId):
 ∃v,(binOp op t (.string ⟨⟨a⟩⟩) (.string ⟨⟨b⟩⟩)).run P w = .ok v w∧dw M v x:=by
 have fin:∀{s:Sem Value} {v:Value},s.run P w = .ok v w→dw M v x→∃v,s.run P w = .ok v w∧dw M v x:=λZ ad=>⟨_,Z,ad⟩
 have rj:=GX a;have yL:=GX b;have he:(a == b)=decide (a=b):=by by_cases m3:a=b<;>simp [m3]
 cases op<;>simp only [Np,Option.some.injEq,Prod.mk.injEq,reduceCtorEq]at h<;>obtain⟨rfl,rfl⟩:=h
 case add=>
  have hb:=agX (cH _ (List.mem_singleton.2 rfl));refine fin (v:=.string ⟨⟨a++b⟩⟩) ?_ (.str _)
  have eC:¬ ((((⟨⟨a⟩⟩:ByteArray).size+(⟨⟨b⟩⟩:ByteArray).size:Nat):Int) > IntKind.i64.max):=by
   have Z:(⟨⟨a⟩⟩:ByteArray).size=a.length:=rfl;have ad:(⟨⟨b⟩⟩:ByteArray).size=b.length:=rfl;have am:IntKind.i64.max=9223372036854775807:=by decide
   rw [Z,ad,am];omega
  simp only [binOp,Op.stringOp];rw [if_neg eC];simp;apply ByteArray.ext;simp
 case eql=>exact fin (v:=.bool (decide (a=b))) (by simp [binOp,Op.stringOp,rj,yL,he]) (.bool _)
 case neq=>exact fin (v:=.bool (!decide (a=b))) (by simp [binOp,Op.stringOp,rj,yL,he]) (.bool _)
 case lss=>exact fin (v:=.bool (Op.bytesLess a b)) (by simp [binOp,Op.stringOp,rj,yL]) (.bool _)
 case leq=>exact fin (v:=.bool (Op.bytesLess a b||decide (a=b))) (by simp [binOp,Op.stringOp,rj,yL,he]) (.bool _)
 case gtr=>exact fin (v:=.bool (!(Op.bytesLess a b||decide (a=b)))) (by simp [binOp,Op.stringOp,rj,yL,he]) (.bool _)
 case geq=>exact fin (v:=.bool (!Op.bytesLess a b)) (by simp [binOp,Op.stringOp,rj,yL]) (.bool _)
def ag2{t:TypeId}{aJ:en}(r:Row P t aJ)(hk:aJ.k = .ptr):∃e,r.desc = .pointer e:=by
 have:=r.hk
 rw [hk]at this;cases hd:r.desc<;>simp [hd,lK]at this;exact⟨_,rfl⟩
def ag3{t:TypeId}{aJ:en}(r:Row P t aJ)(hk:aJ.k = .p2):∃e,r.desc = .interface e:=by
 have:=r.hk
 rw [hk]at this;cases hd:r.desc<;>simp [hd,lK]at this;exact⟨_,rfl⟩
def ag4{t:TypeId}{aJ:en}(r:Row P t aJ)(hk:aJ.k = .yl):∃a b c,r.desc = .func a b c:=by
 have:=r.hk
 rw [hk]at this;cases hd:r.desc<;>simp [hd,lK]at this;exact⟨_,_,_,rfl⟩
def Oq{t:TypeId}{aJ:en}(r:Row P t aJ)(hk:aJ.k = .bool):r.desc = .bool:=by
 have:=r.hk
 rw [hk]at this;cases hd:r.desc<;>simp [hd,lK]at this;rfl
def Xr{t:TypeId}{aJ:en}(r:Row P t aJ){h4 yM:Value}{a b:D}{res:Bool}(ha:cE M β h4 a)(hb:cE M β yM b)(ae:GI aJ.k b=true)(hn:isNil aJ.k a=some res):
 (Op.equal t h4 yM).run P w = .ok res w∧(∀op,(binOp op t h4 yM)=match op with|.eql=>(do pure (.bool (←Op.equal t h4 yM)))|.neq=>(do pure (.bool (!(←Op.equal t h4 yM))))|_=>binOp op t h4 yM):=by
 obtain⟨dep,hm⟩:∃d,Op.maxDepth=d+1:=⟨9999,rfl⟩;unfold GI at ae;split at ae<;>try cases ae
 ·rename_i hk;cases og hb
  obtain⟨e,hd⟩:=ag2 r hk;rw [hk]at hn;unfold isNil at hn;split at hn<;>simp_all
  ·cases og ha
   refine⟨?_,λop=>by cases op<;>rfl⟩
   rw [Op.equal,hm,Op.equalIn];simp [r.run_underlying,hd]
  ·obtain⟨bM,_,rfl⟩:=o9 ha;subst hn;refine⟨?_,λop=>by cases op<;>rfl⟩
   rw [Op.equal,hm,Op.equalIn];simp [r.run_underlying,hd]
  ·obtain⟨bM,off,val,rfl,_⟩:=GT ha;subst hn;refine⟨?_,λop=>by cases op<;>rfl⟩
   rw [Op.equal,hm,Op.equalIn];simp [r.run_underlying,hd]
 ·rename_i hk;cases og hb
  obtain⟨e,hd⟩:=ag3 r hk;rw [hk]at hn;unfold isNil at hn;split at hn<;>simp_all
  ·cases og ha
   refine⟨?_,λop=>by cases op<;>rfl⟩
   rw [Op.equal,hm,Op.equalIn];simp [r.run_underlying,hd]
  ·obtain⟨u,rfl,_⟩:=NG ha;subst hn;refine⟨?_,λop=>by cases op<;>rfl⟩
   rw [Op.equal,hm,Op.equalIn];simp [r.run_underlying,hd]
 ·rename_i hk;cases og hb
  obtain⟨e1,e2,e3,hd⟩:=ag4 r hk;rw [hk]at hn;unfold isNil at hn;split at hn<;>simp_all
  ·cases og ha
   refine⟨?_,λop=>by cases op<;>rfl⟩
   rw [Op.equal,hm,Op.equalIn];simp [r.run_underlying,hd]
  ·obtain⟨u,rfl,_⟩:=WF ha;subst hn;refine⟨?_,λop=>by cases op<;>rfl⟩
   rw [Op.equal,hm,Op.equalIn];simp [r.run_underlying,hd]
end
section
variable {P:Program} {K:Ctx} {N:Nat} {M:Mem} {β:Nat→Option Nat} {st:aK} {g:dt} {tmps:Array Value} {w:World} {o:Oper} {f:lG} {p:Path} {tt:dS} {cx:gJ} {ops:List Oper}
structure Hyp(P:Program)(K:Ctx)(N:Nat)(M:Mem)(β:Nat→Option Nat)(g:dt)(tmps:Array Value)(w:World)(p:Path)(tt:dS):Prop where
 bC:fO P K N M β g tmps w
 eg:fV tmps p
 tt:fl P tt=true
def ag5(h:Hyp P K N M β g tmps w p tt){x:Operand}(aq:o.op = .move x)(hs:step1 cx tt ops g p o=some (.go f)):Yields P K M β g f o tmps w:=by
 simp only [step1,aq]at hs;split at hs
 case h_2=>cases hs
 rename_i d hd
 repeat' (first|(split at hs)|(rw [Bool.cond_eq_ite]at hs))
 all_goals first
  |(cases hs;done)
  |(cases hs;exact WJ h.bC h.eg (.inl aq) hd (by assumption))
  |(cases hs;exact GY h.bC h.eg (.inl aq) hd)
def ag6(h:Hyp P K N M β g tmps w p tt){x:Operand}(aq:o.op = .assign x)(hs:step1 cx tt ops g p o=some (.go f)):Yields P K M β g f o tmps w:=by
 simp only [step1,aq]at hs;split at hs
 case h_2=>cases hs
 rename_i d hd;split at hs
 ·rename_i e t f8;rw [Bool.cond_eq_ite]at hs;split at hs<;>cases hs
  ·exact WJ h.bC h.eg (.inr aq) hd f8
  ·exact GY h.bC h.eg (.inr aq) hd
 ·split at hs
  ·rw [Bool.cond_eq_ite]at hs;split at hs<;>cases hs
   ·exact af9 h.bC h.eg aq hd _
   ·exact GY h.bC h.eg (.inr aq) hd
  ·cases hs
 ·cases hs;exact GY h.bC h.eg (.inr aq) hd
def ag7(h:Hyp P K N M β g tmps w p tt){c:Nat}{a b:Operand}(aq:o.op = .pick (.tmp c) a b)(hs:step1 cx tt ops g p o=some (.go f)):Yields P K M β g f o tmps w:=by
 simp only [step1,aq]at hs;split at hs
 case h_2=>cases hs
 rename_i tK B8 q2 Z ad am;cases hs;exact af' h.bC h.eg aq Z ad am
def ag8(h:Hyp P K N M β g tmps w p tt){t:TypeId}(aq:o.op = .alloc t)(hs:step1 cx tt ops g p o=some (.go f)):Yields P K M β g f o tmps w:=by
 simp only [step1,aq]at hs;split at hs
 case h_2=>cases hs
 rename_i id nx hid;split at hs
 case h_2=>cases hs
 rename_i z dG;cases hs;exact aga h.bC h.tt aq dG hid
def ag9(h:Hyp P K N M β g tmps w p tt){t:TypeId}{x:Operand}(aq:o.op = .box t x)(hs:step1 cx tt ops g p o=some (.go f)):Yields P K M β g f o tmps w:=by
 simp only [step1,aq]at hs;split at hs
 case h_2=>cases hs
 rename_i d id nx aJ hd hid ae;rw [Bool.cond_eq_ite]at hs;split at hs<;>cases hs
 rename_i Hd;simp only [Bool.or_eq_true,Bool.not_eq_true',not_or,Bool.not_eq_true,Bool.not_eq_false,Nat.beq_eq]at Hd;exact agb h.bC h.eg aq hd Hd.1.1 Hd.1.2 h.tt ae Hd.2 hid
def ag'(h:Hyp P K N M β g tmps w p tt){t:TypeId}{parts:Array (Nat×Operand)}(aq:o.op = .build t parts)(hs:step1 cx tt ops g p o=some (.go f)):Yields P K M β g f o tmps w:=by
 simp only [step1,aq]at hs;split at hs
 ·rename_i cM fN kT zero _ cS ae mz;rw [Bool.cond_eq_ite]at hs;split at hs
  case isFalse=>cases hs
  rename_i nt;split at hs
  ·simp only [Option.map_eq_some_iff]at hs;obtain⟨d,⟨cs,ev,rfl⟩,hs⟩:=hs;cases hs;exact WU h.bC h.eg h.tt ae rfl nt aq mz (λr=>r.age) ev
  ·simp only [Option.map_eq_some_iff]at hs;obtain⟨d,⟨cs,ev,rfl⟩,hs⟩:=hs;cases hs;exact WU h.bC h.eg h.tt ae rfl nt aq mz (λr=>r.WT) ev
 ·rename_i n e fN kT zero _ cS ae mz;split at hs
  case h_2=>cases hs
  rename_i aj ag_ Xs z2 eQ;simp only [Option.map_eq_some_iff]at hs;obtain⟨d,⟨cs,ev,rfl⟩,hs⟩:=hs;cases hs;exact agh h.bC h.eg h.tt ae rfl eQ aq mz ev
 ·cases hs
def aha(h:Hyp P K N M β g tmps w p tt){t:TypeId}{len:Nat}{parts:Array (Nat×Operand)}(aq:o.op = .buildSlice t len parts)(hs:step1 cx tt ops g p o=some (.go f))(cH:∀q,q∈f.bc→q):Yields P K M β g f o tmps w:=by
 simp only [step1,aq]at hs;split at hs
 case h_2=>cases hs
 rename_i e fN kT zero _ cS ae mz;split at hs
 case h_2=>cases hs
 rename_i aj ag_ Xs z2 eQ;split at hs
 case h_2=>cases hs
 rename_i xs x rs hx eV;rw [Bool.cond_eq_ite]at hs;split at hs
 case isFalse=>cases hs
 rename_i hc;simp only [Bool.and_eq_true,Nat.ble_eq,Nat.beq_eq]at hc;cases hs;exact agj h.bC h.eg h.tt ae rfl eQ aq mz hx hc.2 hc.1.2 hc.1.1 (cH _ (List.mem_singleton.2 rfl))
def ahb(h:Hyp P K N M β g tmps w p tt){t:TypeId}{a:Operand}(aq:o.op = .load t a)(hs:step1 cx tt ops g p o=some (.go f)):Yields P K M β g f o tmps w:=by
 simp only [step1,aq]at hs;split at hs
 ·rename_i q off aJ ha ae;split at hs
  case h_2=>cases hs
  rename_i cs av;rw [Bool.cond_eq_ite]at hs;split at hs
  ·rename_i h3;rw [Bool.cond_eq_ite]at hs;split at hs
   case isFalse=>cases hs
   rename_i hle;split at hs
   ·rename_i rs eV;rw [Bool.cond_eq_ite]at hs;split at hs
    case isFalse=>cases hs
    rename_i hm;cases hs;simp only [Bool.and_eq_true]at hm;exact agu h.bC h.eg h.tt ae aq ha av h3 (by simpa using hle) hm.2
   ·cases hs;exact agm h.bC h.eg h.tt ae aq ha av h3 (by simpa using hle)
  ·rename_i h3;split at hs
   case h_2=>cases hs
   rename_i e he;split at hs
   ·rename_i s rs gk eV;rw [Bool.cond_eq_ite]at hs;split at hs<;>cases hs
    exact ago h.bC h.eg h.tt ae aq ha av (by simpa using h3) he gk
   ·cases hs;exact agn h.bC h.eg h.tt ae aq ha av (by simpa using h3) he
 ·rename_i x aJ ha ae;rw [Bool.cond_eq_ite]at hs;split at hs
  case isFalse=>cases hs
  rename_i hc;simp only [Bool.and_eq_true,beq_iff_eq,Nat.beq_eq]at hc;cases hs;exact agp h.bC h.eg h.tt ae aq ha hc.1 hc.2
 ·cases hs
def ahc(h:Hyp P K N M β g tmps w p tt){t:TypeId}{a x:Operand}(aq:o.op = .store t a x)(hs:step1 cx tt ops g p o=some (.go f)):Yields P K M β g f o tmps w:=by
 simp only [step1,aq]at hs;split at hs
 case h_2=>cases hs
 rename_i q off d aJ ha hx ae;split at hs
 case h_2=>cases hs
 rename_i cs av;rw [Bool.cond_eq_ite]at hs;split at hs
 case isFalse=>cases hs
 rename_i hc;simp only [Bool.and_eq_true,Nat.beq_eq,Nat.ble_eq,Bool.not_eq_true']at hc;obtain⟨⟨⟨⟨jG,kY⟩,_⟩,Ot⟩,Ou⟩:=hc;split at hs
 ·rename_i u s k n get f8;cases hs;simp only [o4,Option.bind_eq_some_iff]at f8;obtain⟨e,he,aT⟩:=f8;have eC:aJ.size=1:=by rw [←jG];rfl
  exact W2 h.bC h.eg h.tt ae aq ha av hx eC kY (l:=[u]) (h.bC.bC.hand he aT (.cell q off))
 ·split at hs
  ·cases hs;have mZ:=hx;simp only [rd]at mZ;split at mZ
   ·cases mZ;have eC:aJ.size=1:=by rw [←jG];rfl
    exact W2 h.bC h.eg h.tt ae aq ha av hx eC kY (l:=[]) (NA _ _)
   ·cases mZ
  ·cases hs
 ·rename_i u s f8;split at hs
  ·rw [Bool.cond_eq_ite]at hs;split at hs
   case isFalse=>cases hs
   rename_i hm;cases hs;simp only [Bool.and_eq_true,List.all_eq_true,Nat.blt_eq]at hm;simp only [o4,Option.bind_eq_some_iff]at f8;obtain⟨e,he,aT⟩:=f8;exact agw h.bC h.eg h.tt ae aq ha av hx Ot Ou jG kY hm.1 he aT hm.2
  ·cases hs;exact W1 h.bC h.eg h.tt ae aq ha av hx Ot Ou jG kY _
 ·cases hs;exact W1 h.bC h.eg h.tt ae aq ha av hx Ot Ou jG kY _
def ahd(h:Hyp P K N M β g tmps w p tt){x:Operand}(aq:o.op = .nilCheck x)(hs:step1 cx tt ops g p o=some (.go f)):Yields P K M β g f o tmps w:=by
 simp only [step1,aq]at hs;split at hs
 ·rename_i q off hd;cases hs;have ah:=er (ds:=[]) h.bC h.eg hd;obtain⟨b,_,ao⟩:=o9 ah;refine fm h.bC (v:=(⟨tmps,[]⟩:Act).eval x) ?_ ah;simp [execOp,aq,ao]
 ·rename_i y hd;cases hs;have ah:=er (ds:=[]) h.bC h.eg hd;obtain⟨b,off,val,ao,_⟩:=GT ah;refine fm h.bC (v:=(⟨tmps,[]⟩:Act).eval x) ?_ ah;simp [execOp,aq,ao]
 ·cases hs
def ahe(h:Hyp P K N M β g tmps w p tt){op:UnOp}{t:TypeId}{x:Operand}(aq:o.op = .unOp op t x)(hs:step1 cx tt ops g p o=some (.go f)):Yields P K M β g f o tmps w:=by
 simp only [step1,aq]at hs;split at hs
 case h_2=>cases hs
 rename_i a ha;simp only [Option.map_eq_some_iff]at hs;obtain⟨d,⟨Cw,yK,rfl⟩,hs⟩:=hs;cases hs;have ah:=er (ds:=[]) h.bC h.eg ha;unfold Wu at yK;split at yK<;>cases yK
 ·have:=vA ah
  refine fm h.bC (v:=.bool _) ?_ (.v _ _ (.bool _));simp [execOp,aq,this,Op.unary]
 ·have:=my ah
  refine fm h.bC (v:=.int _ _) ?_ (.v _ _ (.int _ _));simp [execOp,aq,this,Op.unary,Op.intArith]
def ahf(h:Hyp P K N M β g tmps w p tt){s t:TypeId}{x:Operand}(aq:o.op = .convert s t x)(hs:step1 cx tt ops g p o=some (.go f))(cH:∀q,q∈f.bc→q):Yields P K M β g f o tmps w:=by
 simp only [step1,aq]at hs;split at hs
 ·rename_i ef _ _ _ _ k _ _ _ _ fW n e7 eQ hd;cases hs;obtain⟨r1⟩:=eK h.tt e7;obtain⟨r2⟩:=eK h.tt eQ;have ah:=my (er (ds:=[]) h.bC h.eg hd);refine fm h.bC (v:=.int k (k.wrap n)) ?_ (.v _ _ (.int _ _));simp only [execOp,aq,ah];refine js _ ?_;simp [convert,r1.run_underlying,r2.run_underlying,Ce r1 rfl,Ce r2 rfl,Conv.intToInt]
 ·rename_i _ _ _ _ _ _ _ _ l e7 eQ hd;cases hs;obtain⟨r1⟩:=eK h.tt e7;obtain⟨r2⟩:=eK h.tt eQ;have ah:=mY (er (ds:=[]) h.bC h.eg hd);refine fm h.bC (v:=.string ⟨⟨l⟩⟩) ?_ (.v _ _ (.str _));simp only [execOp,aq,ah];refine js _ ?_;simp [convert,r1.run_underlying,r2.run_underlying,q6 r1 rfl,q6 r2 rfl]
 ·rename_i e _ _ _ _ _ _ _ _ n get e7 eQ hd;split at hs
  case h_2=>cases hs
  rename_i l rs Ov eV;cases hs;obtain⟨r1⟩:=eK h.tt e7;obtain⟨r2⟩:=eK h.tt eQ;obtain⟨r3⟩:=eK h.tt Ov;obtain⟨hlen,jc⟩:=cH _ (List.mem_singleton.2 rfl);have ah:=er (ds:=[]) h.bC h.eg hd;refine fm h.bC (v:=.string ⟨⟨l⟩⟩) ?_ (.v _ _ (.str _));simp only [execOp,aq];refine js _ ?_;rcases tQ ah with⟨hn|⟨a,hn⟩,ao⟩|⟨b,off,cap,val,ao,hc,hk,db,Z,f9⟩
  ·have hl0:l=[]:=List.eq_nil_of_length_eq_zero (hlen.trans ao);rw [hn,hl0];simp [convert,r1.run_underlying,r2.run_underlying,r3.run_underlying,qa r1 rfl,q6 r2 rfl,Ce r3 rfl,Conv.bytesToString];rfl
  ·have hl0:l=[]:=List.eq_nil_of_length_eq_zero (hlen.trans ao);rw [hn,hl0];exact run_convert_bytes_back w s t e a 0 [] (by rw [r1.hd,qa r1 rfl]) (by rw [r3.hd,Ce r3 rfl]) (by rw [r2.hd,q6 r2 rfl]) (λj hj=>by simp at hj)
  ·rw [ao,←hlen]
   have iA:∀j (hj:j<l.length),w.cell? ((⟨b,off,none⟩:Addr).add j)=some (.int .u8 (l[j].toNat:Int)):=by
    intro j hj;have Ow:j<n:=by omega
    have e1:=jc j Ow;have e2:=f9 j 0 (.int .u8 ((l.getD j 0).toNat:Int)) Ow (by rw [e1];rfl)
    have e3:val j 0 = .int .u8 ((l.getD j 0).toNat:Int):=by generalize val j 0=u at e2 ⊢;cases e2;rfl
    have gZ:=h.bC.bC.mem _ _ _ (db j 0 Ow (by omega))
    rw [addr_add];have lQ:off+j*1+0=off+j:=by omega
    rw [lQ,e3]at gZ;rw [gZ];simp [List.getD,List.getElem?_eq_getElem hj]
   exact run_convert_bytes_back w s t e ⟨b,off,none⟩ cap l (by rw [r1.hd,qa r1 rfl]) (by rw [r3.hd,Ce r3 rfl]) (by rw [r2.hd,q6 r2 rfl]) iA
 ·cases hs
def ahg(h:Hyp P K N M β g tmps w p tt){t:TypeId}{x:Operand}(aq:o.op = .makeInterface t x)(hs:step1 cx tt ops g p o=some (.go f)):Yields P K M β g f o tmps w:=by
 simp only [step1,aq]at hs;split at hs
 case h_2=>cases hs
 rename_i y k fN kT z _ hd ae;obtain⟨r⟩:=eK h.tt ae;have ah:=er (ds:=[]) h.bC h.eg hd
 have hc:P.concrete t=true∨k = .p2:=by
  have hk:=r.hk;cases Xt:r.desc<;>simp [Xt,lK]at hk
  all_goals first
   |exact .inr hk.symm
   |(left;simp [Program.concrete,r.hd,Xt])
 split at hs
 ·cases hs
 ·rename_i hk;cases hs;rcases hc with hc|hc
  ·refine fm h.bC (v:=.iface t ((⟨tmps,[]⟩:Act).eval x)) ?_ (.v _ _ (.iface t _ _ (og ah)));simp only [execOp,aq];exact js _ (run_makeInterface w t _ hc)
  ·exact absurd hc hk
def ahh(h:Hyp P K N M β g tmps w p tt){fn:FuncId}{first fq:Array Operand}(aq:o.op = .makeFunc (.func fn) first fq)(hs:step1 cx tt ops g p o=some (.go f)):Yields P K M β g f o tmps w:=by
 simp only [step1,aq]at hs;rw [Bool.cond_eq_ite]at hs;split at hs
 case isFalse=>cases hs
 rename_i he;simp only [Option.map_eq_some_iff]at hs;obtain⟨ds,ik,hs⟩:=hs;cases hs;obtain⟨Z,ad⟩:=tR ik;have vL:first = #[]:=by simpa using he
 subst vL;refine fm h.bC (v:=.func (.func fn) #[] (fq.map (⟨tmps,[]⟩:Act).eval)) ?_ ?_
 ·simp [execOp,aq,Instr.makeFunc]
 ·have:fq.map (⟨tmps,[]⟩:Act).eval=⟨fq.toList.map (⟨tmps,[]⟩:Act).eval⟩:=by apply Array.ext';simp
  rw [this];refine .fn fn _ ds (by simp [Z]) λi v c ao hc=>?_
  simp only [List.getElem?_map,Option.map_eq_some_iff]at ao;obtain⟨y,ci,rfl⟩:=ao;exact er h.bC h.eg (ad i y c ci hc)
def ahi(h:Hyp P K N M β g tmps w p tt){x:Operand}{i:Nat}(aq:o.op = .extract x i)(hs:step1 cx tt ops g p o=some (.go f)):Yields P K M β g f o tmps w:=by
 simp only [step1,aq]at hs;split at hs
 case h_2=>cases hs
 rename_i ds hd;simp only [Option.map_eq_some_iff]at hs;obtain⟨d,tX,hs⟩:=hs;cases hs;obtain⟨vs,ao,hlen,ah⟩:=af4 (er (ds:=[]) h.bC h.eg hd);have hi:i<ds.length:=(List.getElem?_eq_some_iff.1 tX).1;have eU:vs[i]? = some vs[i]:=List.getElem?_eq_getElem (by omega)
 refine fm h.bC (v:=vs[i]) ?_ (ah i _ d eU tX);simp only [execOp,aq,ao];refine js _ ?_;simp [Instr.extract,eU]
end
section
variable {P:Program} {K:Ctx} {N:Nat} {M:Mem} {β:Nat→Option Nat} {st:aK} {g:dt} {tmps:Array Value} {w:World} {o:Oper} {f:lG} {p:Path} {tt:dS} {cx:gJ} {ops:List Oper}
def rk{op:BinOp}{t t2:TypeId}{x y:Operand}(aq:o.op = .binOp op t x y t2){a b v:Value}(hx:(⟨tmps,[]⟩:Act).eval x=a)(ci:(⟨tmps,[]⟩:Act).eval y=b)
 (hg:(eqGuard op t x y a b).run P w = .ok () w) (h:(binOp op t a b).run P w = .ok v w):(execOp (Act.eval ⟨tmps,[]⟩) o).run P w = .ok (.value v) w:=by
 simp only [execOp,aq,hx,ci];refine js _ ?_;simp only [Sem.run_bind,hg,Result.andThen_ok,h]
def vW{op:BinOp}{t:TypeId}{x y:Operand}{a b:Value}(h:∀cs ds,¬ (a = .agg cs∧b = .agg ds))(ad:a = .nilIface→b = .nilIface→isConst y=true):(eqGuard op t x y a b).run P w = .ok () w:=by
 unfold eqGuard;cases op<;>try rfl
 all_goals
  simp only
  cases a<;>cases b<;>first
   |rfl
   |(exact absurd ⟨rfl,rfl⟩ (h _ _))
   |(have:=ad rfl rfl;cases y<;>simp [isConst]at this;simp)
def ahj(co:fl P tt=true){d:Nat}{ih:TypeId}{Cx:List (Option mu)}{x y:V}{xs ys:List V}{h4 sC:Value}{r:Bool}
 (he:jo ((look tt ih).map (·.k)::Cx) (x::xs) (y::ys)=some r) (Cy:dw M h4 x) (Cz:dw M sC y):∃c q,(Op.equalIn (d+1) ih h4 sC).run P w = .ok c w∧jo Cx xs ys=some q∧(c&&q)=r:=by
 cases ae:look tt ih with
 |none=>simp [ae,jo]at he
 |some aJ=>
  obtain⟨row⟩:=eK co ae;have pf:=row.hd;simp only [ae,Option.map_some]at he;unfold jo at he;split at he<;>simp only [List.cons.injEq,reduceCtorEq]at *
  case h_2 ks kk k a l k' b m e1 e2 e3=>
   obtain⟨e1,rfl⟩:=e1;obtain⟨rfl,rfl⟩:=e2;obtain⟨rfl,rfl⟩:=e3;cases Cy;cases Cz
   rw [Bool.cond_eq_ite]at he;split at he
   case isFalse=>cases he
   rename_i hk;simp only [decide_eq_true_eq]at hk;subst hk;simp only [Option.map_eq_some_iff]at he;obtain⟨q,av,ah⟩:=he;refine⟨decide (a=b),q,?_,av,ah⟩
   have:∃sD,row.desc = .int sD:=by
    have:=row.hk
    rw [Option.some.inj e1]at this;cases hd:row.desc<;>simp [hd,lK]at this;exact⟨_,rfl⟩
   obtain⟨sD,kB⟩:=this;rw [kB]at pf;rw [run_equalIn_int w d ih k sD a b pf];rfl
  case h_3 ks a l b m e1 e2 e3=>
   obtain⟨e1,rfl⟩:=e1;obtain⟨rfl,rfl⟩:=e2;obtain⟨rfl,rfl⟩:=e3;cases Cy;cases Cz
   simp only [Option.map_eq_some_iff]at he;obtain⟨q,av,ah⟩:=he;refine⟨decide (a=b),q,?_,av,ah⟩
   have:row.desc = .string:=q6 row (Option.some.inj e1)
   rw [this]at pf;rw [run_equalIn_string w d ih _ _ pf,GX,GX];by_cases m3:a=b<;>simp [m3]
  case h_4 ks a l b m e1 e2 e3=>
   obtain⟨e1,rfl⟩:=e1;obtain⟨rfl,rfl⟩:=e2;obtain⟨rfl,rfl⟩:=e3;cases Cy;cases Cz
   simp only [Option.map_eq_some_iff]at he;obtain⟨q,av,ah⟩:=he;refine⟨(a == b),q,?_,av,ah⟩
   have:row.desc = .bool:=Oq row (Option.some.inj e1)
   rw [this]at pf;rw [run_equalIn_bool' w d ih _ _ pf]
def om(P:Program)(cM:List Field):List (Nat×TypeId×Nat):=cM.map λf=>(f.offset,f.type,P.cellsOf f.type)
def He:∀{ef aj:List (Option mu)} {xs ys:List V} {r:Bool},jo (ef++aj) xs ys=some r→
 ∃r1 r2,jo ef (xs.take ef.length) (ys.take ef.length)=some r1∧jo aj (xs.drop ef.length) (ys.drop ef.length)=some r2∧(r1&&r2)=r∧ef.length≤xs.length∧ef.length≤ys.length∧∀k,k∈ef→k.isSome=true
 |[],aj,xs,ys,r,h=>⟨true,r,by simp [jo],by simpa using h,rfl,Nat.zero_le _,Nat.zero_le _,λk hk=>by cases hk⟩
 |k::ef,aj,xs,ys,r,h=>by
  simp only [List.cons_append]at h;unfold jo at h;split at h<;>simp only [List.cons.injEq,reduceCtorEq]at *
  ·rename_i ks kk k' a l as4 b m e1;obtain⟨rfl,rfl⟩:=e1;rw [Bool.cond_eq_ite]at h;split at h
   case isFalse=>cases h
   rename_i hk;simp only [Option.map_eq_some_iff]at h;obtain⟨q,av,rfl⟩:=h;obtain⟨r1,r2,Z,ad,am,aR,bv,cz⟩:=He av;refine⟨decide (a=b)&&r1,r2,?_,ad,by rw [Bool.and_assoc,am],by simpa using aR,by simpa using bv,λsD kB=>?_⟩
   ·simp only [List.length_cons,List.take_succ_cons,jo,hk,cond_true,Z,Option.map_some]
   ·rcases List.mem_cons.1 kB with rfl|kB
    ·rfl
    ·exact cz sD kB
  ·rename_i ks a l b m e1;obtain⟨rfl,rfl⟩:=e1;simp only [Option.map_eq_some_iff]at h;obtain⟨q,av,rfl⟩:=h;obtain⟨r1,r2,Z,ad,am,aR,bv,cz⟩:=He av;refine⟨decide (a=b)&&r1,r2,?_,ad,by rw [Bool.and_assoc,am],by simpa using aR,by simpa using bv,λsD kB=>?_⟩
   ·simp only [List.length_cons,List.take_succ_cons,jo,Z,Option.map_some]
   ·rcases List.mem_cons.1 kB with rfl|kB
    ·rfl
    ·exact cz sD kB
  ·rename_i ks a l b m e1;obtain⟨rfl,rfl⟩:=e1;simp only [Option.map_eq_some_iff]at h;obtain⟨q,av,rfl⟩:=h;obtain⟨r1,r2,Z,ad,am,aR,bv,cz⟩:=He av;refine⟨(a == b)&&r1,r2,?_,ad,by rw [Bool.and_assoc,am],by simpa using aR,by simpa using bv,λsD kB=>?_⟩
   ·simp only [List.length_cons,List.take_succ_cons,jo,Z,Option.map_some]
   ·rcases List.mem_cons.1 kB with rfl|kB
    ·rfl
    ·exact cz sD kB
def tY(tt:dS)(ih:TypeId):Nat→List (Option mu)
 | 0=>[(look tt ih).map (·.k)]
 |q+1=>match look tt ih with
  |some {k:=.ea gs,..}=>mU tt q gs
  |o=>[o.map (·.k)]
def Hf(q:Nat)(f:Field)(cM:List Field):mU tt q (om P (f::cM))=tY tt f.type q++mU tt q (om P cM):=by
 cases q with
 |zero=>rfl
 |succ q=>
  simp only [mU,om,List.map_cons,List.flatMap_cons,tY];rfl
def Xu{t:TypeId}{aJ:en}(r:Row P t aJ){gs:Array Field}(h:P.underlying t=some (.struct gs)):aJ.k = .ea (om P gs.toList):=by
 have hd:r.desc = .struct gs:=Option.some.inj (r.hd.symm.trans h);have:=r.hk
 rw [hd]at this;simp [lK]at this;exact this.symm
def Xv{t:TypeId}{aJ:en}(r:Row P t aJ){gs:List (Nat×TypeId×Nat)}(h:aJ.k = .ea gs):∃cM:Array Field,P.underlying t=some (.struct cM)∧gs=om P cM.toList:=by
 have Z:=r.hk;rw [h]at Z;cases hd:r.desc<;>simp [hd,lK]at Z
 rename_i cM;refine⟨cM,?_,Z.symm⟩
 rw [r.hd,hd]
def Xw(co:fl P tt=true){ih:TypeId}(h:∀gs,P.underlying ih≠some (.struct gs))(q:Nat):tY tt ih q=[(look tt ih).map (·.k)]:=by
 cases q with
 |zero=>rfl
 |succ q=>
  simp only [tY];split
  ·rename_i gs _ _ _ _ ae;obtain⟨row⟩:=eK co ae;obtain⟨cM,Z,_⟩:=Xv row rfl;exact absurd Z (h cM)
  ·rfl
def Ox(co:fl P tt=true):∀(q:Nat) (cM:List Field),(∀k,k∈mU tt q (om P cM)→k.isSome=true)→(mU tt q (om P cM)).length=ss P q cM
 | 0,cM,_=>by simp [mU,om,ss]
 |q+1,[],_=>by simp [mU,om,ss]
 |q+1,f::cM,h=>by
  rw [Hf]at h ⊢;have aW:=Ox co (q+1) cM λk hk=>h k (List.mem_append_right _ hk)
  have hc:ss P (q+1) (f::cM)=(match P.underlying f.type with|some (.struct gs)=>ss P q gs.toList|_=>1)+ss P (q+1) cM:=by
   simp only [ss,List.map_cons,List.sum_cons];rfl
  rw [List.length_append,aW,hc]
  congr 1
  simp only [tY]at h ⊢;split
  ·rename_i gs _ _ _ _ ae;obtain⟨row⟩:=eK co ae;obtain⟨CA,Z,rfl⟩:=Xv row rfl;rw [Z];refine Ox co q CA.toList λk hk=>h k (List.mem_append_left _ ?_)
   rw [ae];exact hk
  ·rename_i o pg;cases aq:look tt f.type with
   |none=>
    have:=h none (List.mem_append_left _ (by rw [aq];simp))
    cases this
   |some aJ=>
    obtain⟨row⟩:=eK co aq;split
    ·rename_i gs hu;have:=Xu row hu
     obtain⟨k,s,b,z,hR⟩:=aJ;simp only at this
     subst this;exact absurd aq (pg _ _ _ _ _)
    ·rfl
def Xx (co : fl P tt = true) {d : Nat} {f : Field} {cM : List Field} {i : Nat} {Cx : List (Option mu)} {xs ys : List V} {vs us : List Value} {r : Bool} (tZ : f.offset = i) (kc : ¬ f.name = "_") (h3 : (isAgg f.type).run P w = .ok false w)
 (he:jo ((look tt f.type).map (·.k)::Cx) xs ys=some r)
 (ao:∀(j:Nat) v x,vs[i+j]? = some v→xs[j]? = some x→dw M v x) (hu:∀(j:Nat) v x,us[i+j]? = some v→ys[j]? = some x→dw M v x) (jJ:i+xs.length≤vs.length) (q_:i+ys.length≤us.length)
 (aW:∀(q:Bool),∀{CB CC:List V},jo Cx CB CC=some q→(∀(j:Nat) v x,vs[i+1+j]? = some v→CB[j]? = some x→dw M v x)→(∀(j:Nat) v x,us[i+1+j]? = some v→CC[j]? = some x→dw M v x)→i+1+CB.length≤vs.length→i+1+CC.length≤us.length→(Op.eqFields (d+1) ⟨vs⟩ ⟨us⟩ cM).run P w = .ok q w):
 (Op.eqFields (d+1) ⟨vs⟩ ⟨us⟩ (f::cM)).run P w = .ok r w:=by
 cases xs with
 |nil=>simp [jo]at he
 |cons x xs=>
  cases ys with
  |nil=>simp [jo]at he
  |cons y ys=>
   simp only [List.length_cons]at jJ q_;obtain⟨h4,eU⟩:∃h4,vs[i]? = some h4:=⟨_,List.getElem?_eq_getElem (by omega)⟩
   obtain⟨sC,Xy⟩:∃sC,us[i]? = some sC:=⟨_,List.getElem?_eq_getElem (by omega)⟩
   have Cy:=ao 0 h4 x eU rfl;have Cz:=hu 0 sC y Xy rfl
   have rb:∀{zs:List Value} {z:Value},zs[i]? = some z→(part f.type ⟨zs⟩ f.offset).run P w = .ok z w:=by
    intro zs z dG;have:(⟨zs⟩:Array Value)[f.offset]? = some z:=by rw [tZ];simpa using dG
    simp only [part,Sem.run_bind,h3,Result.andThen_ok,this];rfl
   obtain⟨c,q,Z,ad,am⟩:=ahj (P:=P) (w:=w) (M:=M) co (d:=d) he Cy Cz;have aR:=aW q ad (λj v z Z ad=>ao (j+1) v z (by rw [←Z];congr 1;omega) (by simpa using ad)) (λj v z Z ad=>hu (j+1) v z (by rw [←Z];congr 1;omega) (by simpa using ad)) (by omega) (by omega)
   simp only [Op.eqFields];rw [if_pos kc];simp only [Sem.run_bind,rb eU,rb Xy,Result.andThen_ok,Z];cases c
   ·simp [←am]
   ·simp [←am,aR]
def ahk(co:fl P tt=true):∀(q:Nat) {d:Nat} {cM:List Field} {i:Nat} {xs ys:List V} {vs us:List Value} {r:Bool},vz P q i cM=true→jo (mU tt q (om P cM)) xs ys=some r→
 (∀(j:Nat) v x,vs[i+j]? = some v→xs[j]? = some x→dw M v x)→(∀(j:Nat) v x,us[i+j]? = some v→ys[j]? = some x→dw M v x)→i+xs.length≤vs.length→i+ys.length≤us.length→
 (Op.eqFields (d+q+1) ⟨vs⟩ ⟨us⟩ cM).run P w = .ok r w:=by
 intro q;induction q with
 |zero=>
  intro d cM;induction cM with
  |nil=>intro i xs ys vs us r _ he _ _ _ _;cases xs<;>cases ys<;>simp [mU,om,jo]at he;subst he;simp [Op.eqFields]
  |cons f cM aW=>
   intro i xs ys vs us r cc he ao hu jJ q_;simp only [vz,yy,Bool.and_eq_true,Nat.beq_eq,Bool.not_eq_true',decide_eq_false_iff_not]at cc;obtain⟨⟨tZ,kc⟩,ht⟩:=cc
   have yN:(∀gs,P.underlying f.type≠some (.struct gs))∧vz P 0 (i+1) cM=true∧(isAgg f.type).run P w = .ok false w:=by
    simp only [isAgg,Sem.run_bind];split at ht
    ·rename_i k hk;refine⟨λgs h=>(by rw [hk]at h;cases h),ht,?_⟩;rw [Go.run_underlying hk];rfl
    ·rename_i hk;refine⟨λgs h=>(by rw [hk]at h;cases h),ht,?_⟩;rw [Go.run_underlying hk];rfl
    ·rename_i hk;refine⟨λgs h=>(by rw [hk]at h;cases h),ht,?_⟩;rw [Go.run_underlying hk];rfl
    ·simp at ht
    ·cases ht
   exact Xx co tZ kc yN.2.2 (by rw [Hf,Xw co yN.1]at he;exact he) ao hu jJ q_ λq' CB CC qc pd Oy Z ad=>aW yN.2.1 qc pd Oy Z ad
 |succ q ahl=>
  intro d cM;induction cM with
  |nil=>intro i xs ys vs us r _ he _ _ _ _;cases xs<;>cases ys<;>simp [mU,om,jo]at he;subst he;simp [Op.eqFields]
  |cons f cM aW=>
   intro i xs ys vs us r cc he ao hu jJ q_;have Oz:=cc;simp only [vz,yy,Bool.and_eq_true,Nat.beq_eq,Bool.not_eq_true',decide_eq_false_iff_not]at cc;obtain⟨⟨tZ,kc⟩,ht⟩:=cc;by_cases dC:∃gs,P.underlying f.type=some (.struct gs)
   ·obtain⟨gs,yO⟩:=dC;rw [yO]at ht;simp only [Bool.and_eq_true,Bool.not_eq_true',Nat.beq_eq]at ht;obtain⟨⟨⟨ahm,ahn⟩,aho⟩,Xz⟩:=ht;rw [Hf]at he;obtain⟨r1,r2,e1,e2,e3,i_,mC,vS⟩:=He he
    have kX:∃aJ,look tt f.type=some aJ:=by
     cases ae:look tt f.type with
     |none=>have:=vS none (by simp [tY,ae]);cases this
     |some aJ=>exact⟨aJ,rfl⟩
    obtain⟨aJ,Hg⟩:=kX;obtain⟨row⟩:=eK co Hg;have hk:=Xu row yO
    have vO:tY tt f.type (q+1)=mU tt q (om P gs.toList):=by
     obtain⟨k,s,b,z,hR⟩:=aJ;simp only at hk
     subst hk;simp only [tY,Hg]
    rw [vO]at e1 e2 i_ mC vS;have hn:=Ox co q gs.toList vS;rw [hn,←ahn]at e1 e2 i_ mC;generalize aQ:P.cellsOf f.type=n at e1 e2 i_ mC
    obtain⟨info,G0⟩:=info_of_underlying yO
    have rb:∀zs:List Value,(part f.type ⟨zs⟩ f.offset).run P w = .ok (.agg ⟨(zs.drop i).take n⟩) w:=by
     intro zs
     have:(⟨zs⟩:Array Value).extract i (i+n)=⟨(zs.drop i).take n⟩:=by
      apply Array.ext';rw [Array.toList_extract];simp [List.extract]
     simp only [part,isAgg,Sem.run_bind,run_underlying yO,run_sizeOf w G0,Result.andThen_ok,Sem.run_pure,tZ,aQ];simp [this,run_sizeOf w G0,aQ]
    have jr:∀{zs:List Value} {cs:List V},(∀(j:Nat) v x,zs[i+j]? = some v→cs[j]? = some x→dw M v x)→∀(j:Nat) v x,((zs.drop i).take n)[0+j]? = some v→(cs.take n)[j]? = some x→dw M v x:=by
     intro zs cs h j v x Z ad;rw [Nat.zero_add,List.getElem?_take]at Z;rw [List.getElem?_take]at ad;split at Z
     ·rename_i hj;rw [if_pos hj]at ad;rw [List.getElem?_drop]at Z;exact h j v x Z ad
     ·cases Z
    have yF:P.fieldsOf f.type=gs:=by simp [Program.fieldsOf,yO]
    have hin:(Op.equalIn (d+(q+1)+1) f.type (.agg ⟨(vs.drop i).take n⟩) (.agg ⟨(us.drop i).take n⟩)).run P w = .ok r1 w:=by
     rw [run_equalIn_agg w (d+(q+1)) f.type _ _ (by rw [yF];exact yO) ahm,yF]
     exact ahl (d:=d) (i:=0) aho e1 (jr ao) (jr hu) (by simp;omega) (by simp;omega)
    have XA:∀{zs:List Value} {cs:List V},(∀(j:Nat) v x,zs[i+j]? = some v→cs[j]? = some x→dw M v x)→∀(j:Nat) v x,zs[i+n+j]? = some v→(cs.drop n)[j]? = some x→dw M v x:=by
     intro zs cs h j v x Z ad;rw [List.getElem?_drop]at ad;exact h (n+j) v x (by rw [←Nat.add_assoc];exact Z) ad
    rw [aQ]at Xz;have jb:=aW (i:=i+n) Xz e2 (XA ao) (XA hu) (by simp;omega) (by simp;omega)
    simp only [Op.eqFields];rw [if_pos kc];simp only [Sem.run_bind,rb,Result.andThen_ok,hin];cases r1
    ·simp [←e3]
    ·simp [←e3,jb]
   ·have yN:vz P (q+1) (i+1) cM=true∧(isAgg f.type).run P w = .ok false w:=by
     simp only [isAgg,Sem.run_bind];split at ht
     ·rename_i k hk;refine⟨ht,?_⟩;rw [Go.run_underlying hk];rfl
     ·rename_i hk;refine⟨ht,?_⟩;rw [Go.run_underlying hk];rfl
     ·rename_i hk;refine⟨ht,?_⟩;rw [Go.run_underlying hk];rfl
     ·rename_i gs hk;exact absurd ⟨gs,hk⟩ dC
     ·cases ht
    exact Xx co tZ kc yN.2 (by rw [Hf,Xw co (λgs h=>dC ⟨gs,h⟩)]at he;exact he) ao hu jJ q_ λq' CB CC qc pd Oy Z ad=>aW yN.1 qc pd Oy Z ad
def XB(co:fl P tt=true){t:TypeId}{cM:List (Nat×TypeId×Nat)}{fN kT:Nat}{z:List V}{hR:List (Nat×TypeId)}(ae:look tt t=some {k:=.ea cM,size:=fN,bytes:=kT,zero:=z,jY:=hR})(he:ND P t=true){xs ys:List V}{r:Bool}(ah:jo (mU tt 4 cM) xs ys=some r)
 {h4 sC:Value} (ao:dw M h4 (.agg xs)) (hu:dw M sC (.agg ys)):∃vs us,h4 = .agg ⟨vs⟩∧sC = .agg ⟨us⟩∧(Op.equalIn 10000 t (.agg ⟨vs⟩) (.agg ⟨us⟩)).run P w = .ok r w∧∀op a b,(eqGuard op t a b (.agg ⟨vs⟩) (.agg ⟨us⟩)).run P w = .ok () w:=by
 obtain⟨row⟩:=eK co ae;cases ao with
 |agg vs _ hn Z f9=>
  cases hu with
  |agg us _ GR np ahp=>
   refine⟨vs,us,rfl,rfl,?_⟩
   unfold ND at he;split at he
   case h_2=>cases he
   rename_i CA pf;simp only [Bool.and_eq_true,Bool.not_eq_true']at he;obtain⟨⟨ad,am⟩,aR⟩:=he;have Oz:P.fieldsOf t=CA:=by simp [Program.fieldsOf,pf]
   have OA:row.desc = .struct CA:=Option.some.inj (row.hd.symm.trans pf)
   have nt:cM=CA.toList.map λf=>(f.offset,f.type,P.cellsOf f.type):=by
    have:=row.hk
    rw [OA]at this;simp [lK]at this;exact this.symm
   refine⟨?_,λop a b=>run_eqGuard_agg w op t a b _ _ am⟩
   rw [run_equalIn_agg w 9999 t _ _ (by rw [Oz];exact pf) ad,Oz]
   refine ahk co 4 (d:=9994) (i:=0) (xs:=xs) (ys:=ys) aR (by rw [nt]at ah;exact ah) (λj v x bv cz=>f9 j v x (by simpa using bv) cz) (λj v x bv cz=>ahp j v x (by simpa using bv) cz) (by omega) (by omega)
def ahq(h:Hyp P K N M β g tmps w p tt){op:BinOp}{t t2:TypeId}{x y:Operand}(aq:o.op = .binOp op t x y t2)(hs:step1 (hT P) tt ops g p o=some (.go f))(cH:∀q,q∈f.bc→q):Yields P K M β g f o tmps w:=by
 simp only [step1,aq]at hs;split at hs
 case h_3=>cases hs
 case h_1=>
  rename_i xs ys ha hb;have qe:=og (er (ds:=[]) h.bC h.eg ha);have ph:=og (er (ds:=[]) h.bC h.eg hb);split at hs
  case h_2=>cases hs
  rename_i cM fN kT z _ ae;rw [Bool.cond_eq_ite]at hs;split at hs
  case isFalse=>cases hs
  rename_i he;split at hs
  ·rename_i r ah;cases hs;obtain⟨vs,us,e1,e2,Z,ad⟩:=XB (w:=w) (M:=M) h.tt ae he ah qe ph;exact fm h.bC (rk aq e1 e2 (ad _ _ _) (by rw [run_eql_struct,Z];rfl)) (.v _ _ (.bool _))
  ·rename_i r ah;cases hs;obtain⟨vs,us,e1,e2,Z,ad⟩:=XB (w:=w) (M:=M) h.tt ae he ah qe ph;exact fm h.bC (rk aq e1 e2 (ad _ _ _) (by rw [run_neq_struct,Z];rfl)) (.v _ _ (.bool _))
  ·cases hs
 rename_i a b ha hb;simp only [Option.map_eq_some_iff]at hs;obtain⟨⟨z,bc⟩,dG,hs⟩:=hs;cases hs;have qe:=er (ds:=[]) h.bC h.eg ha;have ph:=er (ds:=[]) h.bC h.eg hb;unfold Wt at dG;split at dG
 ·rename_i ef m aj n;have e1:=my qe;have e2:=my ph;split at dG
  ·rename_i z0 hsh;cases dG;obtain⟨v,ao,ah⟩:=ag0 (P:=P) (w:=w) (M:=M) (k':=aj) hsh cH t;exact fm h.bC (rk aq e1 e2 (vW (by simp) (by simp)) ao) (.v _ _ ah)
  rw [Bool.cond_eq_ite]at dG;split at dG
  case isFalse=>cases dG
  rename_i hk;simp only [decide_eq_true_eq]at hk;subst hk;obtain⟨v,ao,ah⟩:=agZ (P:=P) (w:=w) (M:=M) dG cH t;exact fm h.bC (rk aq e1 e2 (vW (by simp) (by simp)) ao) (.v _ _ ah)
 ·have e1:=mY qe;have e2:=mY ph;obtain⟨v,ao,ah⟩:=ag1 (P:=P) (w:=w) (M:=M) dG cH t;exact fm h.bC (rk aq e1 e2 (vW (by simp) (by simp)) ao) (.v _ _ ah)
 ·rename_i cl jI;have e1:=vA qe;have e2:=vA ph;obtain⟨dep,hm⟩:∃d,Op.maxDepth=d+1:=⟨9999,rfl⟩;cases ae:look tt t with
  |none=>rw [ae]at dG;simp at dG
  |some aJ=>
   rw [ae]at dG;obtain⟨r⟩:=eK h.tt ae;split at dG<;>cases dG
   ·rename_i hk;simp at hk
    refine fm h.bC (v:=.bool (cl == jI)) (rk aq e1 e2 (vW (by simp) (by simp)) ?_) (.v _ _ (.bool _))
    simp only [binOp,Sem.run_bind];rw [Op.equal,hm,Op.equalIn];simp [r.run_underlying,Oq r hk]
   ·rename_i hk;simp at hk
    refine fm h.bC (v:=.bool (!(cl == jI))) (rk aq e1 e2 (vW (by simp) (by simp)) ?_) (.v _ _ (.bool _))
    simp only [binOp,Sem.run_bind];rw [Op.equal,hm,Op.equalIn];simp [r.run_underlying,Oq r hk]
 ·cases ae:look tt t with
  |none=>rw [ae]at dG;simp at dG
  |some aJ=>
   rw [ae]at dG;simp only [Option.map_some]at dG;obtain⟨r⟩:=eK h.tt ae;rw [Bool.cond_eq_ite]at dG;split at dG
   case isFalse=>cases dG
   rename_i hc;simp only [Bool.and_eq_true]at hc
   have XC:(eqGuard op t x y ((⟨tmps,[]⟩:Act).eval x) ((⟨tmps,[]⟩:Act).eval y)).run P w = .ok () w:=by
    refine vW ?_ (λ_ _=>hc.2)
    rintro cs ds ⟨_,b0⟩
    rw [b0]at ph;have OB:=hc.1;unfold GI at OB;split at OB<;>first|(cases og ph;done)|(cases OB;done)
   split at dG<;>cases dG
   ·rename_i res hn;obtain⟨Z,ad⟩:=Xr (w:=w) r qe ph hc.1 hn;refine fm h.bC (v:=.bool res) (rk aq rfl rfl XC ?_) (.v _ _ (.bool _));rw [ad .eql];simp [Z]
   ·rename_i res hn;obtain⟨Z,ad⟩:=Xr (w:=w) r qe ph hc.1 hn;refine fm h.bC (v:=.bool (!res)) (rk aq rfl rfl XC ?_) (.v _ _ (.bool _));rw [ad .neq];simp [Z]
def ahr(h:Hyp P K N M β g tmps w p tt){s:TypeId}{x:Operand}{i:Nat}(aq:o.op = .fieldAddr s x i)(hs:step1 cx tt ops g p o=some (.go f)):Yields P K M β g f o tmps w:=by
 simp only [step1,aq]at hs;split at hs
 ·rename_i q off cM fN kT z _ hd ae;obtain⟨r⟩:=eK h.tt ae;split at hs
  case h_2=>cases hs
  rename_i c8 ih yP cc;rw [Bool.cond_eq_ite]at hs;split at hs
  case isFalse=>cases hs
  rename_i hc;cases hs;obtain⟨b,hb,ao⟩:=o9 (er (ds:=[]) h.bC h.eg hd);refine fm h.bC (v:=.pointer (some ⟨b,off+c8,none⟩)) ?_ (.ptr _ _ _ hb);simp only [execOp,aq,ao];exact js _ (WH r rfl cc (by simpa using hc) b off)
 ·rename_i cs cM fN kT z _ hd ae;obtain⟨r⟩:=eK h.tt ae;split at hs
  case h_2=>cases hs
  rename_i c8 ih yP cc;split at hs
  case h_2=>cases hs
  rename_i yD Hh;rw [Bool.cond_eq_ite]at hs;split at hs
  case isFalse=>cases hs
  rename_i hc;simp only [Bool.and_eq_true,Nat.ble_eq]at hc;obtain⟨b,off,val,ao,db,Z,ah⟩:=GT (er (ds:=[]) h.bC h.eg hd)
  have eX:(execOp (Act.eval ⟨tmps,[]⟩) o).run P w = .ok (.value (.pointer (some ⟨b,off+c8,none⟩))) w:=by
   simp only [execOp,aq,ao];exact js _ (WH r rfl cc hc.1 b off)
  simp only [V.cells]at db Z ah;rw [Bool.cond_eq_ite]at hs;split at hs
  ·cases hs;have hlen:((cs.drop c8).take yP).length=yP:=by simp;omega
   refine fm h.bC eX (.fg b (off+c8) _ (λj=>val (c8+j)) (λj hj=>?_) (λj hj=>?_) (λj c hj=>?_))
   ·simp only [V.cells,hlen]at hj;rw [Nat.add_assoc];exact db _ (by omega)
   ·simp only [V.cells,hlen]at hj;exact Z _ (by omega)
   ·simp only [V.cells]at hj;rw [List.getElem?_take]at hj;split at hj
    ·rw [List.getElem?_drop]at hj;exact ah _ c hj
    ·cases hj
  ·rw [Bool.cond_eq_ite]at hs;split at hs
   case isFalse=>cases hs
   rename_i eC;split at hs
   case h_2=>cases hs
   rename_i c jG;rw [Bool.cond_eq_ite]at hs;split at hs
   ·cases hs
   ·rename_i ahs;cases hs;have l_:=yC (x:=c) (by simpa using ahs)
    refine fm h.bC eX (.fg b (off+c8) c (λj=>val (c8+j)) (λj hj=>?_) (λj hj=>?_) (λj h2 hj=>?_))
    ·rw [l_]at hj;rw [Nat.add_assoc];exact db _ (by have:=(List.getElem?_eq_some_iff.1 jG).1;simp at hj;omega)
    ·rw [l_]at hj;exact Z _ (by have:=(List.getElem?_eq_some_iff.1 jG).1;simp at hj;omega)
    ·rw [l_]at hj;cases j with
     |zero=>simp at hj;subst hj;exact ah _ _ jG
     |succ j=>simp at hj
 ·cases hs
def aht(h:Hyp P K N M β g tmps w p tt){s:TypeId}{x:Operand}{i:Nat}(aq:o.op = .field s x i)(hs:step1 cx tt ops g p o=some (.go f)):Yields P K M β g f o tmps w:=by
 simp only [step1,aq]at hs;split at hs
 case h_3=>cases hs
 case h_2=>
  rename_i cs cM fN kT z _ hd ae;obtain⟨r⟩:=eK h.tt ae;split at hs
  case h_2=>cases hs
  rename_i c8 ih yP cc;split at hs
  case h_2=>cases hs
  rename_i yD c Hh jG;obtain⟨OC⟩:=eK h.tt Hh;rw [Bool.cond_eq_ite]at hs;split at hs
  ·cases hs
  rename_i hc;simp only [Bool.or_eq_true,not_or,Bool.not_eq_true,Bool.not_eq_true',Bool.not_eq_false,Nat.beq_eq]at hc;cases hs;have me:=er (ds:=[]) h.bC h.eg hd;generalize vX:(⟨tmps,[]⟩:Act).eval x=h4 at me
  cases me with
  |agg vs _ hn Z ah=>
   have b2:c8<cs.length:=(List.getElem?_eq_some_iff.1 jG).1;have eU:vs[c8]? = some vs[c8]:=List.getElem?_eq_getElem (by omega)
   obtain⟨ha,hb⟩:=WI (w:=w) r rfl cc OC vs (by omega)
   refine fm h.bC (v:=vs[c8]) ?_ (ah _ _ c eU jG);simp only [execOp,aq,vX];exact js _ (hb hc.1.1 _ eU)
 rename_i cs cM fN kT z _ hd ae;obtain⟨r⟩:=eK h.tt ae;split at hs
 case h_2=>cases hs
 rename_i c8 ih yP cc;split at hs
 case h_2=>cases hs
 rename_i yD Hh;obtain⟨OC⟩:=eK h.tt Hh;rw [Bool.cond_eq_ite]at hs;split at hs
 case isFalse=>cases hs
 rename_i hc;simp only [Nat.ble_eq]at hc;obtain⟨vs,ao,hlen,Z,ah⟩:=af3 (er (ds:=[]) h.bC h.eg hd);obtain⟨ha,hb⟩:=WI (w:=w) r rfl cc OC vs (by omega)
 rw [Bool.cond_eq_ite]at hs;split at hs
 ·rename_i h3;cases hs;refine fm h.bC (v:=.agg ⟨(vs.drop c8).take yP⟩) ?_ (.v _ _ (.agg _ _ (by simp;omega) (λv ao=>Z v (List.mem_of_mem_drop (List.mem_of_mem_take ao))) (λj v c ao ky=>?_)))
  ·simp only [execOp,aq,ao];exact js _ (ha h3)
  ·rw [List.getElem?_take]at ao ky;split at ao
   ·rename_i hj;rw [if_pos hj,List.getElem?_drop]at ky;rw [List.getElem?_drop]at ao;exact ah _ v c ao ky
   ·cases ao
 ·rename_i h3;split at hs
  case h_2=>cases hs
  rename_i c jG;cases hs;have b2:c8<cs.length:=(List.getElem?_eq_some_iff.1 jG).1;have eU:vs[c8]? = some vs[c8]:=List.getElem?_eq_getElem (by omega)
  refine fm h.bC (v:=vs[c8]) ?_ (.v _ _ (ah _ _ c eU jG));simp only [execOp,aq,ao];exact js _ (hb (by simpa using h3) _ eU)
def ahu{x y:V}(ao:hK x y){k b off:Nat}{val:Nat→Value}(hk:x.cells.length=k)(db:∀q,q<k→M b (off+q)=some (val q))(Z:∀q,q<k→(val q).oneCell'=true)
 (ah:∀(q:Nat) c,x.cells[q]? = some c→dw M (val q) c):cE M β (.pointer (some ⟨b,off,none⟩)) (.fg y):=by
 subst hk;have ci:=ao M _ (WG Z ah);cases hx:x.isAgg with
 |true=>
  rw [hx]at ci;simp only [cond_true]at ci;cases ci with
  |agg vs cs hn np fj=>
   have hlen:cs.length=x.cells.length:=by simpa using hn.symm
   refine .fg b off _ val (λj hj=>db j (by simp only [V.cells]at hj;omega)) (λj hj=>Z j (by simp only [V.cells]at hj;omega)) (λj c hj=>?_)
   simp only [V.cells]at hj;have vP:j<x.cells.length:=by have:=(List.getElem?_eq_some_iff.1 hj).1;omega
   exact fj j (val j) c (by simp [vP]) hj
  |any _ np=>simp [Value.oneCell']at np
 |false=>
  rw [hx]at ci;simp only [cond_false]at ci;have yQ:=yC hx;have gL:=Z 0 (by rw [yQ];simp)
  have ahv:y.isAgg=false:=by
   cases y<;>first|rfl|skip
   exfalso
   generalize val 0=u at ci gL
   cases ci;simp [Value.oneCell']at gL
  have OD:=yC ahv;refine .fg b off y val (λj hj=>db j (by rw [yQ];rw [OD]at hj;exact hj)) (λj hj=>Z j (by rw [yQ];rw [OD]at hj;exact hj)) (λj c hj=>?_)
  rw [OD]at hj;cases j with
  |zero=>simp at hj;subst hj;exact ci
  |succ j=>simp at hj
def ahw(h:Hyp P K N M β g tmps w p tt){t:TypeId}{x i:Operand}(aq:o.op = .indexAddr t x i)(hs:step1 cx tt ops g p o=some (.go f))(cH:∀q,q∈f.bc→q):Yields P K M β g f o tmps w:=by
 simp only [step1,aq]at hs;split at hs
 case h_2=>cases hs
 rename_i k n get kk j e fN kT z _ hx hi ae;obtain⟨r⟩:=eK h.tt ae;split at hs
 case h_2=>cases hs
 rename_i aj size Xs z2 eQ;obtain⟨ei⟩:=eK h.tt eQ;rw [Bool.cond_eq_ite]at hs;split at hs
 case isFalse=>cases hs
 rename_i hc;simp only [Bool.and_eq_true,Nat.beq_eq,Nat.ble_eq]at hc;obtain⟨rfl,ahx⟩:=hc
 have lk:∃(y:V) (rs:List fw) (bc:List Prop),f={e:=some {d:=.fg y},rs,bc}∧hK (get j.toNat) y∧aN j n=true:=by
  split at hs
  ·rename_i y rs eV;cases hs;exact⟨_,_,_,rfl,cH _ (by simp),cH (aN j n=true) (by simp)⟩
  ·cases hs;exact⟨_,_,_,rfl,λ_ _ h=>h,cH (aN j n=true) (by simp)⟩
  ·cases hs
 obtain⟨y,rs,bc,rfl,cP,fk⟩:=lk;have fk:=Xn fk;have OE:=my (er (ds:=[]) h.bC h.eg hi);rcases tQ (er (ds:=[]) h.bC h.eg hx) with⟨_,kA⟩|⟨b,off,cap,val,ao,_,hk,db,Z,ah⟩
 ·omega
 ·have b2:j.toNat<n:=by omega
  have ci:cE M β (.pointer (some ⟨b,off+j.toNat*k,none⟩)) (.fg y):=
   ahu cP (hk _ b2) (λq av=>db _ q b2 av) (λq av=>Z _ q b2 av) (λq c av=>ah _ q c b2 av)
  refine fm h.bC (v:=.pointer (some ⟨b,off+j.toNat*k,none⟩)) ?_ ci;simp only [execOp,aq,ao,OE];exact js _ (af7 r rfl ei fk.1 fk.2)
def ahy(h:Hyp P K N M β g tmps w p tt){t:TypeId}{x i:Operand}(aq:o.op = .index t x i)(hs:step1 cx tt ops g p o=some (.go f))(cH:∀q,q∈f.bc→q):Yields P K M β g f o tmps w:=by
 simp only [step1,aq]at hs;split at hs
 case h_2=>cases hs
 rename_i l kk j fN kT z _ hx hi ae;obtain⟨r⟩:=eK h.tt ae;cases hs;have hb:=Xn (cH (aN j l.length=true) (by simp))
 have ex:=mY (er (ds:=[]) h.bC h.eg hx);have OE:=my (er (ds:=[]) h.bC h.eg hi);refine fm h.bC (v:=.int .u8 (l.getD j.toNat 0).toNat) ?_ (.v _ _ (.int _ _));simp only [execOp,aq,ex,OE];exact js _ (af8 r rfl hb.1 hb.2)
def ahz{k n m:Nat}{get:Nat→V}{a:Nat}{b off cap:Nat}
 {val:Nat→Nat→Value} (hk:∀i,i<n→(get i).cells.length=k) (db:∀i j,i<n→j<k→M b (off+i*k+j)=some (val i j)) (Z:∀i j,i<n→j<k→(val i j).oneCell'=true)
 (ah:∀(i j:Nat) c,i<n→(get i).cells[j]? = some c→dw M (val i j) c) (hm:a+m≤n) (hc:m≤cap):
 dw M (.slice (some ⟨b,off+a*k,none⟩) m cap) (.bT k m λi=>get (a+i)):=by
 refine .bT b (off+a*k) k m cap _ (λi j=>val (a+i) j) hc (λi hi=>hk _ (by omega)) (λi j hi hj=>?_) (λi j hi hj=>Z _ _ (by omega) hj) (λi j c hi l_=>ah _ _ _ (by omega) l_)
 have:=db (a+i) j (by omega) hj
 rw [Nat.add_mul]at this
 rwa [show off+a*k+i*k+j=off+(a*k+i*k)+j by omega]
def Hi{t e:TypeId}{aJ cA:en}(r:Row P t aJ)(hk:aJ.k = .bT e)(ei:Row P e cA){base:Option Addr}{n cap:Nat}{lo hi:Option Value}{a b:Nat}
 (kC:lo=none∧a=0∨∃k,lo=some (.int k a)) (jK:hi=none∧b=n∨∃k,hi=some (.int k b)) (m3:a≤b) (rl:b≤n) (m4:n≤cap):
 (Instr.sliceAt t (.slice base n cap) lo hi none).run P w = .ok (.slice (if cap=a then base else base.map (·.add (a*cA.size))) (b-a) (cap-a)) w:=by
 have hu:=r.run_underlying w;rw [qa r hk]at hu;have Hj:b≤cap:=by omega
 rcases kC with⟨rfl,rfl⟩|⟨ef,rfl⟩<;>rcases jK with⟨rfl,rfl⟩|⟨aj,rfl⟩
 ·simp [Instr.sliceAt,hu,Instr.slice,Instr.sliceBounds,ei.run_sizeOf]
 ·simp [Instr.sliceAt,hu,Instr.slice,Instr.sliceBounds,Instr.sliceBound,asIntOf,ei.run_sizeOf,Hj]
 ·simp [Instr.sliceAt,hu,Instr.slice,Instr.sliceBounds,Instr.sliceBound,asIntOf,ei.run_sizeOf,m3]
 ·simp [Instr.sliceAt,hu,Instr.slice,Instr.sliceBounds,Instr.sliceBound,asIntOf,ei.run_sizeOf,Hj,m3]
end
section
variable {P:Program} {K:Ctx} {N:Nat} {M:Mem} {β:Nat→Option Nat} {st:aK} {g:dt} {tmps:Array Value} {w:World} {o:Oper} {f:lG} {p:Path} {tt:dS} {cx:gJ} {ops:List Oper}
def sE{t:TypeId}{x:Operand}{lo hi ku:Option Operand}(aq:o.op = .slice t x lo hi ku){v u:Value}(hx:(⟨tmps,[]⟩:Act).eval x=v){a b:Option Value}(ha:lo.map (⟨tmps,[]⟩:Act).eval=a)(hb:hi.map (⟨tmps,[]⟩:Act).eval=b){c:Option Value}(hm:ku.map (⟨tmps,[]⟩:Act).eval=c)
 (h:(Instr.sliceAt t v a b c).run P w = .ok u w):(execOp (Act.eval ⟨tmps,[]⟩) o).run P w = .ok (.value u) w:=by
 simp only [execOp,aq,hx,ha,hb,hm];exact js _ h
def Hk{t:TypeId}{aJ:en}(r:Row P t aJ)(hk:aJ.k = .str){l:auJ}{lo hi:Option Value}{a b:Nat}
 (kC:lo=none∧a=0∨∃k,lo=some (.int k a)) (jK:hi=none∧b=l.length∨∃k,hi=some (.int k b)) (m3:a≤b) (rl:b≤l.length):
 (Instr.sliceAt t (.string ⟨⟨l⟩⟩) lo hi none).run P w = .ok (.string ⟨⟨(l.take b).drop a⟩⟩) w:=by
 have hu:=r.run_underlying w;rw [q6 r hk]at hu;have hs:(⟨⟨l⟩⟩:ByteArray).size=l.length:=rfl
 have hx:(⟨⟨l⟩⟩:ByteArray).extract a b=⟨⟨(l.take b).drop a⟩⟩:=by
  have:=ByteArray.extract_mk l a b
  rw [List.drop_take];exact this
 rcases kC with⟨rfl,rfl⟩|⟨ef,rfl⟩<;>rcases jK with⟨rfl,rfl⟩|⟨aj,rfl⟩
 ·simp [Instr.sliceAt,hu,Instr.slice,Instr.sliceBounds]
 ·simp [Instr.sliceAt,hu,Instr.slice,Instr.sliceBounds,Instr.sliceBound,asIntOf,rl,hs,hx]
 ·simp [Instr.sliceAt,hu,Instr.slice,Instr.sliceBounds,Instr.sliceBound,asIntOf,m3,hs,hx]
 ·simp [Instr.sliceAt,hu,Instr.slice,Instr.sliceBounds,Instr.sliceBound,asIntOf,rl,m3,hs,hx]
def CD{v:Value}{k n:Nat}{get:Nat→V}(ao:cE M β v (.v (.bT k n get))){a b:Nat}(m3:a≤b)(rl:b≤n){base:Option Addr}{cap:Nat}(vY:v = .slice base n cap)(m4:n≤cap):
 dw M (.slice (if cap=a then base else base.map (·.add (a*k))) (b-a) (cap-a)) (.bT k (b-a) λi=>get (a+i)):=by
 rcases tQ ao with⟨Z|⟨a0,Z⟩,ad⟩|⟨pe,off,W_,val,Z,hc,hk,db,np,ah⟩
 ·rw [vY]at Z;cases Z;have:b=0:=by omega
  subst this;have:a=0:=by omega
  subst this;exact .mv _ _
 ·rw [vY]at Z;cases Z;have:b=0:=by omega
  subst this;have:a=0:=by omega
  subst this;exact .p4 _ _ _
 ·rw [vY]at Z;cases Z;by_cases XD:cap=a
  ·rw [if_pos XD];have:b-a=0:=by omega
   rw [this];exact .bT pe off k 0 _ _ (λ_ _=>undef) (Nat.zero_le _) (by simp) (by simp) (by simp) (by simp)
  ·rw [if_neg XD];simp only [Option.map_some,addr_add];exact ahz hk db np ah (by omega) (by omega)
def ahA(h:Hyp P K N M β g tmps w p tt){t:TypeId}{x:Operand}{lo hi ku:Option Operand}(aq:o.op = .slice t x lo hi ku)(hs:step1 cx tt ops g p o=some (.go f))(cH:∀q,q∈f.bc→q):Yields P K M β g f o tmps w:=by
 have fU:∀{y:Option Operand} {kk:IntKind} {n:Int},y.map (λy=>rd g.env g.ca p tt o.type y)=some (some (.v (.int kk n)))→y.map (⟨tmps,[]⟩:Act).eval=some (.int kk n):=by
  intro y kk n ci;cases y with
  |none=>simp at ci
  |some y=>
   simp at ci
   simp [my (er (ds:=[]) h.bC h.eg ci)]
 have t':∀{y:Option Operand},y.map (λy=>rd g.env g.ca p tt o.type y)=none→y.map (⟨tmps,[]⟩:Act).eval=none:=by
  intro y ci;simp at ci;simp [ci]
 simp only [step1,aq]at hs;split at hs
 ·rename_i fN kT z _ ae;obtain⟨r⟩:=eK h.tt ae;split at hs
  ·rename_i l hx kC jK;cases hs;have ex:=mY (er (ds:=[]) h.bC h.eg hx);have:=Hk (w:=w) r rfl (l:=l) (lo:=none) (hi:=none) (a:=0) (b:=l.length) (.inl ⟨rfl,rfl⟩) (.inl ⟨rfl,rfl⟩) (by omega) (by omega)
   simp at this
   exact fm h.bC (sE aq ex (t' kC) (t' jK) rfl this) (.v _ _ (.str _))
  ·rename_i l ef a hx kC jK;cases hs;have ex:=mY (er (ds:=[]) h.bC h.eg hx);have hb:=vV (cH (hE a l.length=true) (by simp))
   obtain⟨dO,rfl⟩:=Int.eq_ofNat_of_zero_le hb.1;have:=Hk (w:=w) r rfl (l:=l) (lo:=some (.int ef dO)) (hi:=none) (a:=dO) (b:=l.length) (.inr ⟨_,rfl⟩) (.inl ⟨rfl,rfl⟩) (by omega) (by omega)
   simp at this
   exact fm h.bC (sE aq ex (fU kC) (t' jK) rfl this) (.v _ _ (.str _))
  ·rename_i l aj b hx kC jK;cases hs;have ex:=mY (er (ds:=[]) h.bC h.eg hx);have hb:=vV (cH (hE b l.length=true) (by simp))
   obtain⟨bM,rfl⟩:=Int.eq_ofNat_of_zero_le hb.1;have:=Hk (w:=w) r rfl (l:=l) (lo:=none) (hi:=some (.int aj bM)) (a:=0) (b:=bM) (.inl ⟨rfl,rfl⟩) (.inr ⟨_,rfl⟩) (by omega) (by omega)
   simp at this
   exact fm h.bC (sE aq ex (t' kC) (fU jK) rfl this) (.v _ _ (.str _))
  ·rename_i l ef a aj b hx kC jK;cases hs;have ex:=mY (er (ds:=[]) h.bC h.eg hx);have hb:=Xo (cH (lF a b l.length=true) (by simp))
   obtain⟨dO,rfl⟩:=Int.eq_ofNat_of_zero_le hb.1;obtain⟨bM,rfl⟩:=Int.eq_ofNat_of_zero_le (a:=b) (by omega)
   have:=Hk (w:=w) r rfl (l:=l) (lo:=some (.int ef dO)) (hi:=some (.int aj bM)) (a:=dO) (b:=bM) (.inr ⟨_,rfl⟩) (.inr ⟨_,rfl⟩) (by omega) (by omega)
   exact fm h.bC (sE aq ex (fU kC) (fU jK) rfl this) (.v _ _ (.str _))
  ·cases hs
 ·rename_i e fN kT z _ ae;obtain⟨r⟩:=eK h.tt ae;split at hs
  ·rename_i ef size CE ll k n get aj a eQ hx kC jK;obtain⟨ei⟩:=eK h.tt eQ;rw [Bool.cond_eq_ite]at hs;split at hs
   case isFalse=>cases hs
   rename_i im;simp only [Nat.beq_eq]at im;subst im
   have lk:∃(y:V) (rs:List fw) (bc:List Prop),f={e:=some {d:=.v y},rs,bc}∧hK (.bT k (n-a.toNat) λi=>get (a.toNat+i)) y∧hE a n=true:=by
    split at hs
    ·rename_i y rs eV;cases hs;exact⟨_,_,_,rfl,cH _ (by simp),cH (hE a n=true) (by simp)⟩
    ·cases hs;exact⟨_,_,_,rfl,λ_ _ h=>h,cH (hE a n=true) (by simp)⟩
    ·cases hs
   obtain⟨y,rs,bc,rfl,ao,hb⟩:=lk;have hb:=vV hb;obtain⟨dO,rfl⟩:=Int.eq_ofNat_of_zero_le hb.1;have lM:=er (ds:=[]) h.bC h.eg hx;obtain⟨base,cap,ex,m4⟩:=vB lM;have:=Hi (w:=w) r rfl ei (base:=base) (n:=n) (cap:=cap) (lo:=some (.int aj dO)) (hi:=none) (a:=dO) (b:=n) (.inr ⟨_,rfl⟩) (.inl ⟨rfl,rfl⟩) (by omega) (by omega) m4
   refine fm h.bC (sE aq ex (fU kC) (t' jK) rfl this) (.v _ _ (ao _ _ ?_));have:=CD lM (a:=dO) (b:=n) (by omega) (by omega) ex m4
   simpa using this
  ·rename_i ef size CE ll k n get aj b eQ hx kC jK;obtain⟨ei⟩:=eK h.tt eQ;rw [Bool.cond_eq_ite]at hs;split at hs
   case isFalse=>cases hs
   rename_i im;simp only [Nat.beq_eq]at im;subst im
   have lk:∃(y:V) (rs:List fw) (bc:List Prop),f={e:=some {d:=.v y},rs,bc}∧hK (.bT k b.toNat get) y∧hE b n=true:=by
    split at hs
    ·rename_i y rs eV;cases hs;exact⟨_,_,_,rfl,cH _ (by simp),cH (hE b n=true) (by simp)⟩
    ·cases hs;exact⟨_,_,_,rfl,λ_ _ h=>h,cH (hE b n=true) (by simp)⟩
    ·cases hs
   obtain⟨y,rs,bc,rfl,ao,hb⟩:=lk;have hb:=vV hb;obtain⟨bM,rfl⟩:=Int.eq_ofNat_of_zero_le hb.1;have lM:=er (ds:=[]) h.bC h.eg hx;obtain⟨base,cap,ex,m4⟩:=vB lM;have:=Hi (w:=w) r rfl ei (base:=base) (n:=n) (cap:=cap) (lo:=none) (hi:=some (.int aj bM)) (a:=0) (b:=bM) (.inl ⟨rfl,rfl⟩) (.inr ⟨_,rfl⟩) (by omega) (by omega) m4
   refine fm h.bC (sE aq ex (t' kC) (fU jK) rfl this) (.v _ _ (ao _ _ ?_));have:=CD lM (a:=0) (b:=bM) (by omega) (by omega) ex m4
   simpa using this
  ·rename_i ef size CE ll k n get aj a fW b eQ hx kC jK;obtain⟨ei⟩:=eK h.tt eQ;rw [Bool.cond_eq_ite]at hs;split at hs
   case isFalse=>cases hs
   rename_i im;simp only [Nat.beq_eq]at im;subst im
   have lk:∃(y:V) (rs:List fw) (bc:List Prop),f={e:=some {d:=.v y},rs,bc}∧hK (.bT k (b.toNat-a.toNat) λi=>get (a.toNat+i)) y∧lF a b n=true:=by
    split at hs
    ·rename_i y rs eV;cases hs;exact⟨_,_,_,rfl,cH _ (by simp),cH (lF a b n=true) (by simp)⟩
    ·cases hs;exact⟨_,_,_,rfl,λ_ _ h=>h,cH (lF a b n=true) (by simp)⟩
    ·cases hs
   obtain⟨y,rs,bc,rfl,ao,hb⟩:=lk;have hb:=Xo hb;obtain⟨dO,rfl⟩:=Int.eq_ofNat_of_zero_le hb.1;obtain⟨bM,rfl⟩:=Int.eq_ofNat_of_zero_le (a:=b) (by omega)
   have lM:=er (ds:=[]) h.bC h.eg hx;obtain⟨base,cap,ex,m4⟩:=vB lM;have:=Hi (w:=w) r rfl ei (base:=base) (n:=n) (cap:=cap) (lo:=some (.int aj dO)) (hi:=some (.int fW bM)) (a:=dO) (b:=bM) (.inr ⟨_,rfl⟩) (.inr ⟨_,rfl⟩) (by omega) (by omega) m4
   refine fm h.bC (sE aq ex (fU kC) (fU jK) rfl this) (.v _ _ (ao _ _ ?_));have:=CD lM (a:=dO) (b:=bM) (by omega) (by omega) ex m4
   simpa using this
  ·rename_i ef size CE ll k n get eQ hx kC jK;obtain⟨ei⟩:=eK h.tt eQ;rw [Bool.cond_eq_ite]at hs;split at hs
   case isFalse=>cases hs
   rename_i im;simp only [Nat.beq_eq]at im;subst im;cases hs;have lM:=er (ds:=[]) h.bC h.eg hx;obtain⟨base,cap,ex,m4⟩:=vB lM;have:=Hi (w:=w) r rfl ei (base:=base) (n:=n) (cap:=cap) (lo:=none) (hi:=none) (a:=0) (b:=n) (.inl ⟨rfl,rfl⟩) (.inl ⟨rfl,rfl⟩) (by omega) (by omega) m4
   refine fm h.bC (sE aq ex (t' kC) (t' jK) rfl this) (.v _ _ ?_);have:=CD lM (a:=0) (b:=n) (by omega) (by omega) ex m4
   simpa using this
  ·cases hs
 ·rename_i m e fN kT z _ ae;obtain⟨r⟩:=eK h.tt ae;split at hs
  case h_2=>cases hs
  rename_i size CE ll k n get aj b fW c eQ hx jK hm;obtain⟨ei⟩:=eK h.tt eQ;rw [Bool.cond_eq_ite]at hs;split at hs
  case isFalse=>cases hs
  rename_i im;simp only [Nat.beq_eq]at im;subst im;cases hs;have Hj:=cH (b=c) (by simp)
  subst Hj;have hb:=vV (cH (hE b n=true) (by simp))
  obtain⟨bM,rfl⟩:=Int.eq_ofNat_of_zero_le hb.1;have lM:=er (ds:=[]) h.bC h.eg hx;obtain⟨base,cap,ex,m4⟩:=vB lM;have rl:bM≤n:=by omega
  have hu:=r.run_underlying w;rw [qa r rfl]at hu
  have eX:(Instr.sliceAt t (.slice base n cap) none (some (.int aj bM)) (some (.int fW bM))).run P w = .ok (.slice (if bM=0 then base else base.map (·.add (0*k))) bM bM) w:=by
   have Z:bM≤cap:=by omega
   simp [Instr.sliceAt,hu,Instr.slice,Instr.sliceBounds,Instr.sliceBound,asIntOf,ei.run_sizeOf,Z]
  have ahB:(if bM=0 then base else base.map (·.add (0*k)))=base:=by
   split
   ·rfl
   ·cases base with
    |none=>rfl
    |some a=>simp [Addr.add]
  rw [ahB]at eX;have em:(some m).map (⟨tmps,[]⟩:Act).eval=some (.int fW bM):=fU (y:=some m) hm;refine fm h.bC (sE aq ex rfl (fU jK) em eX) (.full base k _ get ?_);have XE:=CD lM (a:=0) (b:=bM) (by omega) rl ex m4
  simp only [Nat.sub_zero]at XE ⊢;have XF:dw M (.slice (if cap=0 then base else base.map (·.add (0*k))) bM cap) (.bT k bM get):=by simpa using XE
  have fk:(if cap=0 then base else base.map (·.add (0*k)))=base:=by
   split
   ·rfl
   ·cases base with
    |none=>rfl
    |some a=>simp [Addr.add]
  rw [fk]at XF;cases XF with
  |mv=>exact .mv _ _
  |p4 a=>exact .p4 _ _ _
  |bT q2 off k n cap get val hc hk db Z h=>exact .bT q2 off k _ _ get val (Nat.le_refl _) hk db Z h
 ·cases hs
def XG{c:Call}(aq:o.op = .call c)(hc:c.callee = .builtin .len){a:Operand}(fc:c.args.toList=[a]){t:TypeId}(ht:c.argTypes.toList[0]? = some t){h4 v:Value}(ha:(⟨tmps,[]⟩:Act).eval a=h4)
 (h:∀ty,(Builtin.len_ #[t] ty #[h4]).run P w = .ok v w):(execOp (Act.eval ⟨tmps,[]⟩) o).run P w = .ok (.value v) w:=by
 have vI:c.args = #[a]:=by apply Array.ext';simpa using fc
 have N8:∀ty,(Builtin.len_ c.argTypes ty #[h4]).run P w = .ok v w:=by
  intro ty;have h0:c.argTypes[0]? = some t:=by simpa using ht
  have:=h ty
  simp only [Builtin.len_,h0]at this ⊢;exact this
 simp only [execOp,aq,resolve,hc,vI,Sem.run_bind,Sem.run_pure,Result.andThen_ok,invoke,builtin,List.map_toArray,List.map_cons,List.map_nil,ha];simp [N8]
def XH{F:Nat→Option Nat}{l cR:List D}(h:lH F l=some cR):cR.length=l.length:=(yq h).1.symm
def ahC {c : Call} (aq : o.op = .call c) {x : Operand} (hc : c.callee = .value x) {fn : FuncId} {vs : List Value} (hx : (⟨tmps, []⟩ : Act).eval x = .func (.func fn) #[] ⟨vs⟩) {fd : Func} (cc : P.funcs[fn]? = some fd) (hb : fd.body.isSome = true) (hn : fd.name ≠ "runtime.NumGoroutine") :
 (execOp (Act.eval ⟨tmps,[]⟩) o).run P w = .ok (.enter fn ⟨c.args.toList.map (⟨tmps,[]⟩:Act).eval++vs⟩) w:=by
 have rl:fd.body≠none:=by intro bB;rw [bB]at hb;cases hb
 simp [execOp,aq,resolve,hc,hx,Deferred.ofValue,invoke,callFunc,cc,rl,hn]
def XI{F:TypeId→Operand→Option D}:∀{xs:List Operand} {ts:List TypeId} {ds:List D},l8 F xs ts=some ds→ds.length=xs.length∧∀(i:Nat) x d,xs[i]? = some x→ds[i]? = some d→∃t,F t x=some d
 |[],ts,ds,h=>by simp [l8]at h;subst h;simp
 |x::xs,[],ds,h=>by simp [l8]at h
 |x::xs,t::ts,ds,h=>by
  simp only [l8]at h;split at h
  case h_2=>cases h
  rename_i d ahD hd ik;cases h;obtain⟨Z,ad⟩:=XI ik;refine⟨by simp [Z],λi y e ci he=>?_⟩
  cases i with
  |zero=>simp at ci he;subst ci;subst he;exact⟨t,hd⟩
  |succ i=>simp at ci he;exact ad i y e ci he
mutual
def XJ{ρ:List Nat}:∀(d:D) {eA:D},eP (idx ρ) d=some eA→eP (λj=>ρ[j]?) eA=some d
 |.v x,eA,h=>by simp [eP]at h;subst h;simp [eP]
 |.ptr r off,eA,h=>by
  simp only [eP,Option.map_eq_some_iff]at h;obtain⟨j,hj,rfl⟩:=h;simp [eP,G8 hj]
 |.cK r off u,eA,h=>by
  simp only [eP,Option.map_eq_some_iff]at h;obtain⟨j,hj,rfl⟩:=h;simp [eP,G8 hj]
 |.fg x,eA,h=>by simp [eP]at h;subst h;simp [eP]
 |.full k n get,eA,h=>by simp [eP]at h;subst h;simp [eP]
 |.fn g fq,eA,h=>by
  simp only [eP,Option.map_eq_some_iff]at h;obtain⟨l,ae,rfl⟩:=h;simp [eP,Hl fq ae]
 |.agg cs,eA,h=>by
  simp only [eP,Option.map_eq_some_iff]at h;obtain⟨l,ae,rfl⟩:=h;simp [eP,Hl cs ae]
 |.bU cs,eA,h=>by
  simp only [eP,Option.map_eq_some_iff]at h;obtain⟨l,ae,rfl⟩:=h;simp [eP,Hl cs ae]
def Hl{ρ:List Nat}:∀(l:List D) {cR:List D},lH (idx ρ) l=some cR→lH (λj=>ρ[j]?) cR=some l
 |[],cR,h=>by simp [lH]at h;subst h;simp [lH]
 |d::l,cR,h=>by
  simp only [lH]at h;split at h
  case h_2=>cases h
  rename_i d1 i_ hd ae;cases h;simp [lH,XJ d hd,Hl l ae]
end
def XK{ρ:List Nat}:∀{b bM:List aZ},nm (idx ρ) b=some bM→nm (λj=>ρ[j]?) bM=some b
 |[],bM,h=>by simp [nm]at h;subst h;simp [nm]
 |e::l,bM,h=>by
  simp only [nm]at h;split at h
  case h_2=>cases h
  rename_i e1 i_ he ae;cases h;simp only [GJ,Option.map_eq_some_iff]at he;obtain⟨d,hd,rfl⟩:=he;simp [nm,GJ,XJ _ hd,XK ae]
def XL{ρ:List Nat}:∀{bs qd:List (List aZ)},kt (idx ρ) bs=some qd→kt (λj=>ρ[j]?) qd=some bs
 |[],qd,h=>by simp [kt]at h;subst h;simp [kt]
 |b::l,qd,h=>by
  simp only [kt]at h;split at h
  case h_2=>cases h
  rename_i cl i_ hb ae;cases h;simp [kt,XK hb,XL ae]
def ahE{st:aK}(h:bR P K M β st tmps w){ρ:List Nat}{bs H1:List (List aZ)}(hn:nn ρ=true)(lj:boxes st.H ρ=some bs)(mB:kt (idx ρ) bs=some H1)
 {os:List Nat} {out:Out} {v:Value} {w':World} {M':Mem} {β':Nat→Option Nat} (jv:bR P (kW M β st tmps w ρ os) M' β' {env:=ij out,H:=da 0 H1,a1:=ρ.length} #[v] w'):
 M.le M'∧bR P K M' β {st with env:=gX os st.env} tmps w'∧
 (∀d own,out = .ret d own→∀eA,eP (λj=>ρ[j]?) d=some eA→cE M' β v eA∧∀T l0,own=some T→mV P K M' β {st with env:=gX os st.env} tmps w' l0 v T)∧
 (∀x,out = .bj x→dw M' v x):=by
 obtain⟨cP,fk⟩:=vN lj;have e7:H1.length=ρ.length:=by rw [(yJ mB).1,cP]
 obtain⟨Z,ad,am,aR⟩:=Oj h hn lj (XL mB) e7 jv
 have kX:∀r,look (lI ρ bs++st.H) r=look st.H r:=by
  intro r;obtain⟨bv,cz⟩:=Oc (H:=st.H) (ρ:=ρ) (bs:=bs) cP hn r;by_cases hj:∃(j:Nat),ρ[j]? = some r
  ·obtain⟨j,hj⟩:=hj;rw [bv j hj,(fk j r hj).1]
  ·exact cz λj bB=>hj ⟨j,bB⟩
 have fr:∀l,({env:=gX os st.env,H:=lI ρ bs++st.H,a1:=st.a1}:aK).at l=({st with env:=gX os st.env}:aK).at l:=by
  intro l;cases l with
  |slot s=>rfl
  |cell r i=>simp only [aK.at,kX]
 refine⟨Z,ad.sub rfl (λl e ae=>⟨e,by rw [fr];exact ae,rfl,λ_ h=>h⟩) (λr cs ah=>⟨cs,by rw [←ah];exact kX r,rfl⟩),λd own hd eA kQ=>?_,aR⟩
 obtain⟨bv,cz⟩:=am d own hd eA kQ;refine⟨bv,λT l0 aT=>?_⟩
 obtain⟨eG,eD,iI⟩:=cz T l0 aT;exact⟨eG,λl e T' b ae=>eD l e T' b (by rw [fr];exact ae),λb r cs hb ah=>iI b r cs hb (by rw [←ah];exact kX r)⟩
def XM(P:Program)(K:Ctx)(M:Mem)(β:Nat→Option Nat)(g:dt)(s:ob)(o:Oper)(tmps:Array Value)(w:World):Prop:=
 match s with
 |.go f=>(∀q,q∈f.bc→q)→Yields P K M β g f o tmps w
 |.bj x hs bc=>(∀q,q∈bc→q)→agY P K M β g x hs o tmps w
def XN{os:List Nat}{env:List (Nat×aZ)}{s:Nat}{e:aZ}(h:look env s=some e):∃bO,look (gX os env) s=some bO∧bO.d=e.d:=by
 rw [nq,h];split
 ·exact⟨_,rfl,rfl⟩
 ·exact⟨_,rfl,rfl⟩
def OF{g:dt}(h:fO P K N M β g tmps w){xs:List Operand}{ts:List TypeId}:∀{os:List Nat} {hd:List (Nat×Option Nat×TypeId)},handed tt g xs ts os=some hd→∀{vs:List Value},
 (∀(i:Nat) t,xs[i]? = some (.tmp t)→vs[i]? = some (tmps.getD t undef))→(∀(i:Nat),xs[i]? = some (.const (.slice none 0 0))→vs[i]? = some (.slice none 0 0))→
 Handed {env:=g.env,H:=g.H,a1:=g.a1} tmps vs hd
 |[],hd,bB,vs,_,_=>by
  simp [handed]at bB;subst bB;exact⟨by simp,by simp,by simp⟩
 |i::os,hd,bB,vs,Z,ad=>by
  simp only [handed]at bB;split at bB
  ·rename_i t l hx ae;have aW:=OF h ae Z ad;split at bB
   case h_2=>cases bB
   rename_i d e he;rw [Bool.cond_eq_ite]at bB;split at bB
   case isFalse=>cases bB
   rename_i hc;simp only [Bool.and_eq_true,List.all_eq_true,Bool.not_eq_true']at hc;cases bB;refine⟨λmW bp T hm=>?_,λmW T hm=>?_,λmW vQ bp T T' hm kD=>?_⟩
   ·rcases List.mem_cons.1 hm with hm|hm
    ·cases hm;exact⟨_,he,rfl,Z i t hx⟩
    ·exact aW.some mW bp T hm
   ·rcases List.mem_cons.1 hm with hm|hm
    ·cases hm
    ·exact aW.none mW T hm
   ·rcases List.mem_cons.1 hm with hm|hm<;>rcases List.mem_cons.1 kD with kD|kD
    ·cases hm;cases kD;rfl
    ·cases hm;have:=(hc.2 _ kD).1
     simp at this
    ·cases kD;have:=(hc.2 _ hm).1
     simp at this
    ·exact aW.inj mW vQ bp T T' hm kD
  ·rename_i l hx ae;have aW:=OF h ae Z ad;split at bB
   case h_2=>cases bB
   rename_i e fN kT z _ he;rw [Bool.cond_eq_ite]at bB;split at bB
   case isFalse=>cases bB
   cases bB;refine⟨λmW bp T hm=>?_,λmW T hm=>?_,λmW vQ bp T T' hm kD=>?_⟩
   ·rcases List.mem_cons.1 hm with hm|hm
    ·cases hm
    ·exact aW.some mW bp T hm
   ·rcases List.mem_cons.1 hm with hm|hm
    ·cases hm;exact ad i hx
    ·exact aW.none mW T hm
   ·rcases List.mem_cons.1 hm with hm|hm<;>rcases List.mem_cons.1 kD with kD|kD
    ·cases hm
    ·cases hm
    ·cases kD
    ·exact aW.inj mW vQ bp T T' hm kD
  ·cases bB
def ahF(h:Hyp P K N M β g tmps w p tt){c:Call}(aq:o.op = .call c){x:Operand}(hc:c.callee = .value x){fn:FuncId}{fq ds:List D}(hx:rd g.env g.ca p tt o.type x=some (.fn fn fq))
 (ik:l8 (rd g.env g.ca p tt) c.args.toList c.argTypes.toList=some ds) {s:ob} (hs:ym (hT P) tt g p c.args.toList c.argTypes.toList fn (ds++fq)=some s):
 XM P K M β g s o tmps w:=by
 obtain⟨vs,ao,hlen,ah⟩:=WF (er (ds:=[]) h.bC h.eg hx);obtain⟨gK,kU⟩:=XI ik
 have fc:∀(i:Nat) v d,(c.args.toList.map (⟨tmps,[]⟩:Act).eval++vs)[i]? = some v→(ds++fq)[i]? = some d→cE M β v d:=by
  intro i v d eU tX;by_cases hi:i<c.args.toList.length
  ·rw [List.getElem?_append_left (by simpa using hi),List.getElem?_map,Option.map_eq_some_iff]at eU
   obtain⟨y,ci,rfl⟩:=eU;rw [List.getElem?_append_left (by omega)]at tX
   obtain⟨ty,ht⟩:=kU i y d ci tX;exact er h.bC h.eg ht
  ·rw [List.getElem?_append_right (by simp;simp at hi;omega)]at eU
   rw [List.getElem?_append_right (by omega)]at tX
   refine ah _ v d eU ?_;rw [gK]at tX;simpa using tX
 have XO:(c.args.toList.map (⟨tmps,[]⟩:Act).eval++vs).length=(ds++fq).length:=by simp at gK ⊢;omega
 unfold ym at hs
 dsimp only at hs
 generalize mc:o5 g.H 2 (dedup ((ds++fq).flatMap refs))=ρ at hs
 split at hs
 case h_2=>cases hs
 rename_i out cm os rs eV;split at hs
 case h_2=>cases hs
 rename_i jZ H1 hd t_ mB vO;rw [Option.bind_eq_some_iff]at mB;obtain⟨bs,lj,mB⟩:=mB;rw [Bool.cond_eq_ite]at hs;split at hs
 ·cases hs
 rename_i XP
 have hn:nn ρ=true:=by
  have:(!nn ρ || !(List.isEmpty p||List.isEmpty os))=false:=by simpa using XP
  simp only [Bool.or_eq_false_iff,Bool.not_eq_false']at this;exact this.1
 have eW:=OF h.bC vO (vs:=c.args.toList.map (⟨tmps,[]⟩:Act).eval++vs) (λi t ax=>by
  rw [List.getElem?_append_left (by simpa using(List.getElem?_eq_some_iff.1 ax).1),List.getElem?_map,ax];rfl) (λi ax=>by
  rw [List.getElem?_append_left (by simpa using(List.getElem?_eq_some_iff.1 ax).1),List.getElem?_map,ax];rfl)
 have ev:=Xf (st:={env:=g.env,H:=g.H,a1:=g.a1}) h.bC.bC hn lj mB XO fc t_ eW;have e7:H1.length=ρ.length:=by rw [(yJ mB).1,(vN lj).1]
 -- G2 lN contract ahG, as5 lN boxes behind it
 have key:∀{vZ:List (List aZ)},gj P fn jZ (tV hd) H1 out vZ→(execOp (Act.eval ⟨tmps,[]⟩) o).run P w = .ok (.enter fn ⟨c.args.toList.map (⟨tmps,[]⟩:Act).eval++vs⟩) w∧
  Calls P fn ⟨c.args.toList.map (⟨tmps,[]⟩:Act).eval++vs⟩ w λe w'=>∃v M' β',e=re out v∧
   bR P (kW M β {env:=g.env,H:=g.H,a1:=g.a1} tmps w ρ (ri hd)) M' β' {env:=ij out,H:=da 0 vZ,a1:=ρ.length} #[v] w':=by
  intro vZ ahH;obtain⟨⟨fd,kz,OG,kc⟩,ahI⟩:=ahH;refine⟨ahC aq hc ao kz OG kc,(ahI _ w _ M _ (by rw [XO,XH t_]) ev (λr b hb=>hb)).mono ?_⟩
  rintro e w' ⟨o',H',v,M',β',⟨rfl,rfl⟩,he,c'⟩
  rw [e7]at c';exact⟨v,M',β',he,c'⟩
 -- lN boxes as as6 as7, named as8 and back
 have back:∀{vZ ahJ:List (List aZ)},kt (λj=>ρ[j]?) vZ=some ahJ→vZ.length=ρ.length→∀{v:Value} {w':World} {M':Mem} {β':Nat→Option Nat},
  bR P (kW M β {env:=g.env,H:=g.H,a1:=g.a1} tmps w ρ (ri hd)) M' β' {env:=ij out,H:=da 0 vZ,a1:=ρ.length} #[v] w'→_:=
  λhx ae _ _ _ _ hp=>Oj (st:={env:=g.env,H:=g.H,a1:=g.a1}) h.bC.bC hn lj hx ae hp
 have XQ:∀{v:Value} {w':World} {M':Mem} {β':Nat→Option Nat},
  bR P (kW M β {env:=g.env,H:=g.H,a1:=g.a1} tmps w ρ (ri hd)) M' β' {env:=ij out,H:=da 0 H1,a1:=ρ.length} #[v] w'→
  M.le M'∧bR P K M' β {env:=gX (ri hd) g.env,H:=g.H,a1:=g.a1} tmps w'∧
  (∀d own,out = .ret d own→∀eA,eP (λj=>ρ[j]?) d=some eA→cE M' β v eA∧∀T l0,own=some T→mV P K M' β {env:=gX (ri hd) g.env,H:=g.H,a1:=g.a1} tmps w' l0 v T)∧
  (∀x,out = .bj x→dw M' v x):=by
  intro v w' M' β' hp;exact ahE (st:={env:=g.env,H:=g.H,a1:=g.a1}) h.bC.bC hn lj mB hp
 cases out with
 |ret d own=>
  cases cm with
  |none=>
   simp only [Option.map_eq_some_iff]at hs;obtain⟨eA,kQ,rfl⟩:=hs;intro cH;obtain⟨Z,ad⟩:=key (cH _ (List.mem_singleton.2 rfl));refine .inr (.inr ⟨fn,_,Z,ad.mono ?_⟩)
   rintro e w' ⟨v,M',β',he,hp⟩
   obtain⟨db,c',OH,_⟩:=XQ hp;refine⟨v,he,M',β,db,λ_ _ h=>h,λ_ _ h=>.inl h,c',λe1 qb=>?_⟩
   cases qb;exact OH d own rfl eA kQ
  |some cm=>
   dsimp only at hs
   split at hs
   case h_2=>cases hs
   rename_i eA i' kQ vT;rw [Bool.cond_eq_ite]at hs;split at hs
   case isFalse=>cases hs
   rename_i ae;cases hs;intro cH;obtain⟨Z,ad⟩:=key (cH _ (List.mem_singleton.2 rfl));refine .inr (.inr ⟨fn,_,Z,ad.mono ?_⟩)
   rintro e w' ⟨v,M',β',he,hp⟩
   obtain⟨db,c',OH,_⟩:=back vT (by simpa using ae) hp
   refine⟨v,he,M',β,db,λ_ _ h=>h,λ_ _ h=>.inl h,c',λe1 qb=>?_⟩
   cases qb;exact OH d own rfl eA kQ
 |bj x=>
  cases cm with
  |none=>
   cases hs;intro cH;obtain⟨Z,ad⟩:=key (cH _ (List.mem_singleton.2 rfl));refine .inr ⟨fn,_,Z,ad.mono ?_⟩
   rintro e w' ⟨v,M',β',he,hp⟩
   obtain⟨db,c',_,OI⟩:=XQ hp;exact⟨v,M',he,OI x rfl,c'.p8 λs e he=>XN he⟩
  |some cm=>
   dsimp only at hs
   split at hs
   case h_2=>cases hs
   rename_i i' vT;rw [Bool.cond_eq_ite]at hs;split at hs
   case isFalse=>cases hs
   rename_i ae;cases hs;intro cH;obtain⟨Z,ad⟩:=key (cH _ (List.mem_singleton.2 rfl));refine .inr ⟨fn,_,Z,ad.mono ?_⟩
   rintro e w' ⟨v,M',β',he,hp⟩
   obtain⟨db,c',_,OI⟩:=back vT (by simpa using ae) hp
   exact⟨v,M',he,OI x rfl,c'.p8 λs e he=>XN he⟩
end
section
variable {P:Program} {K:Ctx} {N:Nat} {M:Mem} {β:Nat→Option Nat} {st:aK} {g:dt} {tmps:Array Value} {w:World} {o:Oper} {f:lG} {p:Path} {tt:dS} {ops:List Oper}
def XR(h:Hyp P K N M β g tmps w p tt){c:Call}(aq:o.op = .call c)(hc:c.callee = .builtin .len){d:D}(hd:mapM' (λy=>rd g.env g.ca p tt o.type y) c.args.toList=some [d]){aJ:en}
 (ae:(c.argTypes.toList[0]?).bind (look tt)=some aJ) {n:Nat} (hk:(∃l,d = .v (.str l)∧aJ.k = .str∧n=l.length)∨(∃k get e,d = .v (.bT k n get)∧aJ.k = .bT e)):
 Yields P K M β g {e:=some {d:=.v (.int .i64 n)},rs:=g.rs} o tmps w:=by
 obtain⟨gK,kU⟩:=tR hd;rw [Option.bind_eq_some_iff]at ae;obtain⟨t,ax,ae⟩:=ae;obtain⟨r⟩:=eK h.tt ae
 obtain⟨a,ha⟩:∃a,c.args.toList=[a]:=by
  cases gP:c.args.toList with
  |nil=>rw [gP]at gK;simp at gK
  |cons a l=>
   rw [gP]at gK;simp at gK
   exact⟨a,by rw [gK]⟩
 have qe:=er (ds:=[]) h.bC h.eg (kU 0 a d (by rw [ha];rfl) rfl)
 rcases hk with⟨l,rfl,hk,rfl⟩|⟨k,get,e,rfl,hk⟩
 ·have rj:=mY qe;refine fm h.bC (XG aq hc ha ax rj (λty=>?_)) (.v _ _ (.int _ _))
  have hs:(⟨⟨l⟩⟩:ByteArray).size=l.length:=rfl;simp [Builtin.len_,r.run_underlying,q6 r hk,goInt,hs]
 ·obtain⟨base,cap,rj,_⟩:=vB qe;refine fm h.bC (XG aq hc ha ax rj (λty=>?_)) (.v _ _ (.int _ _))
  simp [Builtin.len_,r.run_underlying,qa r hk,goInt]
def ahK(h:Hyp P K N M β g tmps w p tt){c:Call}(aq:o.op = .call c)(hc:c.callee = .builtin .min){k:IntKind}{a b:Int}(hd:mapM' (λy=>rd g.env g.ca p tt o.type y) c.args.toList=some [.v (.int k a),.v (.int k b)]):
 Yields P K M β g {e:=some {d:=.v (.int k (bif decide (b<a)then b else a))},rs:=g.rs} o tmps w:=by
 obtain⟨gK,kU⟩:=tR hd
 obtain⟨x,y,mX⟩:∃x y,c.args.toList=[x,y]:=by
  cases gP:c.args.toList with
  |nil=>rw [gP]at gK;simp at gK
  |cons x l=>
   cases l with
   |nil=>rw [gP]at gK;simp at gK
   |cons y l=>
    rw [gP]at gK;simp at gK
    exact⟨x,y,by rw [gK]⟩
 have ex:=my (er (ds:=[]) h.bC h.eg (kU 0 x _ (by rw [mX];rfl) rfl))
 have OJ:=my (er (ds:=[]) h.bC h.eg (kU 1 y _ (by rw [mX];rfl) rfl))
 have vI:c.args = #[x,y]:=by apply Array.ext';simpa using mX
 refine fm h.bC (v:=.int k (bif decide (b<a)then b else a)) ?_ (.v _ _ (.int _ _))
 simp only [execOp,aq,resolve,hc,vI,Sem.run_bind,Sem.run_pure,Result.andThen_ok,invoke,builtin,List.map_toArray,List.map_cons,List.map_nil,ex,OJ];by_cases m3:b<a<;>simp [Builtin.min_,Builtin.min2,m3]
def ahL(h:Hyp P K N M β g tmps w p tt){c:Call}(aq:o.op = .call c)(hc:c.callee = .builtin .max){k:IntKind}{a b:Int}(hd:mapM' (λy=>rd g.env g.ca p tt o.type y) c.args.toList=some [.v (.int k a),.v (.int k b)]):
 Yields P K M β g {e:=some {d:=.v (.int k (bif decide (a<b)then b else a))},rs:=g.rs} o tmps w:=by
 obtain⟨gK,kU⟩:=tR hd
 obtain⟨x,y,mX⟩:∃x y,c.args.toList=[x,y]:=by
  cases gP:c.args.toList with
  |nil=>rw [gP]at gK;simp at gK
  |cons x l=>
   cases l with
   |nil=>rw [gP]at gK;simp at gK
   |cons y l=>
    rw [gP]at gK;simp at gK
    exact⟨x,y,by rw [gK]⟩
 have ex:=my (er (ds:=[]) h.bC h.eg (kU 0 x _ (by rw [mX];rfl) rfl))
 have OJ:=my (er (ds:=[]) h.bC h.eg (kU 1 y _ (by rw [mX];rfl) rfl))
 have vI:c.args = #[x,y]:=by apply Array.ext';simpa using mX
 refine fm h.bC (v:=.int k (bif decide (a<b)then b else a)) ?_ (.v _ _ (.int _ _))
 simp only [execOp,aq,resolve,hc,vI,Sem.run_bind,Sem.run_pure,Result.andThen_ok,invoke,builtin,List.map_toArray,List.map_cons,List.map_nil,ex,OJ];by_cases m3:a<b<;>simp [Builtin.max_,Builtin.max2,m3]
def ahM(h:Hyp P K N M β g tmps w p tt){cx:gJ}{x:Operand}{s t:TypeId}{ok:Bool}(aq:o.op = .typeAssert x s t ok)(hs:step1 cx tt ops g p o=some (.go f)):Yields P K M β g f o tmps w:=by
 simp only [step1,aq]at hs;split at hs
 case h_2=>cases hs
 rename_i bp y k fN kT z _ hx ae;obtain⟨r⟩:=eK h.tt ae;have ah:=er (ds:=[]) h.bC h.eg hx;obtain⟨u,ao,hu⟩:=NG ah;have XS:k ≠ .p2:=by rintro rfl;simp at hs
 have OA:∀i,r.desc ≠ .interface i:=by
  intro i hd;have:=r.hk
  rw [hd]at this;simp [lK]at this;exact XS this.symm
 have gk:(bif Nat.beq bp t then(some (ob.go {e:=some {d:=(bif ok then .bU [.v y,.v (.bool true)]else .v y)},rs:=g.rs}))else none)=some (.go f):=by
  cases k<;>first|exact(XS rfl).elim|exact hs
 rw [Bool.cond_eq_ite]at gk;split at gk
 case isFalse=>cases gk
 rename_i hb;have b0:bp=t:=by simpa using hb
 subst b0;cases gk
 have eX:(Instr.typeAssert (.iface bp u) s bp ok).run P w = .ok (bif ok then .tuple #[u,.bool true]else u) w:=by
  unfold Instr.typeAssert;simp only [Sem.run_bind,r.run_underlying,Result.andThen_ok];cases hd:r.desc<;>first|exact(OA _ hd).elim|(cases ok<;>simp)
 refine fm h.bC (v:=bif ok then .tuple #[u,.bool true]else u) ?_ ?_
 ·simp only [execOp,aq,ao];exact js _ eX
 ·cases ok
  ·exact .v _ _ hu
  ·refine .bU [u,.bool true] _ rfl λi v c ao hc=>?_
   match i with
   | 0=>simp at ao hc;subst ao;subst hc;exact .v _ _ hu
   | 1=>simp at ao hc;subst ao;subst hc;exact .v _ _ (.bool _)
   |i+2=>simp at ao
def XT(h:Hyp P K N M β g tmps w p tt){s:ob}(hs:step1 (hT P) tt ops g p o=some s):XM P K M β g s o tmps w:=by
 cases aq:o.op with
 |move x=>cases s with
  |go f=>exact λ_=>ag5 h aq hs
  |bj x gk bc=>simp only [step1,aq]at hs;repeat' (first |(split at hs) |(rw [Bool.cond_eq_ite]at hs) |(cases hs;done))
 |assign x=>cases s with
  |go f=>exact λ_=>ag6 h aq hs
  |bj x gk bc=>simp only [step1,aq]at hs;repeat' (first |(split at hs) |(rw [Bool.cond_eq_ite]at hs) |(cases hs;done))
 |pick c a b=>
  cases c with
  |tmp c=>cases s with
   |go f=>exact λ_=>ag7 h aq hs
   |bj x gk bc=>simp only [step1,aq]at hs;repeat' (first |(split at hs) |(simp at hs;done))
  |_=>simp [step1,aq]at hs
 |alloc t=>cases s with
  |go f=>exact λ_=>ag8 h aq hs
  |bj x gk bc=>simp only [step1,aq]at hs;repeat' (first |(split at hs) |(cases hs;done))
 |box t x=>cases s with
  |go f=>exact λ_=>ag9 h aq hs
  |bj x gk bc=>simp only [step1,aq]at hs;repeat' (first |(split at hs) |(rw [Bool.cond_eq_ite]at hs) |(cases hs;done))
 |build t parts=>cases s with
  |go f=>exact λ_=>ag' h aq hs
  |bj x gk bc=>simp only [step1,aq]at hs;repeat' (first |(split at hs) |(rw [Bool.cond_eq_ite]at hs) |(simp at hs;done) |(cases hs;done))
 |buildSlice t len parts=>cases s with
  |go f=>exact λcH=>aha h aq hs cH
  |bj x gk bc=>simp only [step1,aq]at hs;repeat' (first |(split at hs) |(rw [Bool.cond_eq_ite]at hs) |(cases hs;done))
 |load t a=>cases s with
  |go f=>exact λ_=>ahb h aq hs
  |bj x gk bc=>simp only [step1,aq]at hs;repeat' (first |(split at hs) |(rw [Bool.cond_eq_ite]at hs) |(simp at hs;done) |(cases hs;done))
 |store t a x=>cases s with
  |go f=>exact λ_=>ahc h aq hs
  |bj x gk bc=>simp only [step1,aq]at hs;repeat' (first |(split at hs) |(rw [Bool.cond_eq_ite]at hs) |(cases hs;done))
 |nilCheck x=>cases s with
  |go f=>exact λ_=>ahd h aq hs
  |bj x gk bc=>simp only [step1,aq]at hs;repeat' (first |(split at hs) |(simp at hs;done))
 |binOp op t x y t2=>cases s with
  |go f=>exact λcH=>ahq h aq hs cH
  |bj x gk bc=>simp only [step1,aq]at hs;repeat' (first |(split at hs) |(rw [Bool.cond_eq_ite]at hs) |(simp at hs;done))
 |unOp op t x=>cases s with
  |go f=>exact λ_=>ahe h aq hs
  |bj x gk bc=>simp only [step1,aq]at hs;repeat' (first |(split at hs) |(simp at hs;done))
 |convert a b x=>cases s with
  |go f=>exact λcH=>ahf h aq hs cH
  |bj x gk bc=>simp only [step1,aq]at hs;repeat' (first |(split at hs) |(simp at hs;done))
 |makeInterface t x=>cases s with
  |go f=>exact λ_=>ahg h aq hs
  |bj x gk bc=>simp only [step1,aq]at hs;repeat' (first |(split at hs) |(simp at hs;done))
 |makeFunc fn first fq=>
  cases fn with
  |func fn=>cases s with
   |go f=>exact λ_=>ahh h aq hs
   |bj x gk bc=>simp only [step1,aq]at hs;rw [Bool.cond_eq_ite]at hs;split at hs<;>simp at hs
  |_=>simp [step1,aq]at hs
 |slice t x lo hi ku=>cases s with
  |go f=>exact λcH=>ahA h aq hs cH
  |bj x gk bc=>simp only [step1,aq]at hs;repeat' (first |(split at hs) |(rw [Bool.cond_eq_ite]at hs) |(simp at hs;done))
 |fieldAddr a x i=>cases s with
  |go f=>exact λ_=>ahr h aq hs
  |bj x gk bc=>simp only [step1,aq]at hs;repeat' (first |(split at hs) |(rw [Bool.cond_eq_ite]at hs) |(simp at hs;done))
 |field a x i=>cases s with
  |go f=>exact λ_=>aht h aq hs
  |bj x gk bc=>simp only [step1,aq]at hs;repeat' (first |(split at hs) |(rw [Bool.cond_eq_ite]at hs) |(simp at hs;done))
 |indexAddr t x i=>cases s with
  |go f=>exact λcH=>ahw h aq hs cH
  |bj x gk bc=>simp only [step1,aq]at hs;repeat' (first |(split at hs) |(rw [Bool.cond_eq_ite]at hs) |(simp at hs;done))
 |index t x i=>cases s with
  |go f=>exact λcH=>ahy h aq hs cH
  |bj x gk bc=>simp only [step1,aq]at hs;repeat' (first |(split at hs) |(simp at hs;done))
 |typeAssert x a t ok=>cases s with
  |go f=>exact λ_=>ahM h aq hs
  |bj x gk bc=>simp only [step1,aq]at hs;repeat' (first |(split at hs) |(rw [Bool.cond_eq_ite]at hs) |(simp at hs;done) |(cases hs;done))
 |extract x i=>cases s with
  |go f=>exact λ_=>ahi h aq hs
  |bj x gk bc=>simp only [step1,aq]at hs;repeat' (first |(split at hs) |(simp at hs;done))
 |call c=>
  simp only [step1,aq]at hs;split at hs
  ·rename_i x pi;split at hs
   case h_2=>cases hs
   rename_i fn fq ds hx ik;exact ahF h aq pi hx ik hs
  ·rename_i pi;split at hs
   ·rename_i l _ _ _ _ hd ae;cases hs;exact λ_=>XR h aq pi hd ae (.inl ⟨l,rfl,rfl,rfl⟩)
   ·rename_i k n get _ _ _ _ _ hd ae;cases hs;exact λ_=>XR h aq pi hd ae (.inr ⟨k,get,_,rfl,rfl⟩)
   ·cases hs
  ·rename_i pi;split at hs
   case h_2=>cases hs
   rename_i t x e as9 CE ll _ t2 fc e7 eQ;split at hs
   case h_3=>cases hs
   case h_2=>
    rename_i cA k n get d2 y rs hle qf kU eV;rw [Bool.cond_eq_ite]at hs;split at hs
    case isFalse=>cases hs
    rename_i hc;simp only [Bool.and_eq_true,Nat.beq_eq,Nat.ble_eq]at hc;obtain⟨⟨⟨rfl,ua⟩,Hm⟩,v7⟩:=hc;rw [Option.bind_eq_some_iff]at e7 eQ;obtain⟨ahN,Hn,e7⟩:=e7;obtain⟨OK,pc,eQ⟩:=eQ;have jb:=er (ds:=[]) h.bC h.eg kU;split at hs
    case h_2=>cases hs
    rename_i aj m mw e2 fx;rw [Bool.cond_eq_ite]at hs;split at hs
    case isFalse=>cases hs
    rename_i im;simp only [Bool.and_eq_true,Nat.beq_eq,Nat.ble_eq]at im;obtain⟨rfl,hm⟩:=im;cases hs;intro cH;obtain⟨news,kb,mb⟩:=Xc h.bC.bC h.tt eQ fx jb;exact agC h.bC h.eg h.tt e7 rfl hle aq pi fc Hn pc qf Hm hm kb mb (Oo (cH (room (n+m) cA.bytes=true) (by simp))) (cH (hK _ y) (by simp))
   rename_i cA k n get d2 as' a7 y rs hle qf kU vG eV;rw [Bool.cond_eq_ite]at hs;split at hs
   case isFalse=>cases hs
   rename_i hc;simp only [Bool.and_eq_true,Nat.beq_eq,Nat.ble_eq]at hc;obtain⟨⟨⟨⟨rfl,rfl⟩,ua⟩,Hm⟩,v7⟩:=hc;rw [Option.bind_eq_some_iff]at e7 eQ;obtain⟨ahN,Hn,e7⟩:=e7;obtain⟨OK,pc,eQ⟩:=eQ;have jb:=er (ds:=[]) h.bC h.eg kU;split at hs
   ·rename_i aj m mw e2 fx;rw [Bool.cond_eq_ite]at hs;split at hs
    case isFalse=>cases hs
    rename_i im;simp only [Nat.beq_eq]at im;subst im;cases hs;intro cH;obtain⟨news,kb,mb⟩:=Xc h.bC.bC h.tt eQ fx jb;exact W9 h.bC h.eg h.tt e7 rfl hle aq pi fc Hn pc qf vG rfl Hm kb mb (Oo (cH (room (n+m) cA.bytes=true) (by simp))) (cH (hK _ y) (by simp))
   ·rename_i l fx;rw [Bool.cond_eq_ite]at hs;split at hs
    case isFalse=>cases hs
    rename_i im;simp only [Nat.beq_eq]at im;cases hs;intro cH;have OL:=mY jb;obtain⟨news,kb,mb⟩:=agH (P:=P) (w:=w) h.tt eQ fx l M;rw [←OL,←im]at kb;rw [←im]at mb;exact W9 h.bC h.eg h.tt e7 rfl hle aq pi fc Hn pc qf vG rfl Hm kb mb (Oo (cH (room (n+l.length) cA.bytes=true) (by simp))) (cH (hK _ y) (by simp))
   ·cases hs
  ·rename_i pi;split at hs
   ·rename_i k a aj b hd;rw [Bool.cond_eq_ite]at hs;split at hs
    case isFalse=>cases hs
    rename_i hk;have lm:k=aj:=by simpa using hk
    subst lm;cases hs;exact λ_=>ahK h aq pi hd
   ·cases hs
  ·rename_i pi;split at hs
   ·rename_i k a aj b hd;rw [Bool.cond_eq_ite]at hs;split at hs
    case isFalse=>cases hs
    rename_i hk;have lm:k=aj:=by simpa using hk
    subst lm;cases hs;exact λ_=>ahL h aq pi hd
   ·cases hs
  ·cases hs
 |panic x=>cases s with
  |go f=>simp only [step1,aq]at hs;repeat' (first |(split at hs) |(simp at hs;done))
  |bj y gk bc=>
   simp only [step1,aq]at hs;split at hs
   case h_2=>cases hs
   rename_i t z hd;cases hs;intro _;have ah:=er (ds:=[]) h.bC h.eg hd;obtain⟨u,ao,hu⟩:=NG ah;refine .inl ⟨.iface t u,?_,.iface t u z hu,rfl⟩;simp [execOp,aq,ao,Instr.panic]
 |_=>simp [step1,aq]at hs
end
inductive cr where
 |normal
 |exit (id:Nat)
 |ret
 |bj (x:V)
def rm(P:Program)(K:Ctx)(N:Nat)(fI:cr)(st:aK)(e:Exit)(a:Act)(w:World):Prop:=
 match fI with
 |.normal=>e = .normal∧a.defers=K.ds∧a.tmps.size=N∧∃M β,bR P K M β st a.tmps w
 |.exit id=>e = .exit id∧a.defers=K.ds∧a.tmps.size=N∧∃M β,bR P K M β st a.tmps w
 |.ret=>e = .ret∧a.defers=K.ds∧a.tmps.size=N∧∃M β,bR P K M β st a.tmps w
 |.bj x=>∃v,e = .panic [{v,recovered:=false}]∧a.defers=K.ds∧∃M β,dw M v x∧bR P K M β st a.tmps w
section
variable {P:Program} {K:Ctx} {N:Nat} {M:Mem} {β:Nat→Option Nat} {st:aK} {g fa:dt} {tmps:Array Value} {w:World} {o:Oper} {f:lG} {p:Path} {tt:dS} {ops:List Oper}
def bR.CF(h:bR P K M β st tmps w)(eB:Array Value):bR P K M β {env:=[],H:=st.H,a1:=st.a1} eB w:=by
 have Z:bR P K M β {env:=[],H:=st.H,a1:=st.a1} tmps w:=h.sub rfl (λl e ae=>by
  cases l with
  |slot s=>simp [aK.at,look]at ae
  |cell r i=>exact⟨e,ae,rfl,λ_ h=>h⟩) (λr cs ah=>⟨cs,ah,rfl⟩)
 have ao:∀l e,({env:=[],H:=st.H,a1:=st.a1}:aK).at l=some e→cn eB w β l=cn tmps w β l:=by
  intro l e ae;cases l with
  |slot s=>simp [aK.at,look]at ae
  |cell r i=>rfl
 constructor
 ·intro l e ae;rw [ao l e ae];exact Z.fb l e ae
 ·intro l e T ae aT;rw [ao l e ae];exact Z.own l e T ae aT
 ·intro l cR e a7 T T' b ae aT cZ ep hb b0;rw [ao l e ae]at hb;rw [ao cR a7 cZ]at b0;exact Z.uniq l cR e a7 T T' b ae aT cZ ep hb b0
 ·intro l e T b r cs ae aT hb ah;rw [ao l e ae]at hb;exact Z.unbox l e T b r cs ae aT hb ah
 ·exact Z.box
 ·exact Z.inj
 ·exact Z.lt
 ·exact Z.mem
 ·exact Z.m0
 ·exact Z.frame
 ·exact Z.iH
 ·exact Z.jq
 ·exact Z.h1
def CG(h:fO P K N M β g tmps w):∀{p:Path} {q:Prop},fV tmps p→under g p q→q
 |[],_,_,av=>av
 |(t,pe)::p,q,hp,av=>by
  have ax:tmps.getD t undef = .bool pe:=hp (t,pe) (by simp)
  have yR:fV tmps p:=λx hx=>hp x (by simp [hx])
  simp only [under]at av;split at av
  ·rename_i b hb;refine CG h yR (av ?_);unfold B5 at hb;split at hb
   ·rename_i q' bM hc;cases hb;by_cases jd:fV tmps q'
    ·have:=vA ((h.cond t _ _ hc).1 jd)
     rw [ax]at this;cases this;rfl
    ·have:=(h.cond t _ _ hc).2 jd
     rw [ax]at this;cases this
   ·cases hb
   ·split at hb
    ·rename_i bM own he;cases hb;have:=vA (h.bC.fb (.slot t) _ he)
     simp only [cn]at this;rw [ax]at this;cases this;rfl
    ·cases hb
  ·exact CG h yR av
def XU(h:fO P K N M β g tmps w){opsA:Array Oper}(nw:opsA.toList=ops)(hp:p9 ops g o=some p):Region.wanted o (yielded opsA tmps)=true↔fV tmps p:=by
 unfold p9 at hp;split at hp
 ·rename_i hg;cases hp;simp [Region.wanted,hg,fV]
 ·rename_i j pe hg;split at hp
  case h_2=>cases hp
  rename_i t ax
  have ci:yielded opsA tmps j=some pe↔tmps.getD t undef = .bool pe:=by
   unfold yielded;have:opsA[j]? = ops[j]? := by rw [←nw];simp
   rw [this,ax];simp only [Option.bind_some,Array.getD_eq_getD_getElem?];cases bB:tmps[t]? with
   |none=>simp [undef]
   |some v=>cases v<;>simp
  have hw:Region.wanted o (yielded opsA tmps)=true↔tmps.getD t undef = .bool pe:=by
   rw [←ci];simp [Region.wanted,hg]
  split at hp
  ·rename_i q b hc;cases hp;rw [hw];constructor
   ·intro gl x hx;rcases List.mem_append.1 hx with hx|hx
    ·by_cases jd:fV tmps q
     ·exact jd x hx
     ·have:=(h.cond t _ _ hc).2 jd
      rw [gl]at this;cases this
    ·simp at hx;subst hx;exact gl
   ·intro jd;exact jd (t,pe) (by simp)
  ·cases hp
  ·split at hp
   ·cases hp;rw [hw];exact⟨λh x hx=>by simp at hx;subst hx;exact h,λh=>h (t,pe) (by simp)⟩
   ·cases hp
def OM{t:Nat}{v:Value}{q:Path}(av:∀x,x∈q→x.1≠t):fV (tmps.setIfInBounds t v) q↔fV tmps q:=by
 unfold fV;constructor<;>intro h x hx
 ·have:=h x hx
  rwa [Array.getD_eq_getD_getElem?,Array.getElem?_setIfInBounds_ne (Ne.symm (av x hx)),←Array.getD_eq_getD_getElem?]at this
 ·have:=h x hx
  rwa [Array.getD_eq_getD_getElem?,Array.getElem?_setIfInBounds_ne (Ne.symm (av x hx)),←Array.getD_eq_getD_getElem?]
def ahO{t s:Nat}{v:Value}(h:s≠t):(tmps.setIfInBounds t v).getD s undef=tmps.getD s undef:=by
 rw [Array.getD_eq_getD_getElem?,Array.getElem?_setIfInBounds_ne (Ne.symm h),←Array.getD_eq_getD_getElem?]
def ahP{ca:List (Nat×Path×D)}{t:Nat}(h:yp ca t=true){s:Nat}{q:Path}{d:D}(hc:look ca s=some (q,d))(hs:s≠t):∀x,x∈q→x.1≠t:=by
 unfold yp at h;rw [List.all_eq_true]at h;have:=h _ (sr hc)
 simp only [Bool.or_eq_true,Nat.beq_eq,List.all_eq_true,Bool.not_eq_true']at this;rcases this with Z|Z
 ·exact absurd Z hs
 ·intro x hx e;have:=Z x hx
  rw [e]at this;simp at this
def ON(h:∀t q d,look g.ca t=some (q,d)→(fV tmps q→cE M β (tmps.getD t undef) d)∧(¬ fV tmps q→tmps.getD t undef=undef)){t:Nat}{v:Value}(cc:yp g.ca t=true){M':Mem}{β':Nat→Option Nat}
 (db:M.le M') (hL:∀r b,β r=some b→β' r=some b):
 ∀s q d,look (del g.ca t) s=some (q,d)→(fV (tmps.setIfInBounds t v) q→cE M' β' ((tmps.setIfInBounds t v).getD s undef) d)∧(¬ fV (tmps.setIfInBounds t v) q→(tmps.setIfInBounds t v).getD s undef=undef):=by
 intro s q d hc;rw [q3]at hc;by_cases hs:t=s
 ·simp [hs]at hc
 ·rw [if_neg hs]at hc;rw [OM (ahP cc hc (Ne.symm hs)),ahO (Ne.symm hs)];exact⟨λjd=>(((h s q d hc).1 jd).mono db).Ns hL,(h s q d hc).2⟩
def yS(ds:List Deferred):Act.eval ⟨tmps,ds⟩=Act.eval ⟨tmps,[]⟩:=by
 funext x;cases x<;>rfl
def XV{α:Type}:∀(a b:List (Nat×α)) (q:Nat),look (a++b) q=none→look a q=none∧look b q=none
 |[],b,q,h=>⟨rfl,h⟩
 |(j,x)::a,b,q,h=>by
  simp only [List.cons_append,dN]at h ⊢;by_cases hj:j=q
  ·simp [hj]at h
  ·simp only [hj,if_false]at h ⊢;exact XV a b q h
def fO.OO(h:fO P K N M β g tmps w){β':Nat→Option Nat}{hs:List (Nat×List aZ)}(v8:∀r b,β' r=some b→β r=some b∨(look hs r).isSome=true):
 ∀s id,look g.ids s=some id→look (hs++g.H) id=none→∀b,β' id≠some b:=by
 intro s id hid ae b hb;obtain⟨Z,ad⟩:=XV _ _ _ ae;rcases v8 id b hb with am|am
 ·exact h.fresh s id hid ad b am
 ·rw [Z]at am;cases am
def CH(h:fO P K N M β g tmps w)(co:fl P tt=true){opsA:Array Oper}(nw:opsA.toList=ops)(hs:kv (hT P) tt N ops g o=some (.go fa))(cH:∀q,q∈fa.bc→q){Q:Exit→Act→World→Prop}{next:Act→World→Prop}
 (gv:∀eB w' M' β',fO P K N M' β' fa eB w'→next ⟨eB,K.ds⟩ w'):
 if Region.wanted o (yielded opsA tmps)then o.wp P ⟨tmps,K.ds⟩ w next Q∨(o.asks P ⟨tmps,K.ds⟩ w∧LetsOut Q)else next ((⟨tmps,K.ds⟩:Act).put o.dst undef) w:=by
 unfold kv at hs;split at hs
 case h_1=>cases hs
 rename_i p hp;have hw:=XU h nw hp;split at hs
 ·cases hs
 ·rw [Bool.cond_eq_ite]at hs;split at hs<;>cases hs
 rename_i f cc
 dsimp only at hs
 by_cases jd:fV tmps p
 ·rw [if_pos (
   hw.2 jd)]
  refine .inl ?_;have il:=XT (g:=g) (ops:=ops) ⟨h,jd,co⟩ cc
  -- G2 follows once lN value is there
  have main:(∀q,q∈f.bc→q)∧∀v w',yE P K M β g f tmps v w'→next ((⟨tmps,K.ds⟩:Act).put o.dst v) w':=by
   split at hs
   ·rename_i v';rw [Bool.cond_eq_ite]at hs;split at hs
    case isFalse=>cases hs
    rename_i v7;have CI:p=[]:=by simpa using v7
    subst CI;cases hs;refine⟨λq av=>CG h jd (cH _ (List.mem_append_left _ (List.mem_map.2 ⟨q,av,rfl⟩))),?_⟩
    rintro v w' ⟨M',β',db,hL,v8,c',_⟩
    rw [v'];exact gv tmps w' M' β' ⟨c',h.size,h.OO v8,λs q d hc=>⟨λjd=>(((h.cond s q d hc).1 jd).mono db).Ns hL,(h.cond s q d hc).2⟩⟩
   ·rename_i t v';rw [Bool.cond_eq_ite]at hs;split at hs
    case isFalse=>cases hs
    rename_i hc;simp only [Bool.and_eq_true,Nat.blt_eq]at hc;have b2:t<tmps.size:=by rw [h.size];exact hc.1
    rcases p with _|⟨x,OP⟩<;>dsimp only at hs
    ·cases hs;refine⟨λq av=>CG h jd (cH _ (List.mem_append_left _ (List.mem_map.2 ⟨q,av,rfl⟩))),?_⟩
     rintro v w' ⟨M',β',db,hL,v8,c',il⟩
     rw [v'];refine gv _ w' M' β' ⟨?_,by simpa using h.size,h.OO v8,ON h.cond hc.2 db hL⟩
     cases he:f.e with
     |none=>exact c'.drop
     |some e=>
      obtain⟨Z,ad⟩:=il e he;exact c'.put b2 Z (λT aT=>ad T _ aT)
    ·split at hs
     ·rename_i e he v_ o_;rw [Bool.cond_eq_ite]at hs;split at hs
      case isFalse=>cases hs
      rename_i kY;simp only [Bool.and_eq_true,List.all_eq_true,Nat.beq_eq,Bool.not_eq_true']at kY;cases hs;refine⟨λq av=>CG h jd (cH _ (List.mem_append_left _ (List.mem_map.2 ⟨q,av,rfl⟩))),?_⟩
      rintro v w' ⟨M',β',db,hL,v8,c',il⟩
      rw [v'];obtain⟨Z,_⟩:=il e he
      have kV:∀y,y∈x::OP→y.1≠t:=λy ci e=>by
       have:=kY.1 y ci
       rw [e]at this;simp at this
      refine gv _ w' M' β' ⟨?_,by simpa using h.size,by have:=h.OO v8;rw [v_]at this;exact this,λs q d ev=>?_⟩
      ·have:after g f={env:=g.env,H:=g.H,a1:=g.a1}:=by unfold after;rw [o_,v_,kY.2];rfl
       rw [this]at c';exact c'.drop
      ·rw [dN]at ev;by_cases kS:t=s
       ·rw [if_pos kS]at ev;cases ev;subst kS;rw [OM kV];refine⟨λ_=>?_,λhn=>absurd jd hn⟩
        have:(tmps.setIfInBounds t v).getD t undef=v:=by simp [b2]
        rw [this];exact Z
       ·rw [if_neg kS]at ev;exact ON h.cond hc.2 db hL s q d ev
     ·cases hs
  obtain⟨ahQ,jv⟩:=main;rcases il ahQ with⟨v,w',eX,lR⟩|⟨he,w',eX,lR⟩|⟨fn,vs,eX,wa⟩
  ·unfold Oper.wp;rw [yS,eX];exact jv v w' lR
  ·unfold Oper.wp;rw [yS,eX];exact jv undef w' lR
  ·unfold Oper.wp;rw [yS,eX];refine wa.mono ?_
   rintro e w' ⟨v,rfl,lR⟩
   exact jv v w' lR
 ·have ahR:Region.wanted o (yielded opsA tmps)=false:=by
   rw [Bool.eq_false_iff];exact λbB=>jd (hw.1 bB)
  rw [ahR];simp only [Bool.false_eq_true,if_false];split at hs
  ·rename_i v';rw [Bool.cond_eq_ite]at hs;split at hs
   case isFalse=>cases hs
   rename_i v7;have CI:p=[]:=by simpa using v7
   subst CI;exact absurd (λx hx=>by cases hx) jd
  ·rename_i t v';rw [Bool.cond_eq_ite]at hs;split at hs
   case isFalse=>cases hs
   rename_i hc;simp only [Bool.and_eq_true,Nat.blt_eq]at hc;rcases p with _|⟨x,OP⟩<;>dsimp only at hs
   ·exact absurd (λx hx=>by cases hx) jd
   ·split at hs
    ·rename_i e he v_ o_;rw [Bool.cond_eq_ite]at hs;split at hs
     case isFalse=>cases hs
     rename_i kY;simp only [Bool.and_eq_true,List.all_eq_true,Nat.beq_eq,Bool.not_eq_true']at kY;cases hs;rw [v']
     have kV:∀y,y∈x::OP→y.1≠t:=λy ci e=>by
      have:=kY.1 y ci
      rw [e]at this;simp at this
     refine gv _ w M β ⟨h.bC.drop,by simpa using h.size,h.fresh,λs q d ev=>?_⟩
     rw [dN]at ev;by_cases kS:t=s
     ·rw [if_pos kS]at ev;cases ev;subst kS;rw [OM kV];refine⟨λbB=>absurd bB jd,λ_=>?_⟩
      have b2:t<tmps.size:=by rw [h.size];exact hc.1
      simp [b2]
     ·rw [if_neg kS]at ev;exact ON h.cond hc.2 (Mem.le_refl _) (λ_ _ h=>h) s q d ev
    ·cases hs
end
section
variable {P:Program} {K:Ctx} {N E:Nat} {M:Mem} {β:Nat→Option Nat} {st:aK} {g fa:dt} {tmps:Array Value} {w:World} {o:Oper} {f:lG} {p:Path} {tt:dS} {ops:List Oper}
def XW(h:fO P K N M β g tmps w)(co:fl P tt=true){opsA:Array Oper}(nw:opsA.toList=ops){x:V}{st:aK}{bc:List Prop}(hs:kv (hT P) tt N ops g o=some (.bj x st bc))(cH:∀q,q∈bc→q){Q:Exit→Act→World→Prop}{next:Act→World→Prop}
 (gv:∀e dO w',rm P K N (.bj x) st e dO w'→Q e dO w'):
 if Region.wanted o (yielded opsA tmps)then o.wp P ⟨tmps,K.ds⟩ w next Q∨(o.asks P ⟨tmps,K.ds⟩ w∧LetsOut Q)else next ((⟨tmps,K.ds⟩:Act).put o.dst undef) w:=by
 unfold kv at hs;split at hs
 case h_1=>cases hs
 rename_i p hp;have hw:=XU h nw hp;split at hs
 ·cases hs
 ·rename_i y gk ub dC;rw [Bool.cond_eq_ite]at hs;split at hs
  case isFalse=>cases hs
  rename_i v7;have CI:p=[]:=by simpa using v7
  subst CI;cases hs;have jd:fV tmps []:=λx hx=>by cases hx
  rw [if_pos (hw.2 jd)];refine .inl ?_;have il:=XT (g:=g) (ops:=ops) ⟨h,jd,co⟩ dC;rcases il (λq av=>cH q (List.mem_append_left _ av)) with⟨v,eX,ah,rfl⟩|⟨fn,vs,eX,wa⟩
  ·unfold Oper.wp;rw [yS,eX];exact gv _ _ _ ⟨v,rfl,rfl,M,β,ah,h.bC.p8 λs e he=>⟨e,he,rfl⟩⟩
  ·unfold Oper.wp;rw [yS,eX];refine wa.mono ?_
   rintro e w' ⟨v,M',rfl,ah,c'⟩
   exact gv _ _ _ ⟨v,rfl,rfl,M',β,ah,c'⟩
 ·dsimp only at hs
  repeat' (first|(split at hs)|(rw [Bool.cond_eq_ite]at hs)|(cases hs;done))
def ahS{cx:gJ}(hs:kv cx tt N ops g o=some (.go fa)):∀q,q∈g.bc→q∈fa.bc:=by
 intro q av;unfold kv at hs;split at hs
 case h_1=>cases hs
 split at hs
 ·cases hs
 ·rw [Bool.cond_eq_ite]at hs;split at hs<;>cases hs
 ·dsimp only at hs
  repeat' (first|(split at hs)|(rw [Bool.cond_eq_ite]at hs)|(cases hs;exact List.mem_append_right _ av)|(cases hs;done))
def ahT{cx:gJ}{x:V}{st:aK}{bc:List Prop}(hs:kv cx tt N ops g o=some (.bj x st bc)):∀q,q∈g.bc→q∈bc:=by
 intro q av;unfold kv at hs;split at hs
 case h_1=>cases hs
 split at hs
 ·cases hs
 ·rw [Bool.cond_eq_ite]at hs;split at hs<;>cases hs;exact List.mem_append_right _ av
 ·dsimp only at hs
  repeat' (first|(split at hs)|(rw [Bool.cond_eq_ite]at hs)|(cases hs;done))
def XX:tL→List Prop
 |.go g=>g.bc
 |.bj _ _ bc=>bc
def XY{cx:gJ}:∀{l:List Oper} {g:dt} {fin:tL},tM cx tt N ops l g=some fin→∀q,q∈g.bc→q∈XX fin
 |[],g,fin,h,q,av=>by simp [tM]at h;subst h;exact av
 |o::l,g,fin,h,q,av=>by
  simp only [tM]at h;split at h
  ·rename_i fa hs;exact XY h q (ahS hs q av)
  ·cases fin with
   |go fa=>exact absurd h (by intro bB;rename_i dY;exact dY _ bB)
   |bj x st bc=>exact ahT h q av
def OQ(co:fl P tt=true){opsA:Array Oper}(nw:opsA.toList=ops){Q:Exit→Act→World→Prop}{fin:tL}(ln:∀q,q∈XX fin→q)
 (dT:match fin with
  |.go fa=>∀eB w' M' β',fO P K N M' β' fa eB w'→Q .normal ⟨eB,K.ds⟩ w'
  |.bj x st _=>∀e dO w',rm P K N (.bj x) st e dO w'→Q e dO w'):
 ∀(l:List Oper) (k:Nat) (g:dt) (tmps:Array Value) (w:World) (M:Mem) (β:Nat→Option Nat),(∀j,l[j]? = ops[k+j]?)→fO P K N M β g tmps w→tM (hT P) tt N ops l g=some fin→
  wpOps P opsA Q (List.range' k l.length) ⟨tmps,K.ds⟩ w
 |[],k,g,tmps,w,M,β,_,h,ah=>by
  simp [tM]at ah;subst ah;exact dT tmps w M β h
 |o::l,k,g,tmps,w,M,β,ae,h,ah=>by
  have hk:opsA[k]? = some o:=by
   have:=ae 0
   simp at this
   rw [←Array.getElem?_toList,nw];exact this.symm
  simp only [List.length_cons,List.range'_succ,wpOps,hk];simp only [tM]at ah;split at ah
  ·rename_i fa hs;refine CH h co nw hs (λq av=>ln q (XY ah q av)) (λeB w' M' β' cO=>?_)
   exact OQ co nw ln dT l (k+1) fa eB w' M' β' (λj=>by have:=ae (j+1);simpa [Nat.add_assoc,Nat.add_comm 1 j]using this) cO ah
  ·cases fin with
   |go fa=>exact absurd ah (by intro bB;rename_i dY;exact dY _ bB)
   |bj x st bc=>exact XW h co nw ah ln (λe dO w' ch=>dT e dO w' ch)
def ba(P:Program)(N E:Nat)(c:Code)(Q:cr→aK→Prop)(st:aK):Prop:=
 ∀(K:Ctx),(∀r b,K.j' r=some b→r<E)→∀(a:Act) (w:World),rm P K N .normal st .normal a w→c.wp P (λe dO w'=>∃fI b',rm P K N fI b' e dO w'∧Q fI b') a w
def ba.mono{c:Code}{Q XZ:cr→aK→Prop}(h:ba P N E c Q st)(av:∀fI b',Q fI b'→XZ fI b'):ba P N E c XZ st:=
 λK et a w hs=>wp_mono (h K et a w hs) λ_ _ _ ⟨fI,b',Z,ad⟩=>⟨fI,b',Z,av _ _ ad⟩
@[reducible] def cr.then (next : aK → Prop) (Q : cr → aK → Prop) : cr → aK → Prop
 |.normal,st=>next st
 |e,st=>Q e st
@[reducible] def cr.inBlock (id : Nat) (Q : cr → aK → Prop) : cr → aK → Prop
 |.exit i,st=>if i=id then Q .normal st else Q (.exit i) st
 |e,st=>Q e st
def ba.seq{x y:Code}{Q:cr→aK→Prop}(h:ba P N E x (cr.then (ba P N E y Q) Q) st):ba P N E (.seq x y) Q st:=by
 intro K et a w hs;refine wp_seq (wp_mono (h K et a w hs) ?_)
 rintro e dO w' ⟨fI,b',Z,ad⟩
 cases fI with
 |normal=>
  obtain⟨rfl,am⟩:=Z;exact ad K et dO w' ⟨rfl,am⟩
 |exit i=>obtain⟨rfl,am⟩:=Z;exact⟨.exit i,b',⟨rfl,am⟩,ad⟩
 |ret=>obtain⟨rfl,am⟩:=Z;exact⟨.ret,b',⟨rfl,am⟩,ad⟩
 |bj x=>obtain⟨v,rfl,am⟩:=Z;exact⟨.bj x,b',⟨v,rfl,am⟩,ad⟩
def ba.skip{Q:cr→aK→Prop}(h:Q .normal st):ba P N E .skip Q st:=λ_ _ _ _ hs=>wp_skip ⟨.normal,st,hs,h⟩
def ba.label{l:Nat}{Q:cr→aK→Prop}(h:Q .normal st):ba P N E (.label l) Q st:=λ_ _ _ _ hs=>wp_label ⟨.normal,st,hs,h⟩
def ba.exit{id:Nat}{Q:cr→aK→Prop}(h:Q (.exit id) st):ba P N E (.exit id) Q st:=λ_ _ _ _ hs=>wp_exit ⟨.exit id,st,⟨rfl,hs.2⟩,h⟩
def ba.ret{Q:cr→aK→Prop}(h:Q .ret st):ba P N E .ret Q st:=λ_ _ _ _ hs=>wp_ret ⟨.ret,st,⟨rfl,hs.2⟩,h⟩
def ba.block{id:Nat}{c:Code}{Q:cr→aK→Prop}(h:ba P N E c (cr.inBlock id Q) st):ba P N E (.block id c) Q st:=by
 intro K et a w hs;refine wp_block (wp_mono (h K et a w hs) ?_)
 rintro e dO w' ⟨fI,b',Z,ad⟩
 cases fI with
 |normal=>obtain⟨rfl,am⟩:=Z;exact⟨.normal,b',⟨rfl,am⟩,ad⟩
 |exit i=>
  obtain⟨rfl,am⟩:=Z;by_cases hi:i=id
  ·simp only [cr.inBlock,hi,if_true]at ad;simp only [Exit.inBlock,hi,if_true];exact⟨.normal,b',⟨rfl,am⟩,ad⟩
  ·simp only [cr.inBlock,hi,if_false]at ad;simp only [Exit.inBlock,hi,if_false];exact⟨.exit i,b',⟨rfl,am⟩,ad⟩
 |ret=>obtain⟨rfl,am⟩:=Z;exact⟨.ret,b',⟨rfl,am⟩,ad⟩
 |bj x=>obtain⟨v,rfl,am⟩:=Z;exact⟨.bj x,b',⟨v,rfl,am⟩,ad⟩
def ba.cond{c:Nat}{x y:Code}{Q:cr→aK→Prop}(b:Bool)(own:Option TypeId)(hc:look st.env c=some ⟨.v (.bool b),own⟩)(ax:b=true→ba P N E x Q st)(cc:b=false→ba P N E y Q st):ba P N E (.cond (.tmp c) x y) Q st:=by
 intro K et a w hs;obtain⟨_,_,_,M,β,c'⟩:=id hs;have ao:a.eval (.tmp c) = .bool b:=vA (c'.fb (.slot c) _ hc);exact wp_cond_split ao (λhb=>ax hb K et a w hs) (λhb=>cc hb K et a w hs)
def ba.loop{c:Code}{Q:cr→aK→Prop}{σ:Type}(I:Nat→σ→aK→Prop)(X0:∀n s st,I n s st→∃m,n=m+1∧ba P N E c (cr.then (λb'=>∃sq,I m sq b') Q) st)
 {n:Nat} {s:σ} {st:aK} (h0:I n s st):ba P N E (.loop c) Q st:=by
 intro K et a w hs b k cs
 have key:∀n s st a w,I n s st→rm P K N .normal st .normal a w→
  ∃e dO w',(∃fI b',rm P K N fI b' e dO w'∧Q fI b')∧Arrives P (lone (b.at a (.code c :: .inLoop c::k)) cs w) b k cs e dO w':=by
  intro n;induction n with
  |zero=>
   intro s st a w mf _;obtain⟨m,hm,_⟩:=X0 0 s st mf;omega
  |succ n aW=>
   intro s st a w mf hs;obtain⟨m,hm,OG⟩:=X0 (n+1) s st mf;have:m=n:=by omega
   subst this;obtain⟨e,Ho,Hp,⟨fI,b',Z,ad⟩,yT⟩:=OG K et a w hs b (.inLoop c::k) cs;cases fI with
   |normal=>
    obtain⟨rfl,am⟩:=Z;obtain⟨sq,ahU⟩:=ad;obtain⟨ahV,ahW,ahX,ahY,ahZ⟩:=aW sq b' Ho Hp ahU ⟨rfl,am⟩;exact⟨ahV,ahW,ahX,ahY,.of_steps (Steps.trans yT (.one step_inLoop)) ahZ⟩
   |exit i=>obtain⟨rfl,am⟩:=Z;exact⟨_,Ho,Hp,⟨.exit i,b',⟨rfl,am⟩,ad⟩,.pass (x:=.inLoop c) rfl (λ_ _=>.inl (by simp)) yT⟩
   |ret=>obtain⟨rfl,am⟩:=Z;exact⟨_,Ho,Hp,⟨.ret,b',⟨rfl,am⟩,ad⟩,.pass (x:=.inLoop c) rfl (λ_ _=>.inl (by simp)) yT⟩
   |bj x=>obtain⟨v,rfl,am⟩:=Z;exact⟨_,Ho,Hp,⟨.bj x,b',⟨v,rfl,am⟩,ad⟩,.pass (x:=.inLoop c) rfl (λ_ _=>.inl (by simp)) yT⟩
 obtain⟨e,dO,w',av,yT⟩:=key n s st a w h0 hs;exact⟨e,dO,w',av,.of_steps (.one step_loop) yT⟩
end
def yU(tt:dS)(st:aK):ResultVar→Option D
 |.tmp t=>(look st.env t).map (·.d)
 |.cell a t=>match look st.env a,look tt t with
  |some ⟨.ptr r off,_⟩,some aJ=>match look st.H r with
   |some cs=>bif aJ.k.isAgg then(bif Nat.ble (off+aJ.size) cs.length then some (mT (((cs.drop off).take aJ.size).map (·.d)))else none) else(cs[off]?).map (·.d)
   |none=>none
  |_,_=>none
def X1(tt:dS)(st:aK):List ResultVar→Option (D×Option TypeId)
 |[.tmp t]=>(look st.env t).map λe=>(e.d,e.own)
 |[x]=>(yU tt st x).map (·,none)
 |xs=>(mapM' (yU tt st) xs).map λds=>(.bU ds,none)
def leave(tt:dS)(E:Nat)(rs:List ResultVar)(st:aK):Option (Out×List (List aZ)):=
 match X1 tt st rs,boxes st.H (List.range E) with
 |some (d,own),some H'=>bif below E d&&H'.all (sl E)then some (.ret d own,H')else none
 |_,_=>none
def Hq(E:Nat)(H:List (Nat×List aZ)):Option (List (List aZ)):=
 match boxes H (List.range E) with
 |some H'=>bif H'.all (sl E)then some H' else none
 |none=>none
def sF(tt:dS)(E c:Nat):List ResultVar→aK→Option (Out×List (List aZ))
 |[.cell a t],st=>match look st.env a,look tt t with
  |some ⟨.ptr r off,_⟩,some aJ=>match look st.H r,boxes st.H (List.range E) with
   |some cs,some H'=>
    bif (((((aJ.k.isAgg&&Nat.ble (off+aJ.size) cs.length)&&tJ (marks c) (marksOf 0 ((cs.drop off).take aJ.size)))&&Nat.ble E r)&&below E (mT (((cs.drop off).take aJ.size).map (·.d))))&&H'.all (sl E)) then
     some (.ret (mT (((cs.drop off).take aJ.size).map (·.d))) (some c),H')else none
   |_,_=>none
  |_,_=>none
 |_,_=>none
def oo(H:List (List aZ)):List (List aZ):=H.map λb=>b.map λe=>{d:=e.d}
def sG(tt:dS)(E:Nat)(rs:List ResultVar)(R:Out→List (List aZ)→Prop):cr→aK→Prop
 |.normal,st=>∃o H',(leave tt E rs st=some (o,H')∨∃c,sF tt E c rs st=some (o,H'))∧R o H'
 |.ret,st=>∃o H',(leave tt E rs st=some (o,H')∨∃c,sF tt E c rs st=some (o,H'))∧R o H'
 |.bj x,st=>∃H',Hq E st.H=some H'∧R (.bj x) (oo H')
 |.exit _,_=>False
section
variable {P:Program} {K:Ctx} {N E:Nat} {M:Mem} {β:Nat→Option Nat} {st:aK} {tmps:Array Value} {w:World} {tt:dS}
def yV(tmps:Array Value):ResultVar→Sem Value
 |.tmp t=>pure (tmps.getD t undef)
 |.cell a t=>do loadVar t (←asAddr (tmps.getD a undef))
def X2(h:bR P K M β st tmps w)(co:fl P tt=true){x:ResultVar}{d:D}(hx:yU tt st x=some d):
 ∃v,(yV tmps x).run P w = .ok v w∧cE M β v d:=by
 cases x with
 |tmp t=>
  simp only [yU,Option.map_eq_some_iff]at hx;obtain⟨e,he,rfl⟩:=hx;exact⟨_,rfl,h.fb (.slot t) e he⟩
 |cell a t=>
  simp only [yU]at hx;split at hx
  case h_2=>cases hx
  rename_i r off own aJ ha ae;obtain⟨row⟩:=eK co ae;split at hx
  case h_2=>cases hx
  rename_i cs ah;obtain⟨b,hb,ao⟩:=o9 (h.fb (.slot a) _ ha);simp only [cn]at ao;obtain⟨bM,vs,T,b0,bB,hlen,_,_,gL,lg⟩:=h.box r cs ah;rw [hb]at b0;cases b0
  have X3:∀{u:Value},(Instr.loadAt t (.pointer (some ⟨b,off,none⟩))).run P w = .ok u w→(do loadVar t (←asAddr (tmps.getD a undef)):Sem Value).run P w = .ok u w:=by
   intro u hu;rw [ao];simpa [Instr.loadAt,Instr.sureAddr,asAddr]using hu
  rw [Bool.cond_eq_ite]at hx;split at hx
  ·rename_i h3;rw [Bool.cond_eq_ite]at hx;split at hx
   case isFalse=>cases hx
   rename_i hle;simp only [Nat.ble_eq]at hle;cases hx;refine⟨_,X3 (GU (P:=P) row (off:=off) bB (by omega) h3),?_⟩
   refine yB (by simp;omega) (λv ao=>gL v (List.mem_of_mem_drop (List.mem_of_mem_take ao))) (λi v c ao hc=>?_)
   rw [List.getElem?_map,Option.map_eq_some_iff]at hc;obtain⟨e,he,rfl⟩:=hc;rw [List.getElem?_take]at ao he;split at ao
   ·rename_i hi;rw [if_pos hi,List.getElem?_drop]at he;rw [List.getElem?_drop]at ao;have:=h.fb (.cell r (off+i)) e (by simp [aK.at,ah,he])
    simpa [cn,hb,cell_of_heap bB,ao]using this
   ·cases ao
  ·rename_i h3;simp only [Option.map_eq_some_iff]at hx;obtain⟨e,he,rfl⟩:=hx;obtain⟨jI,agG,p_,v,fk,Xb,eU,cB⟩:=Nx h ah he;rw [hb]at fk;cases fk;refine⟨v,X3 (NH (P:=P) row (by rw [cell_of_heap Xb,eU]) (by simpa using h3)),?_⟩
   have:=h.fb (.cell r off) e (by simp [aK.at,ah,he])
   rwa [cB]at this
def X4(h:bR P K M β st tmps w)(co:fl P tt=true):∀{xs:List ResultVar} {ds:List D},mapM' (yU tt st) xs=some ds→
 ∃vs:List Value,(xs.mapM (yV tmps)).run P w = .ok vs w∧vs.length=ds.length∧
  ∀(i:Nat) v d,vs[i]? = some v→ds[i]? = some d→cE M β v d
 |[],ds,hx=>by simp [mapM']at hx;subst hx;exact⟨[],rfl,rfl,by simp⟩
 |x::xs,ds,hx=>by
  simp only [mapM']at hx;split at hx
  case h_2=>cases hx
  rename_i d ahD hd ik;cases hx;obtain⟨v,ao,f9⟩:=X2 h co hd;obtain⟨vs,nu,ae,ah⟩:=X4 h co ik;refine⟨v::vs,?_,by simp [ae],λi u c hu hc=>?_⟩
  ·simp only [List.mapM_cons,Sem.run_bind,ao,Result.andThen_ok,nu,Sem.run_pure]
  ·cases i with
   |zero=>simp at hu hc;subst hu;subst hc;exact f9
   |succ i=>simp at hu hc;exact ah i u c hu hc
def ah0{H:List (Nat×List aZ)}{E:Nat}{H':List (List aZ)}(h:boxes H (List.range E)=some H'):H'.length=E∧∀r,r<E→look H r=H'[r]? ∧ (H'[r]?).isSome=true:=by
 obtain⟨Z,ad⟩:=vN h;exact⟨by simpa using Z,λr ah=>ad r r (by simp [ah])⟩
def bR.leave(h:bR P K M β st tmps w){H':List (List aZ)}(wb:boxes st.H (List.range E)=some H')(X5:H'.all (sl E)=true)(et:∀r b,K.j' r=some b→r<E){v:Value}{d:D}{own:Option TypeId}
 (ao:cE M β v d) (hd:below E d=true) (f8:∀T,own=some T→∃l,mV P K M β {env:=gX l st.env,H:=st.H,a1:=st.a1} tmps w (.slot 0) v T∧True):
 ∃ β',bR P K M β' {env:=[(0,{d,own})],H:=da 0 H',a1:=E} #[v] w:=by
 obtain⟨ae,md⟩:=ah0 wb;have Z:=h.CF #[undef]
 have kX:∀r cs,look (da 0 H') r=some cs→r<E∧look st.H r=some cs:=by
  intro r cs ah;rw [nv]at ah;have b2:r<E:=by have:=(List.getElem?_eq_some_iff.1 ah).1;omega
  exact⟨b2,by rw [(md r b2).1];exact ah⟩
 have hle:E≤st.a1∨E=0:=by
  by_cases h0:E=0
  ·exact .inr h0
  ·obtain⟨ad,am⟩:=md (E-1) (by omega)
   obtain⟨cs,ev⟩:=Option.isSome_iff_exists.1 am;rw [ev]at ad;obtain⟨b,_,_,hb,_⟩:=h.box _ cs ad;have:=h.lt _ b hb
   exact .inl (by omega)
 have ad:bR P K M β {env:=[],H:=da 0 H',a1:=st.a1} #[undef] w:=by
  refine Z.sub rfl (λl e ae=>?_) (λr cs ah=>⟨cs,(kX r cs ah).2,rfl⟩)
  cases l with
  |slot s=>simp [aK.at,look]at ae
  |cell r i=>
   simp only [aK.at]at ae ⊢;cases ah:look (da 0 H') r with
   |none=>simp [ah]at ae
   |some cs=>simp [ah]at ae;exact⟨e,by simp [(kX r cs ah).2,ae],rfl,λ_ h=>h⟩
 -- lN slot
 have am:bR P K M β {env:=[(0,{d,own})],H:=da 0 H',a1:=st.a1} #[v] w:=by
  have ah1:=ad.put (t:=0) (v:=v) (e:={d,own}) (by simp) ao (λT aT=>?_)
  ·simpa using ah1
  ·obtain⟨l,hn,_⟩:=f8 T aT;refine⟨hn.own,λi_ e T' b e7 ep _ hb b0=>?_,λb r cs hb ah=>hn.unbox b r cs hb (kX r cs ah).2⟩
   cases i_ with
   |slot s=>simp [aK.at,look]at e7
   |cell r i=>
    simp only [aK.at]at e7;cases ah:look (da 0 H') r with
    |none=>simp [ah]at e7
    |some cs=>
     simp [ah]at e7;exact hn.apart (.cell r i) e T' b (by simp [aK.at,(kX r cs ah).2,e7]) ep (by simp) hb b0
 refine⟨λr=>if r<E then β r else none,?_⟩
 have cB:∀l e,({env:=[(0,{d,own})],H:=da 0 H',a1:=st.a1}:aK).at l=some e→cn #[v] w (λr=>if r<E then β r else none) l=cn #[v] w β l:=by
  intro l e ae;cases l with
  |slot s=>rfl
  |cell r i=>
   simp only [aK.at]at ae;cases ah:look (da 0 H') r with
   |none=>simp [ah]at ae
   |some cs=>simp [cn,(kX r cs ah).1]
 have nr:∀l e,({env:=[(0,{d,own})],H:=da 0 H',a1:=st.a1}:aK).at l=some e→below E e.d=true:=by
  intro l e ae;cases l with
  |slot s=>
   simp only [aK.at,dN]at ae;split at ae
   ·cases ae;exact hd
   ·simp [look]at ae
  |cell r i=>
   simp only [aK.at]at ae;cases ah:look (da 0 H') r with
   |none=>simp [ah]at ae
   |some cs=>
    simp [ah]at ae;rw [nv]at ah;rw [List.all_eq_true]at X5;exact NC (X5 cs (List.mem_of_getElem? ah)) ae
 constructor
 ·intro l e ae;rw [cB l e ae];exact(am.fb l e ae).Wy (λr ah=>by simp [ah]) (nr l e ae)
 ·intro l e T ae aT;rw [cB l e ae];exact am.own l e T ae aT
 ·intro l cR e a7 T T' b ae aT cZ ep hb b0;rw [cB l e ae]at hb;rw [cB cR a7 cZ]at b0;exact am.uniq l cR e a7 T T' b ae aT cZ ep hb b0
 ·intro l e T b r cs ae aT hb ah;rw [cB l e ae]at hb;have:=am.unbox l e T b r cs ae aT hb ah
  simpa [(kX r cs ah).1]using this
 ·intro r cs ah;obtain⟨b,vs,T,aR,bv⟩:=am.box r cs ah;exact⟨b,vs,T,by simpa [(kX r cs ah).1]using aR,bv⟩
 ·intro r cT b cs cs' ah fj hb b0;exact am.inj r cT b cs cs' ah fj (by simpa [(kX r cs ah).1]using hb) (by simpa [(kX cT cs' fj).1]using b0)
 ·intro r b hb;by_cases b2:r<E
  ·exact b2
  ·simp [b2]at hb
 ·exact am.mem
 ·exact am.m0
 ·exact am.frame
 ·intro r b hb;simp [et r b hb,am.iH r b hb]
 ·exact am.jq
 ·exact am.h1
def bR.era{env:List (Nat×aZ)}{H:List (List aZ)}{n:Nat}(h:bR P K M β {env:=env,H:=da 0 H,a1:=n} tmps w):bR P K M β {env:=env,H:=da 0 (oo H),a1:=n} tmps w:=by
 refine h.sub rfl (λl e ae=>?_) (λr cs ah=>?_)
 ·cases l with
  |slot s=>exact⟨e,ae,rfl,λ_ h=>h⟩
  |cell r i=>
   simp only [aK.at,nv,oo,List.getElem?_map]at ae ⊢;cases hb:H[r]? with
   |none=>simp [hb]at ae
   |some b=>
    simp only [hb,Option.map_some,Option.bind_some,List.getElem?_map,Option.map_eq_some_iff]at ae;obtain⟨bO,h0,rfl⟩:=ae;exact⟨bO,by simpa using h0,rfl,λT aT=>by cases aT⟩
 ·simp only [nv,oo,List.getElem?_map,Option.map_eq_some_iff]at ah ⊢;obtain⟨b,hb,rfl⟩:=ah;exact⟨b,hb,by simp⟩
def Hr{fn:Func}{E:Nat}{eB:Array Value}{w':World}{b':aK}{M':Mem}{β':Nat→Option Nat}{o:Out}{H':List (List aZ)}(co:fl P tt=true)(et:∀r b,K.j' r=some b→r<E)(hs:bR P K M' β' b' eB w')
 (ae:Ab.leave tt E fn.results.toList b'=some (o,H')):
 ∃v,(results fn eB).run P w' = .ok v w'∧∃jH M' β',Ending.returned v=re o jH∧bR P K M' β' {env:=ij o,H:=da 0 H',a1:=E} #[jH] w':=by
 unfold Ab.leave at ae;split at ae
 case h_2=>cases ae
 rename_i d own H1 il wb;rw [Bool.cond_eq_ite]at ae;split at ae
 case isFalse=>cases ae
 rename_i hc;simp only [Bool.and_eq_true]at hc;cases ae
 -- lN value of lN results
 have cB:∃v,(results fn eB).run P w' = .ok v w'∧cE M' β' v d∧∀T,own=some T→∃l,mV P K M' β' {env:=gX l b'.env,H:=b'.H,a1:=b'.a1} eB w' (.slot 0) v T∧True:=by
  have hm:∀{vs:List Value},(fn.results.toList.mapM (yV eB)).run P w' = .ok vs w'→
   (results fn eB).run P w' = .ok (if h:vs.length=1 then vs[0]else .tuple ⟨vs⟩) w':=by
   intro vs nu
   have il:results fn eB=(do let vs ←fn.results.mapM (yV eB);pure (if h:vs.size=1 then vs[0]else .tuple vs)):=by
    unfold results
    congr 2
   rw [il,show fn.results=⟨fn.results.toList⟩from rfl,List.mapM_toArray]
   simp only [Sem.run_bind,Sem.run_map,nu,Result.andThen_ok,Sem.run_pure];simp
  unfold X1 at il;split at il
  ·rename_i t ax;simp only [Option.map_eq_some_iff,Prod.mk.injEq]at il;obtain⟨e,he,rfl,rfl⟩:=il;have ii:=hs.fb (.slot t) e he;refine⟨eB.getD t undef,?_,ii,λT aT=>⟨[t],hs.hand he aT (.slot 0),trivial⟩⟩
   have:=hm (vs:=[eB.getD t undef]) (by rw [ax];rfl)
   simpa using this
  ·rename_i x dY hx;simp only [Option.map_eq_some_iff,Prod.mk.injEq]at il;obtain⟨eA,kQ,rfl,rfl⟩:=il;obtain⟨v,ao,f9⟩:=X2 hs co kQ;refine⟨v,?_,f9,by simp⟩
   have:=hm (vs:=[v]) (by rw [hx];simp only [List.mapM_cons,List.mapM_nil,Sem.run_bind,ao,Result.andThen_ok,Sem.run_pure])
   simpa using this
  ·simp only [Option.map_eq_some_iff,Prod.mk.injEq]at il;obtain⟨ds,ik,rfl,rfl⟩:=il;obtain⟨vs',nu,ae,f9⟩:=X4 hs co ik;refine⟨.tuple ⟨vs'⟩,?_,.bU vs' ds ae f9,by simp⟩
   have dY:vs'.length≠1:=by
    rename_i Z ad;rw [ae,(tR ik).1];intro bB;obtain⟨x,hx⟩:=List.length_eq_one_iff.1 bB;exact ad x hx
   have:=hm nu
   simpa [dY]using this
 obtain⟨v,eX,f9,f8⟩:=cB;obtain⟨CJ,ln⟩:=hs.leave wb hc.2 et f9 hc.1 f8;exact⟨v,eX,v,M',CJ,rfl,ln⟩
def X6{H:List (Nat×List aZ)}{r:Nat}{cs:List aZ}:∀{l:List Nat},(∀x,x∈l→x≠r)→boxes ((r,cs)::H) l=boxes H l
 |[],_=>rfl
 |x::l,h=>by
  have aW:=X6 (H:=H) (cs:=cs) (l:=l) λy ci=>h y (by simp [ci])
  have hx:=h x (by simp)
  simp only [boxes,aW,dN,if_neg (Ne.symm hx)]
def X7{fn:Func}{E:Nat}{eB:Array Value}{w':World}{b':aK}{M':Mem}{β':Nat→Option Nat}{o:Out}{H':List (List aZ)}(co:fl P tt=true)(et:∀r b,K.j' r=some b→r<E)(hs:bR P K M' β' b' eB w')
 {c:Nat} (ae:Ab.sF tt E c fn.results.toList b'=some (o,H')):
 ∃v,(results fn eB).run P w' = .ok v w'∧∃jH M' β',Ending.returned v=re o jH∧bR P K M' β' {env:=ij o,H:=da 0 H',a1:=E} #[jH] w':=by
 unfold Ab.sF at ae;split at ae
 case h_2=>cases ae
 rename_i a t ax;split at ae
 case h_2=>cases ae
 rename_i r off eb aJ ha wc;split at ae
 case h_2=>cases ae
 rename_i cs H1 ah wb;rw [Bool.cond_eq_ite]at ae;split at ae
 case isFalse=>cases ae
 rename_i hc;simp only [Bool.and_eq_true,Nat.ble_eq]at hc;obtain⟨⟨⟨⟨⟨h3,hle⟩,hm⟩,as_⟩,ah2⟩,pb⟩:=hc;cases ae;obtain⟨row⟩:=eK co wc;obtain⟨b,hb,ao⟩:=o9 (hs.fb (.slot a) _ ha);simp only [cn]at ao;obtain⟨bM,vs,T,b0,bB,hlen,_,_,gL,lg⟩:=hs.box r cs ah;rw [hb]at b0;cases b0;have ra:=N3 hm;have jF:((cs.drop off).take aJ.size).length=aJ.size:=by simp;omega
 have lL:=oh cs off (((cs.drop off).take aJ.size).map λe=>({d:=e.d}:aZ)) (by rw [List.length_map,jF];exact hle)
 have rb:∀j,j<aJ.size→((cs.drop off).take aJ.size)[j]? = cs[off+j]? := λj hj=>by rw [List.getElem?_take,if_pos hj,List.getElem?_drop]
 obtain⟨jr,ah3⟩:=hs.W3 (T:=c) (size:=aJ.size) (off:=off) ah hb bB gL hlen (cs':=setAt cs off (((cs.drop off).take aJ.size).map λe=>{d:=e.d})) (λx hx=>by
  rw [ra]at hx;obtain⟨_,e,ad,am⟩:=Cj _ 0 x hx;rw [Nat.sub_zero]at ad;have b2:x.1<aJ.size:=by rw [←jF];exact(List.getElem?_eq_some_iff.1 ad).1
  exact⟨b2,e,by rw [←rb x.1 b2];exact ad,am⟩) lL.1 (λj a7 hj=>by
  rw [lL.2]at hj;rw [List.length_map,jF]at hj;by_cases hi:off≤j∧j<off+aJ.size
  ·rw [if_pos hi,List.getElem?_map,Option.map_eq_some_iff]at hj;obtain⟨bO,Z,rfl⟩:=hj;rw [rb _ (by omega),show off+(j-off)=j by omega]at Z
   exact⟨bO,Z,rfl,λU hN=>by cases hN⟩
  ·rw [if_neg hi]at hj;refine⟨a7,hj,rfl,λU hN=>⟨hN,λx hx agv=>?_⟩⟩
   rw [ra]at hx;obtain⟨_,e,ad,_⟩:=Cj _ 0 x hx;rw [Nat.sub_zero]at ad;have b2:x.1<aJ.size:=by rw [←jF];exact(List.getElem?_eq_some_iff.1 ad).1
   omega) (.slot 0)
 have eX:(yV eB (.cell a t)).run P w' = .ok (.agg ⟨(vs.drop off).take aJ.size⟩) w':=by
  have hu:=GU (P:=P) (w:=w') row (off:=off) bB (by omega) h3
  show(do loadVar t (←asAddr (eB.getD a undef)):Sem Value).run P w'=_
  rw [ao];simpa [Instr.loadAt,Instr.sureAddr,asAddr]using hu
 have f9:cE M' β' (.agg ⟨(vs.drop off).take aJ.size⟩) (mT (((cs.drop off).take aJ.size).map (·.d))):=by
  refine yB (by simp;omega) (λv ao=>gL v (List.mem_of_mem_drop (List.mem_of_mem_take ao))) (λi v c ao hc=>?_)
  rw [List.getElem?_map,Option.map_eq_some_iff]at hc;obtain⟨e,he,rfl⟩:=hc;rw [List.getElem?_take]at ao he;split at ao
  ·rename_i hi;rw [if_pos hi,List.getElem?_drop]at he;rw [List.getElem?_drop]at ao;have:=hs.fb (.cell r (off+i)) e (by simp [aK.at,ah,he])
   simpa [cn,hb,cell_of_heap bB,ao]using this
  ·cases ao
 have il:(results fn eB).run P w' = .ok (.agg ⟨(vs.drop off).take aJ.size⟩) w':=by
  have il:results fn eB=(do let vs ←fn.results.mapM (yV eB);pure (if h:vs.size=1 then vs[0]else .tuple vs)):=by
   unfold results
   congr 2
  rw [il,show fn.results=⟨fn.results.toList⟩from rfl,List.mapM_toArray,ax]
  simp only [List.mapM_cons,List.mapM_nil,Sem.run_bind,Sem.run_map,eX,Result.andThen_ok,Sem.run_pure];simp
 obtain⟨sy,ln⟩:=jr.leave (H':=H') (own:=some c) (by
  rw [X6 (λx hx=>by have:=List.mem_range.1 hx;omega)];exact wb) pb et f9 ah2 (λT aT=>by cases aT;exact⟨[],ah3,trivial⟩)
 exact⟨_,il,_,M',sy,rfl,ln⟩
def X8{fn:Func}{E:Nat}{eB:Array Value}{w':World}{b':aK}{M':Mem}{β':Nat→Option Nat}{o:Out}{H':List (List aZ)}(co:fl P tt=true)(et:∀r b,K.j' r=some b→r<E)(hs:bR P K M' β' b' eB w')
 (ae:Ab.leave tt E fn.results.toList b'=some (o,H')∨∃c,Ab.sF tt E c fn.results.toList b'=some (o,H')):
 ∃v,(results fn eB).run P w' = .ok v w'∧∃jH M' β',Ending.returned v=re o jH∧bR P K M' β' {env:=ij o,H:=da 0 H',a1:=E} #[jH] w':=
 ae.elim (Hr co et hs) fun⟨_,h⟩=>X7 co et hs h
def bR.wd{P:Program}{K:Ctx}{M:Mem}{β:Nat→Option Nat}{st:aK}{tmps:Array Value}{w:World}(h:bR P K M β st tmps w)(ds:List Deferred):bR P {K with ds:=ds} M β st tmps w:=
 ⟨h.fb,h.own,h.uniq,h.unbox,h.box,h.inj,h.lt,h.mem,h.m0,h.frame,h.iH,h.jq,h.h1⟩
def OR{args:List D}{eb:List (Nat×TypeId)}{H:List (List aZ)}{vs:List Value}{n:Nat}(hlen:vs.length=args.length)(c':bR P K M β {env:=h5 args eb,H:=da 0 H,a1:=H.length} ⟨vs⟩ w):
 bR P K M β {env:=h5 args eb,H:=da 0 H,a1:=H.length} ((⟨vs⟩:Array Value)++Array.replicate n undef) w:=by
 have ao:∀l e,({env:=h5 args eb,H:=da 0 H,a1:=H.length}:aK).at l=some e→cn ((⟨vs⟩:Array Value)++Array.replicate (n) undef) w β l=cn ⟨vs⟩ w β l:=by
  intro l e ae;cases l with
  |slot s=>
   simp only [aK.at,h5,nv,Cp,Option.map_eq_some_iff]at ae;obtain⟨d,hd,_⟩:=ae;have hs:s<vs.length:=by have:=(List.getElem?_eq_some_iff.1 hd).1;omega
   simp only [cn,Array.getD_eq_getD_getElem?];rw [Array.getElem?_append_left (by simpa using hs)]
  |cell r i=>rfl
 constructor
 ·intro l e ae;rw [ao l e ae];exact c'.fb l e ae
 ·intro l e T ae aT;rw [ao l e ae];exact c'.own l e T ae aT
 ·intro l cR e a7 T T' b ae aT cZ ep hb b0;rw [ao l e ae]at hb;rw [ao cR a7 cZ]at b0;exact c'.uniq l cR e a7 T T' b ae aT cZ ep hb b0
 ·intro l e T b r cs ae aT hb ah;rw [ao l e ae]at hb;exact c'.unbox l e T b r cs ae aT hb ah
 ·exact c'.box
 ·exact c'.inj
 ·exact c'.lt
 ·exact c'.mem
 ·exact c'.m0
 ·exact c'.frame
 ·exact c'.iH
 ·exact c'.jq
 ·exact c'.h1
def rf.of_wp {f : FuncId} {fn : Func} {c : Code} {args : List D} {eb : List (Nat × TypeId)} {H : List (List aZ)} {R : Out → List (List aZ) → Prop} (co : fl P tt = true) (cc : P.funcs[f]? = some fn) (hb : fn.body = some c) (kc : decide (fn.name = "runtime.NumGoroutine") = false)
 (fc:Nat.ble args.length fn.ntmps=true) (h:ba P fn.ntmps H.length c (sG tt H.length fn.results.toList R) {env:=h5 args eb,H:=da 0 H,a1:=H.length}):rf P f args eb H R:=by
 refine⟨⟨fn,cc,by rw [hb];rfl,by simpa using kc⟩,?_⟩
 intro cQ w vs M β hlen OS OT
 suffices key:∀K:Ctx,K.ds=[]→bR P K M β {env:=h5 args eb,H:=da 0 H,a1:=H.length} ⟨vs⟩ w→(∀r b,β r=some b→K.j' r=some b)→
  Calls P f ⟨vs⟩ w λe w'=>∃o H' v M' β',R o H'∧e=re o v∧bR P K M' β' {env:=ij o,H:=da 0 H',a1:=H.length} #[v] w' from
  (key {cQ with ds:=[]} rfl (OS.wd []) OT).mono λe w' ⟨o,H',v,M',β',Z,ad,am⟩=>⟨o,H',v,M',β',Z,ad,am.wd cQ.ds⟩
 intro K ik c' hL;have et:∀r b,K.j' r=some b→r<H.length:=λr b hb=>c'.lt r b (c'.iH r b hb)
 simp only [Nat.ble_eq]at fc;have ah4:=OR (n:=fn.ntmps-(⟨vs⟩:Array Value).size) hlen c';have ah5:=h K et {tmps:=(⟨vs⟩:Array Value)++Array.replicate (fn.ntmps-(⟨vs⟩:Array Value).size) undef,defers:=[]} w ⟨rfl,ik.symm,by simp;omega,M,β,ah4⟩
 refine calls_of_wp cc hb (wp_mono ah5 ?_)
 have fin:∀(dO:Act) (w':World) (b':aK) M' β',bR P K M' β' b' dO.tmps w'→(∃o H',(Ab.leave tt H.length fn.results.toList b'=some (o,H')∨∃c,Ab.sF tt H.length c fn.results.toList b'=some (o,H'))∧R o H')→
  ∃v,(results fn dO.tmps).run P w' = .ok v w'∧∃o H' jH M' β',R o H'∧Ending.returned v=re o jH∧bR P K M' β' {env:=ij o,H:=da 0 H',a1:=H.length} #[jH] w':=by
  intro dO w' b' M' β' hs ⟨o,H',ae,yW⟩;rcases ae with ae|⟨_,ae⟩
  ·obtain⟨v,Z,jH,vE,sy,ad,am⟩:=Hr co et hs ae;exact⟨v,Z,o,H',jH,vE,sy,yW,ad,am⟩
  ·obtain⟨v,Z,jH,vE,sy,ad,am⟩:=X7 co et hs ae;exact⟨v,Z,o,H',jH,vE,sy,yW,ad,am⟩
 rintro e dO w' ⟨fI,b',Z,ad⟩
 cases fI with
 |normal=>
  obtain⟨rfl,hd,_,M',β',hs⟩:=Z;exact⟨hd.trans ik,fin dO w' b' M' β' hs ad⟩
 |ret=>
  obtain⟨rfl,hd,_,M',β',hs⟩:=Z;exact⟨hd.trans ik,fin dO w' b' M' β' hs ad⟩
 |exit i=>exact ad.elim
 |bj x=>
  obtain⟨v,rfl,hd,M',β',f9,hs⟩:=Z;obtain⟨H1,ae,yW⟩:=ad;unfold Hq at ae;split at ae
  case h_2=>cases ae
  rename_i cm wb;rw [Bool.cond_eq_ite]at ae;split at ae
  case isFalse=>cases ae
  rename_i hc;cases ae;obtain⟨CJ,ln⟩:=hs.leave (own:=none) wb hc et (.v v x f9) rfl (by simp)
  exact⟨hd.trans ik,.bj x,oo H1,v,M',CJ,yW,rfl,ln.era⟩
end
end Go.Ab

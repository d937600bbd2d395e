/- The abstract machine: a step of code over plain data, proved against the model. -/
import Derived.Laws.Build
import Derived.Laws.IdiomStrings
import Derived.Test.YtbncfepdlmnmiaaGreatDoorMachA
set_option linter.all false
namespace Go.Ab
section
variable {P:Program} {K:Ctx} {N:Nat} {M:Mem} {β:Nat→Option Nat} {g:dk} {tmps:Array Value} {w:World} {o:Oper} {f:lC} {p:Path} {tt:dH} {ck:gF} {ops:List Oper}
structure lL(M:Mem)(k m:Nat)(get:Nat→V)(news:List Value):Prop where
 len:news.length=m*k
 hk:∀i,i<m→(get i).cells.length=k
 one:∀u,u∈news→u.oneCell'=true
 rep:∀(i j:Nat) c u,i<m→(get i).cells[j]? = some c→news[i*k+j]? = some u→dq M u c
def flat(k m:Nat)(val:Nat→Nat→Value):List Value:=(List.range (m*k)).map λq=>val (q / k) (q % k)
def q8(k m:Nat)(val:Nat→Nat→Value):(flat k m val).length=m*k:=by simp [flat]
def af4{k m:Nat}{val:Nat→Nat→Value}{i j:Nat}(hi:i<m)(hj:j<k):(flat k m val)[i*k+j]? = some (val i j):=by
 have bw:i*k+j<m*k:=by
  have Z:(i+1)*k≤m*k:=Nat.mul_le_mul_right k hi;rw [Nat.add_mul]at Z;omega
 have Z:(i*k+j) / k=i:=by rw [Nat.mul_comm,Nat.mul_add_div (by omega),Nat.div_eq_of_lt hj];omega
 have aa:(i*k+j) % k=j:=by rw [Nat.mul_comm,Nat.mul_add_mod,Nat.mod_eq_of_lt hj]
 simp [flat,bw,Z,aa]
def VQ{k m:Nat}{val:Nat→Nat→Value}{q:Nat}{u:Value}(h:(flat k m val)[q]? = some u):q / k<m∧q % k<k∧q=q / k*k+q % k∧u=val (q / k) (q % k):=by
 have ao:q<m*k:=by have:=(List.getElem?_eq_some_iff.1 h).1;rwa [q8]at this
 have hk:0<k:=by
  rcases Nat.eq_zero_or_pos k with rfl|h;· simp at ao
  ·exact h
 refine⟨(Nat.div_lt_iff_lt_mul hk).2 ao,Nat.mod_lt _ hk,(Nat.div_add_mod' q k).symm,?_⟩
 simp [flat,ao]at h;exact h.symm
def M3{v:Value}{k n:Nat}{get:Nat→V}(h:cv M β v (.v (.bJ k n get))):((v = .slice none 0 0∨∃a,v = .slice (some a) 0 0)∧n=0)∨
 ∃(b off cap:Nat) (eP:List Value),v = .slice (some ⟨b,off,none⟩) n cap∧n≤cap∧lL M k n get eP∧∀(q:Nat) u,eP[q]? = some u→M b (off+q)=some u:=by
 rcases tX h with h|⟨b,off,cap,val,rfl,hc,hk,c7,Z,ai⟩
 ·exact .inl h
 ·refine .inr ⟨b,off,cap,flat k n val,rfl,hc,⟨q8 k n val,hk,?_,?_⟩,?_⟩
  ·refine VA λq u hu=>?_
   obtain⟨aa,am,_,rfl⟩:=VQ hu;exact Z _ _ aa am
  ·intro i j c u hi hc hu;have hj:j<k:=by rw [←hk i hi];exact(List.getElem?_eq_some_iff.1 hc).1
   rw [af4 hi hj]at hu;cases hu;exact ai i j c hi hc
  ·intro q u hu;obtain⟨aa,am,aK,rfl⟩:=VQ hu;have:=c7 _ _ aa am
   rwa [Nat.add_assoc,←aK]at this
def yE(k:Nat)(get:Nat→V):lL M k 0 get []:=⟨by simp,by simp,by simp,by simp⟩
def lL.app{k n m:Nat}{get mv:Nat→V}{eP news:List Value}(h:lL M k n get eP)(aa:lL M k m mv news):lL M k (n+m) (λi=>bif Nat.blt i n then get i else mv (i-n)) (eP++news):=by
 have hb:∀i,(bif Nat.blt i n then get i else mv (i-n))=if i<n then get i else mv (i-n):=by
  intro i;by_cases hi:i<n
  ·have:Nat.blt i n=true:=by simpa using hi
   simp [this,hi]
  ·have:Nat.blt i n=false:=by rw [Bool.eq_false_iff];simpa using hi
   simp [this,hi]
 refine⟨by simp [h.len,aa.len,Nat.add_mul],λi hi=>?_,λu hu=>?_,λi j c u hi hc hu=>?_⟩
 ·rw [hb];split
  ·exact h.hk i (by assumption)
  ·exact aa.hk _ (by omega)
 ·rcases List.mem_append.1 hu with hu|hu
  ·exact h.one u hu
  ·exact aa.one u hu
 ·rw [hb]at hc;by_cases hin:i<n
  ·rw [if_pos hin]at hc;have hj:j<k:=by rw [←h.hk i hin];exact(List.getElem?_eq_some_iff.1 hc).1
   have bw:i*k+j<eP.length:=by
    rw [h.len];have Z:(i+1)*k≤n*k:=Nat.mul_le_mul_right k hin;rw [Nat.add_mul]at Z;omega
   rw [List.getElem?_append_left bw]at hu;exact h.rep i j c u hin hc hu
  ·rw [if_neg hin]at hc;have ate:n*k≤i*k:=Nat.mul_le_mul_right k (by omega)
   rw [List.getElem?_append_right (by rw [h.len];omega),h.len]at hu
   have:i*k+j-n*k=(i-n)*k+j:=by rw [Nat.sub_mul];omega
   rw [this]at hu;exact aa.rep (i-n) j c u (by omega) hc hu
def lL.mono{M':Mem}(c7:M.le M'){k n:Nat}{get:Nat→V}{eP:List Value}(h:lL M k n get eP):lL M' k n get eP:=
 ⟨h.len,h.hk,h.one,λi j c u hi hc hu=>(h.rep i j c u hi hc hu).mono c7⟩
def lL.bJ{k n cap b off:Nat}{get:Nat→V}{eP:List Value}(h:lL M k n get eP)(hc:n≤cap)(c7:∀(q:Nat) u,eP[q]? = some u→M b (off+q)=some u):
 dq M (.slice (some ⟨b,off,none⟩) n cap) (.bJ k n get):=by
 have hin:∀i j,i<n→j<k→eP[i*k+j]? = some (eP.getD (i*k+j) undef):=λi j hi hj=>afO h.len hi hj
 refine .bJ b off k n cap get (λi j=>eP.getD (i*k+j) undef) hc h.hk (λi j hi hj=>?_) (λi j hi hj=>Gp h.one (hin i j hi hj)) (λi j c hi l9=>?_)
 ·rw [Nat.add_assoc];exact c7 _ _ (hin i j hi hj)
 ·have hj:j<k:=by rw [←h.hk i hi];exact(List.getElem?_eq_some_iff.1 l9).1
  exact h.rep i j c _ hi l9 (hin i j hi hj)
def af5(t hQ ty e:TypeId)(i:TypeInfo)(aF:P.underlying t=some (.slice e))(hi:P.info? e=some i)(b vS l':Nat)(x:Value)(n:Nat)(news:List Value)(hs:Src P i.size hQ x n news w)
 (gu:vS+n≤l') {vs:List Value} {T:TypeId} (bn:w.heap[b]? = some (.cells ⟨vs⟩ T (0,0))) (hle:vS*i.size+news.length≤vs.length):
 (Builtin.append_ #[t,hQ] ty #[.slice (some ⟨b,0,none⟩) vS l',x]).run P w = .ok (.slice (some ⟨b,0,none⟩) (vS+n) l') (w.setRow b (vs.take (vS*i.size)++news++vs.drop (vS*i.size+news.length)).toArray):=by
 have c_:=run_storeCells_at P b (vS*i.size) T news 0 ⟨vs⟩ w bn (by simpa using hle) hs.one
 simp only [Nat.add_zero]at c_;rcases hs.kind with⟨aY,hk⟩|hk<;>simp [Builtin.append_,run_underlying aF,run_underlying hk,sizeOf,typeInfo,hi,hs.len,gu,hs.cells,addr_add,c_]
def af6(t hQ ty e:TypeId)(i:TypeInfo)(aF:P.underlying t=some (.slice e))(hi:P.info? e=some i)(x:Value)(news:List Value)(hs:Src P i.size hQ x 0 news w):
 (Builtin.append_ #[t,hQ] ty #[.slice none 0 0,x]).run P w = .ok (.slice none 0 0) w:=by
 rcases hs.kind with⟨aY,hk⟩|hk<;>simp [Builtin.append_,run_underlying aF,run_underlying hk,sizeOf,typeInfo,hi,hs.len,hs.cells]
def Gw{t hQ:TypeId}{a x:Operand}{c:Call}(ay:o.op = .call c)(hc:c.callee = .builtin .append)(e5:c.args.toList=[a,x])(hl:c.argTypes.toList[0]? = some t)(pp:c.argTypes.toList[1]? = some hQ)
 {h6 M4:Value} (ha:(⟨tmps,[]⟩:Act).eval a=h6) (hx:(⟨tmps,[]⟩:Act).eval x=M4) {v:Value} {w':World}
 (h:∀ty,(Builtin.append_ #[t,hQ] ty #[h6,M4]).run P w = .ok v w'):
 (execOp (Act.eval ⟨tmps,[]⟩) o).run P w = .ok (.value v) w':=by
 have vT:c.args = #[a,x]:=by apply Array.ext';simpa using e5
 have M5:∀ty,(Builtin.append_ c.argTypes ty #[h6,M4]).run P w = .ok v w':=by
  intro ty;have h0:c.argTypes[0]? = some t:=by simpa using hl
  have Z:c.argTypes[1]? = some hQ:=by simpa using pp
  have:=h ty
  simp only [Builtin.append_,h0,Z]at this ⊢;exact this
 simp only [execOp,ay,resolve,hc,vT,Sem.run_bind,Sem.run_pure,Result.andThen_ok,invoke,builtin,List.map_toArray,List.map_cons,List.map_nil,ha,hx];simp [M5]
def af7(h:fJ P K N M β g tmps w)(hp:fR tmps p)(cf:fe P tt=true){t hQ e:TypeId}{aE cm:eI}(ab:look tt t=some aE)(hk:aE.k = .bJ e)(eD:look tt e=some cm){s:Nat}{x:Operand}{c:Call}
 (ay:o.op = .call c) (hc:c.callee = .builtin .append) (e5:c.args.toList=[.tmp s,x]) (hl:c.argTypes.toList[0]? = some t) (pp:c.argTypes.toList[1]? = some hQ)
 {n m:Nat} {get mv:Nat→V} (hs:rd g.env g.b6 p tt o.type (.tmp s)=some (.full cm.size n get)) (BS:1≤cm.bytes) (hm:1≤m)
 {news:List Value} (jd:Src P cm.size hQ ((⟨tmps,[]⟩:Act).eval x) m news w) (l_:lL M cm.size m mv news) (gu:(n+m)*cm.bytes≤140737488355328)
 {y:V} (b1:hv (.bJ cm.size (n+m) λi=>bif Nat.blt i n then get i else mv (i-n)) y) {rs:List fu} {a8:List Prop}:
 Yields P K M β g {e:=some {d:=.v y,own:=some e},hy:=[s],rs,a8} o tmps w:=by
 obtain⟨r⟩:=ev cf ab;obtain⟨d9⟩:=ev cf eD;have pn:=h.bo.hy [s];have eK:=ed (ds:=[]) h hp hs;have BT:P.underlying t=some (.slice e):=by rw [r.hd,p8 r hk]
 have vU:(⟨tmps,[]⟩:Act).eval (.tmp s)=tmps.getD s undef:=rfl;rw [vU]at eK
 have p':∃base,tmps.getD s undef = .slice base n n∧dq M (.slice base n n) (.bJ cm.size n get):=by
  generalize tmps.getD s undef=h6 at eK
  cases eK with
  |full base k n get h=>exact⟨base,rfl,h⟩
 obtain⟨base,au,fX⟩:=p';have bw:n<n+m:=by omega
 have vV:∃eP:List Value,lL M cm.size n get eP∧∀w':World,w'.heap=w.heap→(Builtin.firstCells cm.size n (.slice base n n)).run P w' = .ok eP.toArray w':=by
  rcases M3 (cv.v _ _ fX:cv M β _ _) with⟨t8|⟨a,t8⟩,kx⟩|⟨b,off,cap,eP,t8,hcap,holds,hold⟩
  ·simp only [Value.slice.injEq]at t8;obtain⟨rfl,rfl,_⟩:=t8;exact⟨[],yE _ _,λw' _=>run_firstCells_none w' cm.size 0 0 0⟩
  ·simp only [Value.slice.injEq]at t8;obtain⟨rfl,rfl,_⟩:=t8;refine⟨[],yE _ _,λw' ou=>?_⟩
   exact run_firstCells_some (P:=P) w' cm.size 0 a 0 0 [] (by simp) (λj u hj=>by simp at hj)
  ·simp only [Value.slice.injEq]at t8;obtain⟨rfl,_,rfl⟩:=t8;refine⟨eP,holds,λw' ou=>?_⟩
   refine run_firstCells_some (P:=P) w' cm.size n ⟨b,off,none⟩ n n eP (by rw [holds.len]) (λj u hj=>?_)
   rw [addr_add,sh (w:=w) (by rw [ou])]
   exact h.bo.mem _ _ _ (hold j u hj)
 obtain⟨eP,holds,vV⟩:=vV
 have M6:((n+m:Nat):Int)≤9223372036854775807:=by
  have:n+m≤(n+m)*cm.bytes:=Nat.le_mul_of_pos_right _ BS
  omega
 have M7:=growslice_fits (need:=n+m) (old:=n) (bytes:=cm.bytes) bw gu;have hcap:=grownCap_ge w (n+m) n e;have sr:=holds.app l_
 have vW:d9.z.cells.size=cm.size:=by
  obtain⟨nv,_⟩:=yw (M:=M) d9.BK;have:=d9.MC
  simp at nv;omega
 generalize vO:(Builtin.zeroCells d9.z.cells (grownCap w (n+m) n e-(n+m))).toList=zs
 have M8:Builtin.zeroCells d9.z.cells (grownCap w (n+m) n e-(n+m))=zs.toArray:=by rw [←vO]
 have M9:zs.length=(grownCap w (n+m) n e-(n+m))*cm.size:=by
  rw [←vO];simp [Builtin.zeroCells,vW]
 have eO:∀ty,(Builtin.append_ #[t,hQ] ty #[tmps.getD s undef,(⟨tmps,[]⟩:Act).eval x]).run P w =
  .ok (.slice (some ⟨w.heap.size,0,none⟩) (n+m) (grownCap w (n+m) n e)) (w.drew.alloc (.cells ⟨eP++news++zs⟩ e (0,0))):=by
  intro ty;have:=run_append_grow_src (P:=P) w t hQ ty e d9.info d9.z BT d9.hi d9.cY base n n eP (by rw [d9.size];exact vV w.drew rfl) _ m news (by rw [d9.size];exact jd) bw M6 (by rw [d9.bytes];exact M7)
  rw [au,this,M8];simp
 have ou:(w.drew.alloc (.cells ⟨eP++news++zs⟩ e (0,0))).heap=w.heap.push (.cells ⟨eP++news++zs⟩ e (0,0)):=rfl
 have M_:(eP++news++zs).length=grownCap w (n+m) n e*cm.size:=by
  rw [List.length_append,sr.len,M9,←Nat.add_mul];congr 1;omega
 obtain⟨cT,hle⟩:=pn.newRow (vs:=eP++news++zs) (T:=e) (n:=(n+m)*cm.size) ou
 have BO:(eP++news++zs).take ((n+m)*cm.size)=eP++news:=by
  rw [List.take_append_of_le_length (by rw [sr.len];exact Nat.le_refl _),List.take_of_length_le (by rw [sr.len];exact Nat.le_refl _)]
 refine .inl ⟨_,_,Gw ay hc e5 hl pp vU rfl eO,_,β,hle,λ_ _ h=>h,λ_ _ h=>.inl h,cT,λe1 he=>?_⟩
 cases he;refine⟨.v _ _ (b1 _ _ ((sr.mono hle).bJ hcap λq u hu=>?_)),λT l0 aD=>?_⟩
 ·rw [BO];exact Gr hu
 ·cases aD;have:=MR (l0:=l0) (T:=e) pn (vs:=eP++news++zs) (T':=e) (n:=n+m) (cap:=grownCap w (n+m) n e) rfl ou hcap (by rw [d9.cellsOf,M_];exact Nat.le_refl _)
  rw [d9.cellsOf]at this;exact this
def VR(h:fJ P K N M β g tmps w)(hp:fR tmps p)(cf:fe P tt=true){t hQ e:TypeId}{aE cm:eI}(ab:look tt t=some aE)(hk:aE.k = .bJ e)(eD:look tt e=some cm){s:Nat}{x:Operand}{c:Call}
 (ay:o.op = .call c) (hc:c.callee = .builtin .append) (e5:c.args.toList=[.tmp s,x]) (hl:c.argTypes.toList[0]? = some t) (pp:c.argTypes.toList[1]? = some hQ)
 {n m:Nat} {get mv:Nat→V} (hs:rd g.env g.b6 p tt o.type (.tmp s)=some (.v (.bJ cm.size n get))) {yD:aW} (vR:look g.env s=some yD) (fW:yD.own=some e) (BS:1≤cm.bytes)
 {news:List Value} (jd:Src P cm.size hQ ((⟨tmps,[]⟩:Act).eval x) m news w) (l_:lL M cm.size m mv news) (gu:(n+m)*cm.bytes≤140737488355328)
 {y:V} (b1:hv (.bJ cm.size (n+m) λi=>bif Nat.blt i n then get i else mv (i-n)) y) {rs:List fu} {a8:List Prop}:
 Yields P K M β g {e:=some {d:=.v y,own:=some e},hy:=[s],rs,a8} o tmps w:=by
 obtain⟨r⟩:=ev cf ab;obtain⟨d9⟩:=ev cf eD;have pn:=h.bo.hy [s];have eK:=ed (ds:=[]) h hp hs;have BT:P.underlying t=some (.slice e):=by rw [r.hd,p8 r hk]
 have vU:(⟨tmps,[]⟩:Act).eval (.tmp s)=tmps.getD s undef:=rfl;rw [vU]at eK;have BU:=h.bo.own (.slot s) yD e vR fW;simp only [ce]at BU;have BV:=h.bo.hand vR fW
 -- lJ row af8 is grown
 have VS:∀(base:Option Addr) (l':Nat) (eP:List Value),tmps.getD s undef = .slice base n l'→lL M cm.size n get eP→
  (∀w':World,w'.heap=w.heap→(Builtin.firstCells cm.size n (.slice base n l')).run P w' = .ok eP.toArray w')→l'<n+m→
  Yields P K M β g {e:=some {d:=.v y,own:=some e},hy:=[s],rs,a8} o tmps w:=by
  intro base l' eP au holds vV bw
  have M6:((n+m:Nat):Int)≤9223372036854775807:=by
   have:n+m≤(n+m)*cm.bytes:=Nat.le_mul_of_pos_right _ BS
   omega
  have M7:=growslice_fits (need:=n+m) (old:=l') (bytes:=cm.bytes) bw gu;have hcap:=grownCap_ge w (n+m) l' e;have sr:=holds.app l_
  have vW:d9.z.cells.size=cm.size:=by
   obtain⟨nv,_⟩:=yw (M:=M) d9.BK;have:=d9.MC
   simp at nv;omega
  generalize vO:(Builtin.zeroCells d9.z.cells (grownCap w (n+m) l' e-(n+m))).toList=zs
  have M8:Builtin.zeroCells d9.z.cells (grownCap w (n+m) l' e-(n+m))=zs.toArray:=by rw [←vO]
  have M9:zs.length=(grownCap w (n+m) l' e-(n+m))*cm.size:=by
   rw [←vO];simp [Builtin.zeroCells,vW]
  have eO:∀ty,(Builtin.append_ #[t,hQ] ty #[tmps.getD s undef,(⟨tmps,[]⟩:Act).eval x]).run P w =
   .ok (.slice (some ⟨w.heap.size,0,none⟩) (n+m) (grownCap w (n+m) l' e)) (w.drew.alloc (.cells ⟨eP++news++zs⟩ e (0,0))):=by
   intro ty;have:=run_append_grow_src (P:=P) w t hQ ty e d9.info d9.z BT d9.hi d9.cY base n l' eP (by rw [d9.size];exact vV w.drew rfl) _ m news (by rw [d9.size];exact jd) bw M6 (by rw [d9.bytes];exact M7)
   rw [au,this,M8];simp
  have ou:(w.drew.alloc (.cells ⟨eP++news++zs⟩ e (0,0))).heap=w.heap.push (.cells ⟨eP++news++zs⟩ e (0,0)):=rfl
  have M_:(eP++news++zs).length=grownCap w (n+m) l' e*cm.size:=by
   rw [List.length_append,sr.len,M9,←Nat.add_mul];congr 1;omega
  obtain⟨cT,hle⟩:=pn.newRow (vs:=eP++news++zs) (T:=e) (n:=(n+m)*cm.size) ou
  have BO:(eP++news++zs).take ((n+m)*cm.size)=eP++news:=by
   rw [List.take_append_of_le_length (by rw [sr.len];exact Nat.le_refl _),List.take_of_length_le (by rw [sr.len];exact Nat.le_refl _)]
  refine .inl ⟨_,_,Gw ay hc e5 hl pp vU rfl eO,_,β,hle,λ_ _ h=>h,λ_ _ h=>.inl h,cT,λe1 he=>?_⟩
  cases he;refine⟨.v _ _ (b1 _ _ ((sr.mono hle).bJ hcap λq u hu=>?_)),λT l0 aD=>?_⟩
  ·rw [BO];exact Gr hu
  ·cases aD;have:=MR (l0:=l0) (T:=e) pn (vs:=eP++news++zs) (T':=e) (n:=n+m) (cap:=grownCap w (n+m) l' e) rfl ou hcap (by rw [d9.cellsOf,M_];exact Nat.le_refl _)
   rw [d9.cellsOf]at this;exact this
 replace BU:=ku.bJ BU eK
 have b2:(tmps.getD s undef = .slice none 0 0∧n=0)∨∃(b off cap:Nat) (eP:List Value),tmps.getD s undef = .slice (some ⟨b,off,none⟩) n cap∧n≤cap∧lL M cm.size n get eP∧∀(q:Nat) u,eP[q]? = some u→M b (off+q)=some u:=by
  rcases M3 eK with⟨au|⟨a,au⟩,kx⟩|hx
  ·exact .inl ⟨au,kx⟩
  ·subst kx;rcases BU with h0|⟨bE,n',VT,vs,T',Z,_⟩
   ·exact .inl ⟨h0,rfl⟩
   ·rw [au]at Z;simp only [Value.slice.injEq,Option.some.injEq]at Z;obtain⟨rfl,rfl,rfl⟩:=Z;exact .inr ⟨bE,0,0,[],au,Nat.le_refl _,yE _ _,λq u hu=>by simp at hu⟩
  ·exact .inr hx
 rcases b2 with⟨au,kx⟩|⟨b,off,cap,eP,au,hcap,holds,hold⟩
 ·subst kx;by_cases hm:m=0
  ·subst hm;refine .inl ⟨_,_,Gw ay hc e5 hl pp (vU.trans au) rfl (λty=>af6 (w:=w) t hQ ty e d9.info BT d9.hi _ news (by rw [d9.size];exact jd)),M,β,Mem.le_refl _,λ_ _ h=>h,λ_ _ h=>.inl h,pn,λe1 he=>?_⟩
   cases he;exact⟨.v _ _ (b1 _ _ (.mu _ _)),λT l0 _=>Mx l0 T⟩
  ·refine VS none 0 [] au (yE _ _) (λw' _=>run_firstCells_none w' cm.size 0 0 0) (by omega)
 ·by_cases bw:cap<n+m
  ·refine VS (some ⟨b,off,none⟩) cap eP au holds (λw' ou=>?_) bw
   refine run_firstCells_some (P:=P) w' cm.size n ⟨b,off,none⟩ n cap eP (by rw [holds.len]) (λj u hj=>?_)
   rw [addr_add,sh (w:=w) (by rw [ou])]
   exact h.bo.mem _ _ _ (hold j u hj)
  · -- there is room
   rcases BU with h0|⟨bE,n',VT,vs,T',Z,atf,bn,ny,kO,dz,MS⟩
   ·rw [au]at h0;simp at h0
   ·rw [au]at Z;simp only [Value.slice.injEq,Option.some.injEq,Addr.mk.injEq,and_true]at Z;obtain⟨⟨rfl,rfl⟩,rfl,rfl⟩:=Z;rw [d9.cellsOf]at ny kO
    have hlen:n*cm.size+news.length≤vs.length:=by
     rw [l_.len,←Nat.add_mul];exact Nat.le_trans (Nat.mul_le_mul_right _ (by omega)) ny
    have eO:∀ty,(Builtin.append_ #[t,hQ] ty #[tmps.getD s undef,(⟨tmps,[]⟩:Act).eval x]).run P w =
     .ok (.slice (some ⟨b,0,none⟩) (n+m) cap) (w.setRow b (vs.take (n*cm.size)++news++vs.drop (n*cm.size+news.length)).toArray):=by
     intro ty;have:=af5 (P:=P) (w:=w) t hQ ty e d9.info BT d9.hi b n cap _ m news (by rw [d9.size];exact jd) (by omega) bn (by rw [d9.size];exact hlen)
     rw [d9.size]at this;rw [au,this]
    generalize VU:vs.take (n*cm.size)++news++vs.drop (n*cm.size+news.length)=vs' at eO
    have af9:vs'.length=vs.length:=by rw [←VU,vP hlen]
    have q3:(w.setRow b vs'.toArray).heap[b]? = some (.cells ⟨vs'⟩ T' (0,0)):=setRow_heap w b _ _ T' (0,0) bn;have hle:M.le (jp M b (n*cm.size) news):=MQ kO;have kL:∀T,jl T (tmps.getD s undef) b:=λT=>by rw [au];rfl
    have cT:bI P K (jp M b (n*cm.size) news) β {env:=gU [s] g.env,H:=g.H,aX:=g.aX} tmps (w.setRow b vs'.toArray):=by
     refine pn.free b dz (λr cs ai hb=>(BV (.slot s)).unbox b r cs (kL _) ai hb) (λl e1 hh eV t'=>?_) (λbE dL _=>setRow_other w b bE _ dL) hle (λbE o' dL=>?_) (λo' jO pq=>?_)
     ·by_cases Gx:l = .slot s
      ·subst Gx;simp only [aH.at,nw,List.mem_singleton,if_true,Option.map_eq_some_iff]at eV;obtain⟨_,_,rfl⟩:=eV;simp at t'
      ·exact(BV (.slot s)).apart l e1 hh b eV t' Gx (kL _)
     ·simp [jp,dL]
     ·rw [cell_of_heap q3,←VU,BP hlen];unfold jp at pq;split at pq
      ·rename_i kv;rw [if_pos ⟨kv.2.1,kv.2.2⟩];exact pq
      ·rename_i kv;rw [if_neg (λBW=>kv ⟨rfl,BW.1,BW.2⟩)]
       have:=h.bo.mem _ _ _ pq
       rwa [cell_of_heap bn]at this
    refine .inl ⟨_,_,Gw ay hc e5 hl pp vU rfl eO,_,β,hle,λ_ _ h=>h,λ_ _ h=>.inl h,cT,λe1 he=>?_⟩
    cases he;refine⟨.v _ _ (b1 _ _ (((holds.app l_).mono hle).bJ (by omega) λq u hu=>?_)),λT l0 aD=>?_⟩
    ·by_cases ao:q<eP.length
     ·rw [List.getElem?_append_left ao]at hu;exact hle _ _ _ (hold q u hu)
     ·rw [List.getElem?_append_right (by omega)]at hu
      have:=Gr (M:=M) (b:=b) (lo:=n*cm.size) hu
      rw [holds.len]at this;rw [Nat.zero_add];have p_:n*cm.size+(q-n*cm.size)=q:=by rw [holds.len]at ao;omega
      rwa [p_]at this
    ·cases aD;refine⟨.inr ⟨b,n+m,cap,vs',T',rfl,by omega,q3,by rw [d9.cellsOf,af9];exact ny,λo' lg=>?_,dz,MS⟩,λl e1 hh b9 eV t' _ cF=>?_,λb9 r cs cF ai=>?_⟩
     ·rw [d9.cellsOf,Nat.add_mul]at lg;unfold jp;rw [if_neg (λBW=>by rw [l_.len]at BW;omega)]
      exact kO o' (by omega)
     ·simp [jl,kt]at cF;subst cF
      have Gx:l ≠ .slot s:=by
       rintro rfl
       simp only [after,aH.at,nw,List.mem_singleton,if_true,Option.map_eq_some_iff]at eV;obtain⟨_,_,rfl⟩:=eV;simp at t'
      have af':ce tmps (w.setRow b vs'.toArray) β l=ce tmps w β l:=by
       cases l with
       |slot p7=>rfl
       |cell r i=>
        have eD:=eV;simp only [after,aH.at]at eD;cases ai:look g.H r with
        |none=>simp [ai]at eD
        |some cs=>
         obtain⟨ho,af_,p6,fc,VV,_⟩:=h.bo.box r cs ai;have dL:ho≠b:=by rintro rfl;exact(BV (.slot s)).unbox ho r cs (kL _) ai fc
         simp only [ce,fc];rw [sh (w:=w) (setRow_other w b ho _ dL)]
      rw [af'];exact(BV (.slot s)).apart l e1 hh b eV t' Gx (kL _)
     ·simp [jl,kt]at cF;subst cF;exact(BV (.slot s)).unbox b r cs (kL _) ai
def VW(h:bI P K M β {env:=g.env,H:=g.H,aX:=g.aX} tmps w)(cf:fe P tt=true){hQ e2:TypeId}{aE:eI}(ab:look tt hQ=some aE)(hk:aE.k = .bJ e2){v:Value}{k m:Nat}{get:Nat→V}
 (au:cv M β v (.v (.bJ k m get))):∃news,Src P k hQ v m news w∧lL M k m get news:=by
 obtain⟨r⟩:=ev cf ab;have hu:P.underlying hQ=some (.slice e2):=by rw [r.hd,p8 r hk]
 rcases M3 au with⟨rfl|⟨a,rfl⟩,rfl⟩|⟨b,off,cap,eP,rfl,_,l_,hold⟩
 ·exact⟨[],Src.ofNil w hu 0,yE _ _⟩
 ·exact⟨[],Src.ofSlice w hu a 0 0 [] (by simp) (λj u hj=>by simp at hj) (by simp),yE _ _⟩
 ·have hc:∀(j:Nat) u,eP[j]? = some u→w.cell? ((⟨b,off,none⟩:Addr).add j)=some u:=λj u hj=>by rw [addr_add];exact h.mem _ _ _ (hold j u hj)
  exact⟨eP,Src.ofSlice w hu _ m cap eP l_.len hc l_.one,l_⟩
def aga(cf:fe P tt=true){hQ:TypeId}{aE:eI}(ab:look tt hQ=some aE)(hk:aE.k = .str)(l:au')(M:Mem):
 ∃news,Src P 1 hQ (.string ⟨⟨l⟩⟩) l.length news w∧lL M 1 l.length (λi=>.int .u8 (l.getD i 0).toNat) news:=by
 obtain⟨r⟩:=ev cf ab;have hu:P.underlying hQ=some .string:=by rw [r.hd,q1 r hk]
 refine⟨byteCells ⟨⟨l⟩⟩,Src.ofString w hu ⟨⟨l⟩⟩,⟨by simp [byteCells],λi _=>rfl,λu hu=>?_,λi j c u hi hc hu=>?_⟩⟩
 ·obtain⟨_,_,rfl⟩:=List.mem_map.1 hu;rfl
 ·cases j with
  |succ j=>simp [V.cells]at hc
  |zero=>
   simp [V.cells]at hc;subst hc;simp only [byteCells,Nat.mul_one,Nat.add_zero,List.getElem?_map,Option.map_eq_some_iff]at hu;obtain⟨a,ha,rfl⟩:=hu;have:l[i]? = some a:=ha
   simp [this];exact .int _ _
end
def ss:Nat→List D→List (Nat×TypeId)→List aW
 |_,[],_=>[]
 |i,d::l,er=>{d,own:=look er i}::ss (i+1) l er
def h7(args:List D)(er:List (Nat×TypeId)):List (Nat×aW):=cX 0 (ss 0 args er)
def BX:∀(l:List D) (k i:Nat) (er:List (Nat×TypeId)),(ss k l er)[i]? = (l[i]?).map λd=>({d,own:=look er (k+i)}:aW)
 |[],k,i,er=>by simp [ss]
 |d::l,k,i,er=>by
  cases i with
  |zero=>simp [ss]
  |succ i=>
   simp only [ss,List.getElem?_cons_succ,BX l (k+1) i er];rw [show k+1+i=k+(i+1)by omega]
def ih:Out→List (Nat×aW)
 |.ret d own=>[(0,{d,own})]
 |.aJ x=>[(0,{d:=.v x})]
def q9:Out→Value→Ending
 |.ret _ _,v=>.returned v
 |.aJ _,v=>.panicked [{v,recovered:=false}]
def q_(P:Program)(f:FuncId)(args:List D)(er:List (Nat×TypeId))(H:List (List aW))(R:Out→List (List aW)→Prop):Prop:=
 (∃ fd, P.funcs[f]? = some fd ∧ fd.body.isSome = true ∧ fd.name ≠ "runtime.NumGoroutine") ∧
 ∀(K:Ctx) (w:World) (vs:List Value) (M:Mem) (β:Nat→Option Nat),vs.length=args.length→
  bI P K M β {env:=h7 args er,H:=cX 0 H,aX:=H.length} ⟨vs⟩ w→(∀r b,β r=some b→K.j' r=some b)→
  Calls P f ⟨vs⟩ w λe w'=>∃o H' v M' β',R o H'∧e=q9 o v∧bI P K M' β' {env:=ih o,H:=cX 0 H',aX:=H.length} #[v] w'
def q_.mono{P:Program}{f:FuncId}{args:List D}{er:List (Nat×TypeId)}{H:List (List aW)}{R VX:Out→List (List aW)→Prop}(h:q_ P f args er H R)(ai:∀o H',R o H'→VX o H'):q_ P f args er H VX:=
 ⟨h.1,λK w vs M β ab hs hb=>(h.2 K w vs M β ab hs hb).mono λ_ _ ⟨o,H',v,M',β',Z,aa,am⟩=>⟨o,H',v,M',β',ai _ _ Z,aa,am⟩⟩
def gL(P:Program)(f:FuncId)(args:List D)(er:List (Nat×TypeId))(H:List (List aW))(o:Out)(cE:List (List aW)):Prop:=q_ P f args er H λo' H'=>o'=o∧H'=cE
def hR(P:Program):gF:={call:=gL P,eq:=MA P}
def VY{α:Type}:∀(l:List α) (n i:Nat),look (cX n l) i=if n≤i then l[i-n]? else none
 |[],n,i=>by simp [cX,look]
 |x::l,n,i=>by
  simp only [cX,dC,VY l (n+1) i];by_cases Z:n=i
  ·subst Z;simp
  ·rw [if_neg Z];by_cases aa:n≤i
   ·rw [if_pos (by omega),if_pos aa]
    obtain⟨j,rfl⟩:∃j,i=n+1+j:=⟨i-(n+1),by omega⟩
    rw [show n+1+j-(n+1)=j by omega,show n+1+j-n=j+1 by omega]
    simp
   ·rw [if_neg (by omega),if_neg aa]
def nz{α:Type}(l:List α)(i:Nat):look (cX 0 l) i=l[i]? := by simp [VY]
def Gy:∀{ρ:List Nat} {r j:Nat},idx ρ r=some j→ρ[j]? = some r
 |[],_,_,h=>by simp [idx]at h
 |x::l,r,j,h=>by
  simp only [idx]at h;rw [Bool.cond_eq_ite]at h;split at h
  ·rename_i hb;cases h;simp at hb;simp [hb]
  ·simp only [Option.map_eq_some_iff]at h;obtain⟨k,hk,rfl⟩:=h;simpa using Gy hk
def Gz:∀{l:List Nat},nu l=true→∀(i j:Nat) r,l[i]? = some r→l[j]? = some r→i=j
 |[],_,i,_,_,h,_=>by simp at h
 |x::l,h,i,j,r,hi,hj=>by
  simp only [nu,Bool.and_eq_true,Bool.not_eq_true',List.any_eq_false]at h;have hx:∀k,l[k]? = some x→False:=λk hk=>by have:=h.1 x (List.mem_of_getElem? hk);simp at this
  cases i<;>cases j
  ·rfl
  ·simp at hi hj;subst hi;exact(hx _ hj).elim
  ·simp at hi hj;subst hj;exact(hx _ hi).elim
  ·simp at hi hj;rw [Gz h.2 _ _ r hi hj]
def vX{H:List (Nat×List aW)}:∀{ρ:List Nat} {bs:List (List aW)},boxes H ρ=some bs→bs.length=ρ.length∧∀(j r:Nat),ρ[j]? = some r→look H r=bs[j]? ∧ (bs[j]?).isSome=true
 |[],bs,h=>by simp [boxes]at h;subst h;simp
 |x::ρ,bs,h=>by
  simp only [boxes]at h;split at h
  case h_2=>cases h
  rename_i b qa hb lj;cases h;obtain⟨Z,aa⟩:=vX lj;refine⟨by simp [Z],λj r hj=>?_⟩
  cases j with
  |zero=>simp at hj;subst hj;simp [hb]
  |succ j=>simp at hj;simpa using aa j r hj
def yF{f:Nat→Option Nat}:∀{b bE:List aW},nt f b=some bE→bE.length=b.length∧∀(i:Nat) aY,bE[i]? = some aY→∃e,b[i]? = some e∧eC f e.d=some aY.d∧aY.own=e.own
 |[],bE,h=>by simp [nt]at h;subst h;simp
 |e::l,bE,h=>by
  simp only [nt]at h;split at h
  case h_2=>cases h
  rename_i e1 hf he ab;cases h;obtain⟨Z,aa⟩:=yF ab;refine⟨by simp [Z],λi aY hi=>?_⟩
  cases i with
  |zero=>
   simp at hi;subst hi
   simp only [F',Option.map_eq_some_iff]at he;obtain⟨d,hd,rfl⟩:=he;exact⟨e,by simp,hd,rfl⟩
  |succ i=>simp at hi;simpa using aa i aY hi
def agb{f:Nat→Option Nat}{d:D}{r off:Nat}{u:TypeId}(h:eC f d=some (.cu r off u)):∃gV,d = .cu gV off u:=by
 cases d with
 |cu gV atg oz=>
  simp only [eC,Option.map_eq_some_iff]at h;obtain⟨s,_,aa⟩:=h;cases aa;exact⟨gV,rfl⟩
 |v x=>simp [eC]at h
 |e' x=>simp [eC]at h
 |full k n get=>simp [eC]at h
 |ptr gV o=>simp [eC]at h
 |fn g c=>simp [eC]at h
 |agg c=>simp [eC]at h
 |cn c=>simp [eC]at h
def lF.eC{P:Program}{T:TypeId}{n:Nat}{f:Nat→Option Nat}{b bE:List aW}(h:lF P T n b)(ai:nt f b=some bE):lF P T n bE:=λe he r off u hd=>by
 obtain⟨i,hi,rfl⟩:=List.getElem_of_mem he;obtain⟨bK,Z,aa,_⟩:=(yF ai).2 i _ (List.getElem?_eq_getElem hi);rw [hd]at aa;obtain⟨gV,am⟩:=agb aa;exact h bK (List.mem_of_getElem? Z) gV off u am
def yG{f:Nat→Option Nat}:∀{bs qa:List (List aW)},kp f bs=some qa→qa.length=bs.length∧∀(j:Nat) bE,qa[j]? = some bE→∃b,bs[j]? = some b∧nt f b=some bE
 |[],qa,h=>by simp [kp]at h;subst h;simp
 |b::l,qa,h=>by
  simp only [kp]at h;split at h
  case h_2=>cases h
  rename_i b9 hf hb ab;cases h;obtain⟨Z,aa⟩:=yG ab;refine⟨by simp [Z],λj bE hj=>?_⟩
  cases j with
  |zero=>simp at hj;subst hj;exact⟨b,by simp,hb⟩
  |succ j=>simp at hj;simpa using aa j bE hj
def Na{H:List (Nat×List aW)}:∀{ρ:List Nat} {bs:List (List aW)},bs.length=ρ.length→nu ρ=true→∀r,
 (∀(j:Nat),ρ[j]? = some r→look (lE ρ bs++H) r=bs[j]?)∧((∀(j:Nat),ρ[j]? ≠ some r)→look (lE ρ bs++H) r=look H r)
 |[],bs,_,_,r=>by simp [lE]
 |x::ρ,[],h,_,_=>by simp at h
 |x::ρ,b::bs,h,hn,r=>by
  have Gg:nu ρ=true:=by simp [nu]at hn;exact hn.2
  obtain⟨Z,aa⟩:=Na (H:=H) (ρ:=ρ) (bs:=bs) (by simpa using h) Gg r
  simp only [lE,List.cons_append,dC];refine⟨λj hj=>?_,λhj=>?_⟩
  ·by_cases hx:x=r
   ·have:j=0:=Gz hn j 0 r hj (by simp [hx])
    subst this;simp [hx]
   ·cases j with
    |zero=>simp at hj;exact(hx hj).elim
    |succ j=>simp at hj;rw [if_neg hx];simpa using Z j hj
  ·have hx:x≠r:=λe=>hj 0 (by simp [e])
   rw [if_neg hx];exact aa λj=>by simpa using hj (j+1)
section
variable {P:Program} {K:Ctx} {N:Nat} {M:Mem} {β:Nat→Option Nat} {st:aH} {g:dk} {tmps:Array Value} {w:World} {o:Oper} {f:lC} {p:Path} {tt:dH} {ck:gF} {ops:List Oper}
def BY(ρ os:List Nat):Loc→Prop
 |.cell r _=>r∈ρ
 |.slot t=>t∈os
def ra(st:aH)(tmps:Array Value)(w:World)(β:Nat→Option Nat)(ρ os:List Nat)(b:Nat):Prop:=
 (∃r,r∈ρ∧β r=some b)∨∃l e T,BY ρ os l∧st.at l=some e∧e.own=some T∧jl T (ce tmps w β l) b
open Classical in
noncomputable def kP(M:Mem)(β:Nat→Option Nat)(st:aH)(tmps:Array Value)(w:World)(ρ os:List Nat):Ctx:=
 {vF:=M,F:=λb=>if ra st tmps w β ρ os b then none else w.heap[b]?,j':=λj=>(ρ[j]?).bind β,h3:=(w.os,w.output)}
structure Handed(st:aH)(tmps:Array Value)(vs:List Value)(hd:List (Nat×Option Nat×TypeId)):Prop where
 some:∀i t T,(i,Option.some t,T)∈hd→∃e,st.at (.slot t)=Option.some e∧e.own=Option.some T∧vs[i]? = Option.some (tmps.getD t undef)
 none:∀i T,(i,Option.none,T)∈hd→vs[i]? = Option.some (.slice Option.none 0 0)
 inj:∀i j t T T',(i,Option.some t,T)∈hd→(j,Option.some t,T')∈hd→i=j
def t_(hd:List (Nat×Option Nat×TypeId)):List (Nat×TypeId):=hd.map λx=>(x.1,x.2.2)
def rb(hd:List (Nat×Option Nat×TypeId)):List Nat:=hd.filterMap λx=>x.2.1
def agc{hd:List (Nat×Option Nat×TypeId)}{i:Nat}{T:TypeId}(h:look (t_ hd) i=some T):∃o,(i,o,T)∈hd:=by
 have:=sj h
 simp only [t_,List.mem_map]at this;obtain⟨⟨a,o,T'⟩,Z,aa⟩:=this;cases aa;exact⟨o,Z⟩
def agd{hd:List (Nat×Option Nat×TypeId)}{i t:Nat}{T:TypeId}(h:(i,some t,T)∈hd):t∈rb hd:=by
 simp only [rb,List.mem_filterMap];exact⟨_,h,rfl⟩
def GA(ρ:List Nat)(hd:List (Nat×Option Nat×TypeId))(T:TypeId):Loc→Loc→Prop
 |.cell j i,.cell r m4=>i=m4∧ρ[j]? = some r
 |.slot s,.slot t=>(s,some t,T)∈hd
 |_,_=>False
def VZ(h:bI P K M β st tmps w){ρ:List Nat}{bs H1:List (List aW)}(hn:nu ρ=true)(lj:boxes st.H ρ=some bs)(my:kp (idx ρ) bs=some H1){ds jZ:List D}{vs:List Value}
 (hlen:vs.length=ds.length) (au:∀(i:Nat) v d,vs[i]? = some v→ds[i]? = some d→cv M β v d) (e5:lD (idx ρ) ds=some jZ) {hd:List (Nat×Option Nat×TypeId)} (vY:Handed st tmps vs hd):
 bI P (kP M β st tmps w ρ (rb hd)) M (λj=>(ρ[j]?).bind β) {env:=h7 jZ (t_ hd),H:=cX 0 H1,aX:=H1.length} ⟨vs⟩ w:=by
 obtain⟨cF,fc⟩:=vX lj;obtain⟨ie,ja⟩:=yG my;obtain⟨ath,age⟩:=yo e5
 have V0:∀{v d dV},cv M β v d→eC (idx ρ) d=some dV→cv M (λj=>(ρ[j]?).bind β) v dV:=by
  intro v d dV hd jM;exact hd.eC (λr s b hs hb=>by rw [Gy hs];simpa using hb) jM
 -- a cell of lJ Nb is a cell of ours
 have iz:∀j i aY,({env:=h7 jZ (t_ hd),H:=cX 0 H1,aX:=H1.length}:aH).at (.cell j i)=some aY→∃(r:Nat) (e:aW),ρ[j]? = some r∧st.at (.cell r i)=some e∧eC (idx ρ) e.d=some aY.d∧aY.own=e.own∧
  ce ⟨vs⟩ w (λj=>(ρ[j]?).bind β) (.cell j i)=ce tmps w β (.cell r i):=by
  intro j i aY he;simp only [aH.at,nz]at he;cases hj:H1[j]? with
  |none=>simp [hj]at he
  |some bE=>
   simp only [hj,Option.bind_some]at he;obtain⟨b,hb,oA⟩:=ja j bE hj;have vZ:j<ρ.length:=by have:=(List.getElem?_eq_some_iff.1 hb).1;omega
   have ma:ρ[j]? = some ρ[j]:=List.getElem?_eq_getElem vZ;obtain⟨ab,_⟩:=fc j _ ma;obtain⟨_,Nc⟩:=yF oA;obtain⟨e,p9,Nd,Nf⟩:=Nc i aY he;exact⟨_,e,ma,by simp [aH.at,ab,hb,p9],Nd,Nf,by simp [ce,ma]⟩
 have V1:∀s aY,({env:=h7 jZ (t_ hd),H:=cX 0 H1,aX:=H1.length}:aH).at (.slot s)=some aY→aY.own=look (t_ hd) s∧∃v d,vs[s]? = some v∧ds[s]? = some d∧eC (idx ρ) d=some aY.d:=by
  intro s aY he;simp only [aH.at,h7,nz,BX,Option.map_eq_some_iff]at he;obtain⟨dV,jM,rfl⟩:=he;have hs:s<jZ.length:=(List.getElem?_eq_some_iff.1 jM).1;have ii:ds[s]? = some ds[s]:=List.getElem?_eq_getElem (by omega)
  obtain⟨d1,gG,agf⟩:=age s _ ii;rw [jM]at gG;cases gG;exact⟨by simp,_,_,List.getElem?_eq_getElem (by omega),ii,agf⟩
 -- ati 'own' place of lJ Nb is one of ours
 have GB:∀cH aY T,({env:=h7 jZ (t_ hd),H:=cX 0 H1,aX:=H1.length}:aH).at cH=some aY→aY.own=some T→
  ce ⟨vs⟩ w (λj=>(ρ[j]?).bind β) cH = .slice none 0 0∨∃l e,GA ρ hd T cH l∧BY ρ (rb hd) l∧st.at l=some e∧e.own=some T∧ce ⟨vs⟩ w (λj=>(ρ[j]?).bind β) cH=ce tmps w β l:=by
  intro cH aY T ab aD;cases cH with
  |slot s=>
   obtain⟨ay,v,d,Z,aa,am⟩:=V1 s aY ab;rw [ay]at aD;obtain⟨o,hm⟩:=agc aD;have co:ce (⟨vs⟩:Array Value) w (λj=>(ρ[j]?).bind β) (.slot s)=v:=by simp [ce,Z]
   cases o with
   |none=>
    have:=vY.none s T hm
    rw [Z]at this;cases this;exact .inl co
   |some t=>
    obtain⟨e,aK,bd,b'⟩:=vY.some s t T hm;rw [Z]at b';cases b';exact .inr ⟨.slot t,e,hm,agd hm,aK,bd,co⟩
  |cell j i=>
   obtain⟨r,e,ma,he,_,fW,co⟩:=iz j i aY ab;exact .inr ⟨.cell r i,e,⟨rfl,ma⟩,List.mem_of_getElem? ma,he,by rw [←fW,aD],co⟩
 have agh:∀T T' hf jr l,GA ρ hd T hf l→GA ρ hd T' jr l→hf=jr:=by
  intro T T' hf jr l Z aa;cases hf<;>cases jr<;>cases l<;>simp only [GA]at Z aa
  ·rw [vY.inj _ _ _ _ _ Z aa]
  ·obtain⟨rfl,am⟩:=Z;obtain⟨rfl,aK⟩:=aa;rw [Gz hn _ _ _ am aK]
 have kQ:∀j cs',look (cX 0 H1) j=some cs'→∃(r:Nat) (cs:List aW),ρ[j]? = some r∧look st.H r=some cs∧cs.length=cs'.length∧∃f,nt f cs=some cs':=by
  intro j cs' hj;rw [nz]at hj;obtain⟨b,hb,oA⟩:=ja j cs' hj;have vZ:j<ρ.length:=by have:=(List.getElem?_eq_some_iff.1 hb).1;omega
  have ma:ρ[j]? = some ρ[j]:=List.getElem?_eq_getElem vZ;obtain⟨ab,_⟩:=fc j _ ma;exact⟨_,b,ma,by rw [ab,hb],(yF oA).1.symm,_,oA⟩
 constructor
 ·intro l aY ab;cases l with
  |slot s=>
   obtain⟨_,v,d,Z,aa,am⟩:=V1 s aY ab;have:=V0 (au s v d Z aa) am
   simpa [ce,Z]using this
  |cell j i=>
   obtain⟨r,e,ma,he,oA,_,co⟩:=iz j i aY ab;rw [co];exact V0 (h.e4 _ e he) oA
 ·intro cH aY T ab aD;rcases GB cH aY T ab aD with h0|⟨l,e,_,bn,he,ec,co⟩
  ·rw [h0];exact .inl rfl
  ·rw [co];refine(h.own _ e T he ec).yp λb hb _=>?_
   simp only [kP];rw [if_pos];exact .inr ⟨l,e,T,bn,he,ec,hb⟩
 ·intro hf jr e1 e2 T T' b ab aD cO ec hb bQ;rcases GB hf e1 T ab aD with h0|⟨l,e,aF,bn,he,Ng,co⟩
  ·rw [h0]at hb;cases hb
  rcases GB jr e2 T' cO ec with h0|⟨cH,aY,e6,BW,su,agi,qZ⟩
  ·rw [h0]at bQ;cases bQ
  rw [co]at hb;rw [qZ]at bQ;have:=h.uniq _ _ e aY T T' b he Ng su agi hb bQ
  subst this;exact agh _ _ _ _ _ aF e6
 ·intro cH aY T b j cs' ab aD hb hj;rcases GB cH aY T ab aD with h0|⟨l,e,aF,bn,he,Ng,co⟩
  ·rw [h0]at hb;cases hb
  rw [co]at hb;obtain⟨r2,cs,agj,ej,_⟩:=kQ j cs' hj;have:=h.unbox _ e T b r2 cs he Ng hb ej
  simpa [agj]using this
 ·intro j cs' hj;obtain⟨r,cs,ma,ej,ab,f,agk⟩:=kQ j cs' hj;obtain⟨b,ot,T,Z,aa,am,aK,bd,b'⟩:=h.box r cs ej;refine⟨b,ot,T,by simp [ma,Z],aa,by omega,aK,?_,b'.1,b'.2.eC agk⟩
  simp only [kP];rw [if_pos];exact .inl ⟨r,List.mem_of_getElem? ma,Z⟩
 ·intro j v7 b c h4 hj GC hb bQ;obtain⟨r,cs,ma,ej,_⟩:=kQ j c hj;obtain⟨cI,cs',V2,v8,_⟩:=kQ v7 h4 GC;have:r=cI:=h.inj r cI b cs cs' ej v8 (by simpa [ma]using hb) (by simpa [V2]using bQ)
  subst this;exact Gz hn j v7 r ma V2
 ·intro j b hb;simp only [Option.bind_eq_some_iff]at hb;obtain⟨r,ai,_⟩:=hb;have:=(List.getElem?_eq_some_iff.1 ai).1
  show j<H1.length
  omega
 ·exact h.mem
 ·exact Mem.le_refl _
 ·intro b a8 hb;simp only [kP]at hb;split at hb
  ·cases hb
  ·exact⟨hb,λ_=>rfl⟩
 ·intro j b hb;exact hb
 ·refine h.jm.mono λb a8 dz=>?_
  have Nh:¬ ra st tmps w β ρ (rb hd) b:=by
   rintro (⟨r,ai,mz⟩|⟨l,e,T,ai,he,aD,kL⟩)
   ·obtain⟨j,hj⟩:=List.getElem?_of_mem ai;obtain⟨ab,v'⟩:=fc j r hj;obtain⟨cs,ej⟩:=Option.isSome_iff_exists.1 v';obtain⟨ho,_,_,am,_,_,_,aK,_⟩:=h.box r cs (by rw [ab,ej])
    rw [mz]at am;cases am;rw [aK]at dz;cases dz
   ·rw [(h.own _ e T he aD).free kL]at dz;cases dz
  simp only [kP];rw [if_neg Nh];exact(h.frame b a8 dz).1
 ·rfl
def agl{ρ os:List Nat}{st:aH}{H:List (Nat×List aW)}{n s:Nat}{e:aW}(ab:({env:=gU os st.env,H:=H,aX:=n}:aH).at (.slot s)=some e):
 ∃bK,st.at (.slot s)=some bK∧bK.d=e.d∧(∀T,e.own=some T→bK.own=some T)∧∀T,e.own=some T→¬ BY ρ os (.slot s):=by
 simp only [aH.at,nw]at ab;by_cases hs:s∈os
 ·rw [if_pos hs,Option.map_eq_some_iff]at ab;obtain⟨bK,Z,aa⟩:=ab;subst aa;exact⟨bK,Z,rfl,(λT aD=>by cases aD),(λT aD=>by cases aD)⟩
 ·rw [if_neg hs]at ab;exact⟨e,ab,rfl,(λT aD=>aD),(λT _=>hs)⟩
def Ni(h:bI P K M β st tmps w){ρ:List Nat}{bs cE i':List (List aW)}(hn:nu ρ=true)(lj:boxes st.H ρ=some bs)(v_:kp (λj=>ρ[j]?) cE=some i')(eD:cE.length=ρ.length)
 {os:List Nat} {out:Out} {v:Value} {w':World} {M':Mem} {β':Nat→Option Nat} (js:bI P (kP M β st tmps w ρ os) M' β' {env:=ih out,H:=cX 0 cE,aX:=ρ.length} #[v] w'):
 M.le M'∧bI P K M' β {env:=gU os st.env,H:=lE ρ i'++st.H,aX:=st.aX} tmps w'∧
 (∀d own,out = .ret d own→∀dV,eC (λj=>ρ[j]?) d=some dV→cv M' β v dV∧∀T l0,own=some T→m3 P K M' β {env:=gU os st.env,H:=lE ρ i'++st.H,aX:=st.aX} tmps w' l0 v T)∧
 (∀x,out = .aJ x→dq M' v x):=by
 obtain⟨cF,fc⟩:=vX lj;obtain⟨ie,ja⟩:=yG v_;have c7:M.le M':=js.m0;have hH:∀(j r b:Nat),ρ[j]? = some r→β r=some b→β' j=some b:=λj r b hj hb=>js.iL j b (by simp [kP,hj,hb])
 have ua:∀(j r:Nat),ρ[j]? = some r→∃cs b,look st.H r=some cs∧β r=some b∧β' j=some b:=by
  intro j r hj;obtain⟨Z,aa⟩:=fc j r hj;obtain⟨cs,ej⟩:=Option.isSome_iff_exists.1 aa;rw [ej]at Z;obtain⟨b,_,_,hb,_⟩:=h.box r cs Z;exact⟨cs,b,Z,hb,hH j r b hj hb⟩
 have V3:∀{v d dV},cv M' β' v d→eC (λj=>ρ[j]?) d=some dV→cv M' β v dV:=by
  intro v d dV hd jM;refine hd.eC (λj r b hj hb=>?_) jM
  obtain⟨_,b9,_,Z,aa⟩:=ua j r hj;rw [hb]at aa;cases aa;exact Z
 -- Gs is not ra is kept
 have BZ:∀b,¬ ra st tmps w β ρ os b→b<w.heap.size→w'.heap[b]? = w.heap[b]? ∧ ∀o,M' b o=M b o:=by
  intro b hb bw
  have dz:(kP M β st tmps w ρ os).F b=some w.heap[b]:=by
   simp only [kP];rw [if_neg hb];exact Array.getElem?_eq_getElem bw
  obtain⟨Z,aa⟩:=js.frame b _ dz;exact⟨by rw [Z,Array.getElem?_eq_getElem bw],aa⟩
 have V4:∀b,(kP M β st tmps w ρ os).F b=none→K.F b=none:=by
  intro b hb;simp only [kP]at hb;split at hb
  ·rename_i hp;rcases hp with⟨r,ai,mz⟩|⟨l,e,T,ai,he,aD,kL⟩
   ·obtain⟨j,hj⟩:=List.getElem?_of_mem ai;obtain⟨cs,b9,ej,cF,_⟩:=ua j r hj;obtain⟨ho,_,_,Z,_,_,_,aa,_⟩:=h.box r cs ej;rw [mz]at Z;cases Z;exact aa
   ·exact(h.own _ e T he aD).free kL
  ·cases dz:K.F b with
   |none=>rfl
   |some a8=>have:=(h.frame b a8 dz).1;rw [hb]at this;cases this
 have hold:∀b,(kP M β st tmps w ρ os).F b=none→b<w.heap.size→ra st tmps w β ρ os b:=by
  intro b hb bw;simp only [kP]at hb;split at hb
  ·assumption
  ·rw [Array.getElem?_eq_getElem bw]at hb;cases hb
 -- atj own boxes af8 atk not handed on
 have GD:∀r cs b,look st.H r=some cs→(∀(j:Nat),ρ[j]? ≠ some r)→β r=some b→¬ ra st tmps w β ρ os b:=by
  intro r cs b ai i_ hb hp;rcases hp with⟨cI,fb,bQ⟩|⟨l,e,T,fb,he,aD,kL⟩
  ·obtain⟨j,hj⟩:=List.getElem?_of_mem fb;obtain⟨cs',_,v8,_⟩:=ua j cI hj;have:=h.inj r cI b cs cs' ai v8 hb bQ
   subst this;exact i_ j hj
  ·exact h.unbox _ e T b r cs he aD kL ai hb
 have B0:∀r,(∃(j:Nat),ρ[j]? = some r∧look (lE ρ i'++st.H) r=i'[j]?)∨((∀(j:Nat),ρ[j]? ≠ some r)∧look (lE ρ i'++st.H) r=look st.H r):=by
  intro r;obtain⟨Z,aa⟩:=Na (H:=st.H) (ρ:=ρ) (bs:=i') (by omega) hn r
  by_cases hj:∃(j:Nat),ρ[j]? = some r
  ·obtain⟨j,hj⟩:=hj;exact .inl ⟨j,hj,Z j hj⟩
  ·have:∀(j:Nat),ρ[j]? ≠ some r:=λj bn=>hj ⟨j,bn⟩
   exact .inr ⟨this,aa this⟩
 -- a place of lJ new state: lJ Nb, or kept
 have fo:∀l e,({env:=gU os st.env,H:=lE ρ i'++st.H,aX:=st.aX}:aH).at l=some e→
  (∃(j r i:Nat) (aY:aW),l = .cell r i∧ρ[j]? = some r∧({env:=ih out,H:=cX 0 cE,aX:=ρ.length}:aH).at (.cell j i)=some aY∧eC (λj=>ρ[j]?) aY.d=some e.d∧e.own=aY.own∧ce tmps w' β l=ce #[v] w' β' (.cell j i))∨
  (∃bK,st.at l=some bK∧bK.d=e.d∧(∀T,e.own=some T→bK.own=some T)∧ce tmps w' β l=ce tmps w β l∧(∀T,e.own=some T→¬ BY ρ os l)):=by
  intro l e ab;cases l with
  |slot s=>
   obtain⟨bK,Z,aa,am,aK⟩:=agl ab;exact .inr ⟨bK,Z,aa,am,rfl,aK⟩
  |cell r i=>
   rcases B0 r with⟨j,hj,mb⟩|⟨i_,mb⟩
   ·simp only [aH.at,mb]at ab;cases bn:i'[j]? with
    |none=>simp [bn]at ab
    |some bE=>
     simp only [bn,Option.bind_some]at ab;obtain⟨b,hb,oA⟩:=ja j bE bn;obtain⟨_,Nc⟩:=yF oA;obtain⟨aY,p9,Nd,Nf⟩:=Nc i e ab;obtain⟨_,b9,_,cF,vI⟩:=ua j r hj;exact .inl ⟨j,r,i,aY,rfl,hj,by simp [aH.at,nz,hb,p9],Nd,Nf,by simp [ce,cF,vI]⟩
   ·simp only [aH.at,mb]at ab;refine .inr ⟨e,ab,rfl,λ_ h=>h,?_,λT _ bn=>by obtain⟨j,hj⟩:=List.getElem?_of_mem bn;exact i_ j hj⟩
    cases ai:look st.H r with
    |none=>simp [ai]at ab
    |some cs=>
     obtain⟨b,_,_,hb,bn,_⟩:=h.box r cs ai;simp only [ce,hb];rw [sh (w:=w) (BZ b (GD r cs b ai i_ hb) (lt_of_heap bn)).1]
 -- a kept 'own' atl block is not ra
 have B1:∀l e T b,st.at l=some e→e.own=some T→¬ BY ρ os l→jl T (ce tmps w β l) b→¬ ra st tmps w β ρ os b:=by
  intro l e T b ab aD i_ hb hp;rcases hp with⟨cI,fb,bQ⟩|⟨cH,aY,T',fb,he,ec,kL⟩
  ·obtain⟨j,hj⟩:=List.getElem?_of_mem fb;obtain⟨cs',_,v8,_⟩:=ua j cI hj;exact h.unbox l e T b cI cs' ab aD hb v8 bQ
  ·have:=h.uniq l _ e aY T T' b ab aD he ec hb kL
   subst this;exact i_ fb
 -- lJ Nb 'own' blocks atm ours
 have B2:∀T u b,ku P (kP M β st tmps w ρ os).F M' w' T u→jl T u b→∀bE,bE=b→bE<w.heap.size→ra st tmps w β ρ os bE:=by
  intro T u b ay hb bE q0 bw;subst q0;exact hold bE (ay.free hb) bw
 have GE:∀r cs,look (lE ρ i'++st.H) r=some cs→∃lM,look st.H r=some lM:=by
  intro r cs ai;rcases B0 r with⟨j,hj,_⟩|⟨_,mb⟩
  ·obtain⟨lM,_,Z,_⟩:=ua j r hj;exact⟨lM,Z⟩
  ·exact⟨cs,by rw [←mb];exact ai⟩
 have cT:bI P K M' β {env:=gU os st.env,H:=lE ρ i'++st.H,aX:=st.aX} tmps w':=by
  constructor
  ·intro l e ab;rcases fo l e ab with⟨j,r,i,aY,rfl,hj,su,oA,_,co⟩|⟨bK,ay,B3,lh,co,_⟩
   ·rw [co];exact V3 (js.e4 _ aY su) oA
   ·rw [co,←B3];exact(h.e4 l bK ay).mono c7
  ·intro l e T ab aD;rcases fo l e ab with⟨j,r,i,aY,rfl,hj,su,_,fW,co⟩|⟨bK,ay,B3,lh,co,i_⟩
   ·rw [co];rw [fW]at aD;exact(js.own _ aY T su aD).yp λb _ b'=>V4 b b'
   ·rw [co];have i_:=i_ T aD;have aD:=lh T aD;refine(h.own l bK T ay aD).congr (λb hb=>?_) (λb o' hb=>?_)
    ·exact(BZ b (B1 l bK T b ay aD i_ hb) ((h.own l bK T ay aD).lt hb)).1
    ·exact(BZ b (B1 l bK T b ay aD i_ hb) ((h.own l bK T ay aD).lt hb)).2 o'
  ·intro l cH e1 e2 T T' b ab aD cO ec hb bQ
   rcases fo l e1 ab with⟨j,r,i,x,rfl,hj,hx,_,fW,co⟩|⟨bK,ay,B3,lh,co,i_⟩ <;>
    rcases fo cH e2 cO with⟨v7,cI,m4,B4,rfl,GC,yH,_,V5,qZ⟩|⟨yt,lg,atn,BJ,qZ,Nj⟩
   ·rw [co]at hb;rw [qZ]at bQ;rw [fW]at aD;rw [V5]at ec;have:=js.uniq _ _ x B4 T T' b hx aD yH ec hb bQ
    cases this;rw [hj]at GC;cases GC;rfl
   ·rw [co]at hb;rw [qZ]at bQ;rw [fW]at aD;have Nj:=Nj T' ec;have ec:=BJ T' ec;exact(B1 cH yt T' b lg ec Nj bQ (B2 T _ b (js.own _ x T hx aD) hb b rfl ((h.own cH yt T' lg ec).lt bQ))).elim
   ·rw [co]at hb;rw [qZ]at bQ;rw [V5]at ec;have i_:=i_ T aD;have aD:=lh T aD;exact(B1 l bK T b ay aD i_ hb (B2 T' _ b (js.own _ B4 T' yH ec) bQ b rfl ((h.own l bK T ay aD).lt hb))).elim
   ·rw [co]at hb;rw [qZ]at bQ;exact h.uniq l cH bK yt T T' b ay (lh T aD) lg (BJ T' ec) hb bQ
  ·intro l e T b r cs ab aD hb ai mz;obtain⟨lM,mw⟩:=GE r cs ai;rcases fo l e ab with⟨j,r1,i,x,rfl,hj,hx,_,fW,co⟩|⟨bK,ay,B3,lh,co,i_⟩
   ·rw [co]at hb;rw [fW]at aD;rcases B0 r with⟨j2,sv,mb⟩|⟨Nk,_⟩
    ·have aa:∃c2,look (cX 0 cE) j2=some c2:=by
      rw [nz];exact⟨_,List.getElem?_eq_getElem (by have:=(List.getElem?_eq_some_iff.1 sv).1;omega)⟩
     obtain⟨c2,jt⟩:=aa;exact js.unbox _ x T b j2 c2 hx aD hb jt (hH j2 r b sv mz)
    ·obtain⟨b9,_,_,cF,bn,_⟩:=h.box r lM mw;rw [mz]at cF;cases cF;exact GD r lM b mw Nk mz (B2 T _ b (js.own _ x T hx aD) hb b rfl (lt_of_heap bn))
   ·rw [co]at hb;exact h.unbox l bK T b r lM ay (lh T aD) hb mw mz
  ·intro r cs ai;rcases B0 r with⟨j,hj,mb⟩|⟨i_,mb⟩
   ·rw [mb]at ai;obtain⟨c2,jt,oA⟩:=ja j cs ai;obtain⟨lM,pr,agm,V6,agn⟩:=ua j r hj;obtain⟨b,ot,T,Z,aa,am,aK,bd,b'⟩:=js.box j c2 (by rw [nz];exact jt)
    rw [agn]at Z;cases Z;obtain⟨ho,_,_,eb,_,_,_,d',_⟩:=h.box r lM agm;rw [V6]at eb;cases eb;exact⟨pr,ot,T,V6,aa,by rw [am,(yF oA).1],aK,d',b'.1,b'.2.eC oA⟩
   ·rw [mb]at ai;obtain⟨b,ot,T,Z,aa,am,aK,bd,b'⟩:=h.box r cs ai;have hk:=BZ b (GD r cs b ai i_ Z) (lt_of_heap aa);exact⟨b,ot,T,Z,hk.1.trans aa,am,λo'=>(hk.2 o').trans (aK o'),bd,b'⟩
  ·intro r cI b c h4 ai fb hb bQ;obtain⟨c0,mw⟩:=GE r c ai;obtain⟨ago,agp⟩:=GE cI h4 fb;exact h.inj r cI b c0 ago mw agp hb bQ
  ·exact h.lt
  ·exact js.mem
  ·exact Mem.le_trans h.m0 c7
  ·intro b a8 dz;obtain⟨Z,aa⟩:=h.frame b a8 dz
   have Nh:¬ ra st tmps w β ρ os b:=by
    rintro (⟨r,ai,mz⟩|⟨l,e,T,ai,he,aD,kL⟩)
    ·obtain⟨j,hj⟩:=List.getElem?_of_mem ai;obtain⟨cs,_,ej,_⟩:=ua j r hj;obtain⟨ho,_,_,am,_,_,_,aK,_⟩:=h.box r cs ej;rw [mz]at am;cases am;rw [aK]at dz;cases dz
    ·rw [(h.own _ e T he aD).free kL]at dz;cases dz
   have hk:=BZ b Nh (lt_of_heap Z);exact⟨hk.1.trans Z,λo'=>(hk.2 o').trans (aa o')⟩
  ·exact h.iL
  ·exact h.jm
  ·exact Eq.trans (show(w'.os,w'.output)=(w.os,w.output)from js.h3) h.h3
 refine⟨c7,cT,λd own Nl dV jM=>?_,λx Nl=>?_⟩
 ·subst Nl;have hS:=js.e4 (.slot 0) {d,own} (by simp [aH.at,ih,look])
  refine⟨V3 (by simpa [ce]using hS) jM,λT l0 aD=>?_⟩
  have ay:=js.own (.slot 0) {d,own} T (by simp [aH.at,ih,look]) aD
  simp only [ce]at ay;have lg:ku P (kP M β st tmps w ρ os).F M' w' T v:=by simpa using ay
  refine⟨?_,λl e T' b ab ec _ hb bQ=>?_,λb r cs hb ai mz=>?_⟩
  ·exact lg.yp λb _ b'=>V4 b b'
  ·rcases fo l e ab with⟨j,r,i,x,rfl,hj,hx,_,fW,co⟩|⟨bK,Nm,B3,lh,co,i_⟩
   ·rw [co]at bQ;rw [fW]at ec;have:=js.uniq (.slot 0) (.cell j i) {d,own} x T T' b (by simp [aH.at,ih,look]) aD hx ec (by simpa [ce]using hb) bQ
    cases this
   ·rw [co]at bQ;have i_:=i_ T' ec;have ec:=lh T' ec;exact B1 l bK T' b Nm ec i_ bQ (B2 T v b lg hb b rfl ((h.own l bK T' Nm ec).lt bQ))
  ·obtain⟨lM,mw⟩:=GE r cs ai;rcases B0 r with⟨j2,sv,mb⟩|⟨Nk,_⟩
   ·have aa:∃c2,look (cX 0 cE) j2=some c2:=by
     rw [nz];exact⟨_,List.getElem?_eq_getElem (by have:=(List.getElem?_eq_some_iff.1 sv).1;omega)⟩
    obtain⟨c2,jt⟩:=aa;exact js.unbox (.slot 0) {d,own} T b j2 c2 (by simp [aH.at,ih,look]) aD (by simpa [ce]using hb) jt (hH j2 r b sv mz)
   ·obtain⟨b9,_,_,cF,bn,_⟩:=h.box r lM mw;rw [mz]at cF;cases cF;exact GD r lM b mw Nk mz (B2 T v b lg hb b rfl (lt_of_heap bn))
 ·subst Nl;have hS:=js.e4 (.slot 0) {d:=.v x} (by simp [aH.at,ih,look])
  have:=ov hS
  simpa [ce]using this
end
def V7{i:Int}{n:Nat}(h:aI i n=true):0≤i∧i<n:=by simpa [aI]using h
def ub{i:Int}{n:Nat}(h:gT i n=true):0≤i∧i≤n:=by simpa [gT]using h
def agq{i:Int}{n:Nat}(h:0≤i∧i≤n):gT i n=true:=by simpa [gT]using h
def V8{a b:Int}{n:Nat}(h:l4 a b n=true):0≤a∧a≤b∧b≤n:=by simpa [l4]using h
def V9{a:Int}(h:yj a=true):a≠0:=by simpa [yj]using h
def Nn{n b:Nat}(h:room n b=true):n*b≤140737488355328:=by simpa [room]using h
def agr{n:Nat}(h:b5 n=true):n≤9223372036854775807:=by simpa [b5]using h
section
variable {P:Program} {K:Ctx} {N:Nat} {M:Mem} {β:Nat→Option Nat} {st:aH} {g:dk} {tmps:Array Value} {w:World} {o:Oper} {f:lC} {p:Path} {tt:dH} {ck:gF} {ops:List Oper}
def V':∀(l:List (Nat×aW)) (s:Nat),look (p3 l) s=(look l s).map λe=>({d:=e.d}:aW)
 |[],s=>rfl
 |(t,e)::l,s=>by
  simp only [p3,dC];by_cases h:t=s
  ·simp [h]
  ·simp only [h,if_false];exact V' l s
def bI.p3{st:aH}(h:bI P K M β st tmps w){env:List (Nat×aW)}(he:∀s e,look env s=some e→∃bK,look st.env s=some bK∧bK.d=e.d):bI P K M β {env:=Ab.p3 env,H:=st.H,aX:=st.aX} tmps w:=
 h.sub rfl (λl e ab=>by
  cases l with
  |slot s=>
   simp only [aH.at,V',Option.map_eq_some_iff]at ab;obtain⟨e1,Z,rfl⟩:=ab;obtain⟨bK,aa,am⟩:=he s e1 Z;exact⟨bK,aa,am,λ_ h=>by cases h⟩
  |cell r i=>exact⟨e,ab,rfl,λ_ h=>h⟩) (λr cs ai=>⟨cs,ai,rfl⟩)
def ags(P:Program)(K:Ctx)(M:Mem)(β:Nat→Option Nat)(g:dk)(x:V)(hs:List (Nat×List aW))(o:Oper)(tmps:Array Value)(w:World):Prop:=
 (∃v,(execOp (Act.eval ⟨tmps,[]⟩) o).run P w = .halt (.panic v) w∧dq M v x∧hs=[])∨
 (∃fn vs,(execOp (Act.eval ⟨tmps,[]⟩) o).run P w = .ok (.enter fn vs) w∧Calls P fn vs w λe w'=>∃v M' ,e = .panicked [{v,recovered:=false}]∧dq M' v x∧
  bI P K M' β {env:=p3 g.env,H:=hs++g.H,aX:=g.aX} tmps w')
def agt{op:BinOp}{k:IntKind}{a b:Int}{x:V}{a8:List Prop}(h:Ml op k a b=some (x,a8))(cx:∀q,q∈a8→q)(t:TypeId):
 ∃v,(binOp op t (.int k a) (.int k b)).run P w = .ok v w∧dq M v x:=by
 have fin:∀{s:Sem Value} {v:Value},s.run P w = .ok v w→dq M v x→∃v,s.run P w = .ok v w∧dq M v x:=λZ aa=>⟨_,Z,aa⟩
 cases op<;>simp only [Ml,Option.some.injEq,Prod.mk.injEq,reduceCtorEq]at h<;>obtain⟨rfl,rfl⟩:=h
 case quo=>
  have hb:=V9 (cx _ (List.mem_singleton.2 rfl));refine fin (v:=.int k (k.wrap (a.tdiv b))) ?_ (.int _ _);simp [binOp,Op.intDiv,hb]
 case rem=>
  have hb:=V9 (cx _ (List.mem_singleton.2 rfl));refine fin (v:=.int k (a.tmod b)) ?_ (.int _ _);simp [binOp,Op.intDiv,hb]
 case add=>exact fin (v:=.int k (k.wrap (a+b))) (by simp [binOp,Op.intArith]) (.int _ _)
 case sub=>exact fin (v:=.int k (k.wrap (a-b))) (by simp [binOp,Op.intArith]) (.int _ _)
 case mul=>exact fin (v:=.int k (k.wrap (a*b))) (by simp [binOp,Op.intArith]) (.int _ _)
 case eql=>exact fin (v:=.bool (decide (a=b))) (by simp [binOp,Op.intCmp];rfl) (.bool _)
 case neq=>exact fin (v:=.bool (!decide (a=b))) (by simp [binOp,Op.intCmp];rfl) (.bool _)
 case lss=>exact fin (v:=.bool (decide (a<b))) (by simp [binOp,Op.intCmp]) (.bool _)
 case leq=>exact fin (v:=.bool (decide (a≤b))) (by simp [binOp,Op.intCmp]) (.bool _)
 case gtr=>exact fin (v:=.bool (decide (b<a))) (by simp [binOp,Op.intCmp]) (.bool _)
 case geq=>exact fin (v:=.bool (decide (b≤a))) (by simp [binOp,Op.intCmp]) (.bool _)
 case and=>exact fin (v:=.int k (p0 k a b)) (by simp [binOp,Op.intBits,p0]) (.int _ _)
 case or=>exact fin (v:=.int k (qV k a b)) (by simp [binOp,Op.intBits,qV]) (.int _ _)
 case xor=>exact fin (v:=.int k (mY k a b)) (by simp [binOp,Op.intBits,mY]) (.int _ _)
 case andNot=>exact fin (v:=.int k (Mj k a b)) (by simp [binOp,Op.intBits,Mj]) (.int _ _)
def agu{op:BinOp}{k k':IntKind}{a b:Int}{x:V}{a8:List Prop}(h:Mk op k a b=some (x,a8))(cx:∀q,q∈a8→q)(t:TypeId):
 ∃v,(binOp op t (.int k a) (.int k' b)).run P w = .ok v w∧dq M v x:=by
 unfold Mk at h;split at h
 ·simp only [Option.some.injEq,Prod.mk.injEq]at h;obtain⟨rfl,rfl⟩:=h;have hb:0≤b:=by simpa [ol]using cx (ol b=true) (by simp)
  exact⟨.int k (pf k a b),by simp [binOp,Op.shift,show¬ b<0 by omega,pf],.int _ _⟩
 ·simp only [Option.some.injEq,Prod.mk.injEq]at h;obtain⟨rfl,rfl⟩:=h;have hb:0≤b:=by simpa [ol]using cx (ol b=true) (by simp)
  exact⟨.int k (ns k a b),by simp [binOp,Op.shift,show¬ b<0 by omega,ns],.int _ _⟩
 ·cases h
def agv{op:BinOp}{a b:au'}{x:V}{a8:List Prop}(h:Mm op a b=some (x,a8))(cx:∀q,q∈a8→q)(t:TypeId):
 ∃v,(binOp op t (.string ⟨⟨a⟩⟩) (.string ⟨⟨b⟩⟩)).run P w = .ok v w∧dq M v x:=by
 have fin:∀{s:Sem Value} {v:Value},s.run P w = .ok v w→dq M v x→∃v,s.run P w = .ok v w∧dq M v x:=λZ aa=>⟨_,Z,aa⟩
 have rc:=Gm a;have yI:=Gm b;have he:(a == b)=decide (a=b):=by by_cases m9:a=b<;>simp [m9]
 cases op<;>simp only [Mm,Option.some.injEq,Prod.mk.injEq,reduceCtorEq]at h<;>obtain⟨rfl,rfl⟩:=h
 case add=>
  have hb:=agr (cx _ (List.mem_singleton.2 rfl));refine fin (v:=.string ⟨⟨a++b⟩⟩) ?_ (.str _)
  have en:¬ ((((⟨⟨a⟩⟩:ByteArray).size+(⟨⟨b⟩⟩:ByteArray).size:Nat):Int) > IntKind.i64.max):=by
   have Z:(⟨⟨a⟩⟩:ByteArray).size=a.length:=rfl;have aa:(⟨⟨b⟩⟩:ByteArray).size=b.length:=rfl;have am:IntKind.i64.max=9223372036854775807:=by decide
   rw [Z,aa,am];omega
  simp only [binOp,Op.stringOp];rw [if_neg en];simp;apply ByteArray.ext;simp
 case eql=>exact fin (v:=.bool (decide (a=b))) (by simp [binOp,Op.stringOp,rc,yI,he]) (.bool _)
 case neq=>exact fin (v:=.bool (!decide (a=b))) (by simp [binOp,Op.stringOp,rc,yI,he]) (.bool _)
 case lss=>exact fin (v:=.bool (Op.bytesLess a b)) (by simp [binOp,Op.stringOp,rc,yI]) (.bool _)
 case leq=>exact fin (v:=.bool (Op.bytesLess a b||decide (a=b))) (by simp [binOp,Op.stringOp,rc,yI,he]) (.bool _)
 case gtr=>exact fin (v:=.bool (!(Op.bytesLess a b||decide (a=b)))) (by simp [binOp,Op.stringOp,rc,yI,he]) (.bool _)
 case geq=>exact fin (v:=.bool (!Op.bytesLess a b)) (by simp [binOp,Op.stringOp,rc,yI]) (.bool _)
def agw{t:TypeId}{aE:eI}(r:Row P t aE)(hk:aE.k = .ptr):∃e,r.desc = .pointer e:=by
 have:=r.hk
 rw [hk]at this;cases hd:r.desc<;>simp [hd,lG]at this;exact⟨_,rfl⟩
def agx{t:TypeId}{aE:eI}(r:Row P t aE)(hk:aE.k = .pY):∃e,r.desc = .interface e:=by
 have:=r.hk
 rw [hk]at this;cases hd:r.desc<;>simp [hd,lG]at this;exact⟨_,rfl⟩
def agy{t:TypeId}{aE:eI}(r:Row P t aE)(hk:aE.k = .iK):∃a b c,r.desc = .func a b c:=by
 have:=r.hk
 rw [hk]at this;cases hd:r.desc<;>simp [hd,lG]at this;exact⟨_,_,_,rfl⟩
def No{t:TypeId}{aE:eI}(r:Row P t aE)(hk:aE.k = .bool):r.desc = .bool:=by
 have:=r.hk
 rw [hk]at this;cases hd:r.desc<;>simp [hd,lG]at this;rfl
def V_{t:TypeId}{aE:eI}(r:Row P t aE){h6 yJ:Value}{a b:D}{res:Bool}(ha:cv M β h6 a)(hb:cv M β yJ b)(ab:F9 aE.k b=true)(hn:isNil aE.k a=some res):
 (Op.equal t h6 yJ).run P w = .ok res w∧(∀op,(binOp op t h6 yJ)=match op with|.eql=>(do pure (.bool (←Op.equal t h6 yJ)))|.neq=>(do pure (.bool (!(←Op.equal t h6 yJ))))|_=>binOp op t h6 yJ):=by
 obtain⟨dep,hm⟩:∃d,Op.maxDepth=d+1:=⟨9999,rfl⟩;unfold F9 at ab;split at ab<;>try cases ab
 ·rename_i hk;cases ov hb
  obtain⟨e,hd⟩:=agw r hk;rw [hk]at hn;unfold isNil at hn;split at hn<;>simp_all
  ·cases ov ha
   refine⟨?_,λop=>by cases op<;>rfl⟩
   rw [Op.equal,hm,Op.equalIn];simp [r.run_underlying,hd]
  ·obtain⟨bE,_,rfl⟩:=pm ha;subst hn;refine⟨?_,λop=>by cases op<;>rfl⟩
   rw [Op.equal,hm,Op.equalIn];simp [r.run_underlying,hd]
  ·obtain⟨bE,off,val,rfl,_⟩:=Gi ha;subst hn;refine⟨?_,λop=>by cases op<;>rfl⟩
   rw [Op.equal,hm,Op.equalIn];simp [r.run_underlying,hd]
 ·rename_i hk;cases ov hb
  obtain⟨e,hd⟩:=agx r hk;rw [hk]at hn;unfold isNil at hn;split at hn<;>simp_all
  ·cases ov ha
   refine⟨?_,λop=>by cases op<;>rfl⟩
   rw [Op.equal,hm,Op.equalIn];simp [r.run_underlying,hd]
  ·obtain⟨u,rfl,_⟩:=MD ha;subst hn;refine⟨?_,λop=>by cases op<;>rfl⟩
   rw [Op.equal,hm,Op.equalIn];simp [r.run_underlying,hd]
 ·rename_i hk;cases ov hb
  obtain⟨e1,e2,e3,hd⟩:=agy r hk;rw [hk]at hn;unfold isNil at hn;split at hn<;>simp_all
  ·cases ov ha
   refine⟨?_,λop=>by cases op<;>rfl⟩
   rw [Op.equal,hm,Op.equalIn];simp [r.run_underlying,hd]
  ·obtain⟨u,rfl,_⟩:=Vn ha;subst hn;refine⟨?_,λop=>by cases op<;>rfl⟩
   rw [Op.equal,hm,Op.equalIn];simp [r.run_underlying,hd]
end
section
variable {P:Program} {K:Ctx} {N:Nat} {M:Mem} {β:Nat→Option Nat} {st:aH} {g:dk} {tmps:Array Value} {w:World} {o:Oper} {f:lC} {p:Path} {tt:dH} {ck:gF} {ops:List Oper}
structure Hyp(P:Program)(K:Ctx)(N:Nat)(M:Mem)(β:Nat→Option Nat)(g:dk)(tmps:Array Value)(w:World)(p:Path)(tt:dH):Prop where
 bo:fJ P K N M β g tmps w
 dT:fR tmps p
 tt:fe P tt=true
def agz(h:Hyp P K N M β g tmps w p tt){x:Operand}(ay:o.op = .move x)(hs:step1 ck tt ops g p o=some (.go f)):Yields P K M β g f o tmps w:=by
 simp only [step1,ay]at hs;split at hs
 case h_2=>cases hs
 rename_i d hd
 repeat' (first|(split at hs)|(rw [Bool.cond_eq_ite]at hs))
 all_goals first
  |(cases hs;done)
  |(cases hs;exact Vr h.bo h.dT (.inl ay) hd (by assumption))
  |(cases hs;exact Gn h.bo h.dT (.inl ay) hd)
def agA(h:Hyp P K N M β g tmps w p tt){x:Operand}(ay:o.op = .assign x)(hs:step1 ck tt ops g p o=some (.go f)):Yields P K M β g f o tmps w:=by
 simp only [step1,ay]at hs;split at hs
 case h_2=>cases hs
 rename_i d hd;split at hs
 ·rename_i e t fW;rw [Bool.cond_eq_ite]at hs;split at hs<;>cases hs
  ·exact Vr h.bo h.dT (.inr ay) hd fW
  ·exact Gn h.bo h.dT (.inr ay) hd
 ·split at hs
  ·rw [Bool.cond_eq_ite]at hs;split at hs<;>cases hs
   ·exact afE h.bo h.dT ay hd _
   ·exact Gn h.bo h.dT (.inr ay) hd
  ·cases hs
 ·cases hs;exact Gn h.bo h.dT (.inr ay) hd
def agB(h:Hyp P K N M β g tmps w p tt){c:Nat}{a b:Operand}(ay:o.op = .pick (.tmp c) a b)(hs:step1 ck tt ops g p o=some (.go f)):Yields P K M β g f o tmps w:=by
 simp only [step1,ay]at hs;split at hs
 case h_2=>cases hs
 rename_i tR BC qX Z aa am;cases hs;exact afF h.bo h.dT ay Z aa am
def agC(h:Hyp P K N M β g tmps w p tt){t:TypeId}(ay:o.op = .alloc t)(hs:step1 ck tt ops g p o=some (.go f)):Yields P K M β g f o tmps w:=by
 simp only [step1,ay]at hs;split at hs
 case h_2=>cases hs
 rename_i id fv hid;split at hs
 case h_2=>cases hs
 rename_i z cY;cases hs;exact afH h.bo h.tt ay cY hid
def agD(h:Hyp P K N M β g tmps w p tt){t:TypeId}{x:Operand}(ay:o.op = .box t x)(hs:step1 ck tt ops g p o=some (.go f)):Yields P K M β g f o tmps w:=by
 simp only [step1,ay]at hs;split at hs
 case h_2=>cases hs
 rename_i d id fv aE hd hid ab;rw [Bool.cond_eq_ite]at hs;split at hs<;>cases hs
 rename_i yK;simp only [Bool.or_eq_true,Bool.not_eq_true',not_or,Bool.not_eq_true,Bool.not_eq_false,Nat.beq_eq]at yK;exact afI h.bo h.dT ay hd yK.1.1 yK.1.2 h.tt ab yK.2 hid
def agE(h:Hyp P K N M β g tmps w p tt){t:TypeId}{parts:Array (Nat×Operand)}(ay:o.op = .build t parts)(hs:step1 ck tt ops g p o=some (.go f)):Yields P K M β g f o tmps w:=by
 simp only [step1,ay]at hs;split at hs
 ·rename_i cD fA kM zero _ bu ab gt;rw [Bool.cond_eq_ite]at hs;split at hs
  case isFalse=>cases hs
  rename_i ox;split at hs
  ·simp only [Option.map_eq_some_iff]at hs;obtain⟨d,⟨cs,ej,rfl⟩,hs⟩:=hs;cases hs;exact VC h.bo h.dT h.tt ab rfl ox ay gt (λr=>r.afL) ej
  ·simp only [Option.map_eq_some_iff]at hs;obtain⟨d,⟨cs,ej,rfl⟩,hs⟩:=hs;cases hs;exact VC h.bo h.dT h.tt ab rfl ox ay gt (λr=>r.VB) ej
 ·rename_i n e fA kM zero _ bu ab gt;split at hs
  case h_2=>cases hs
  rename_i aj agF Wa z2 eD;simp only [Option.map_eq_some_iff]at hs;obtain⟨d,⟨cs,ej,rfl⟩,hs⟩:=hs;cases hs;exact afN h.bo h.dT h.tt ab rfl eD ay gt ej
 ·cases hs
def agG(h:Hyp P K N M β g tmps w p tt){t:TypeId}{len:Nat}{parts:Array (Nat×Operand)}(ay:o.op = .buildSlice t len parts)(hs:step1 ck tt ops g p o=some (.go f))(cx:∀q,q∈f.a8→q):Yields P K M β g f o tmps w:=by
 simp only [step1,ay]at hs;split at hs
 case h_2=>cases hs
 rename_i e fA kM zero _ bu ab gt;split at hs
 case h_2=>cases hs
 rename_i aj agF Wa z2 eD;split at hs
 case h_2=>cases hs
 rename_i xs x rs hx eK;rw [Bool.cond_eq_ite]at hs;split at hs
 case isFalse=>cases hs
 rename_i hc;simp only [Bool.and_eq_true,Nat.ble_eq,Nat.beq_eq]at hc;cases hs;exact afP h.bo h.dT h.tt ab rfl eD ay gt hx hc.2 hc.1.2 hc.1.1 (cx _ (List.mem_singleton.2 rfl))
def agH(h:Hyp P K N M β g tmps w p tt){t:TypeId}{a:Operand}(ay:o.op = .load t a)(hs:step1 ck tt ops g p o=some (.go f)):Yields P K M β g f o tmps w:=by
 simp only [step1,ay]at hs;split at hs
 ·rename_i q off aE ha ab;split at hs
  case h_2=>cases hs
  rename_i cs ao;rw [Bool.cond_eq_ite]at hs;split at hs
  ·rename_i h5;rw [Bool.cond_eq_ite]at hs;split at hs
   case isFalse=>cases hs
   rename_i hle;split at hs
   ·rename_i rs eK;rw [Bool.cond_eq_ite]at hs;split at hs
    case isFalse=>cases hs
    rename_i hm;cases hs;simp only [Bool.and_eq_true]at hm;exact afZ h.bo h.dT h.tt ab ay ha ao h5 (by simpa using hle) hm.2
   ·cases hs;exact afS h.bo h.dT h.tt ab ay ha ao h5 (by simpa using hle)
  ·rename_i h5;split at hs
   case h_2=>cases hs
   rename_i e he;split at hs
   ·rename_i s rs gg eK;rw [Bool.cond_eq_ite]at hs;split at hs<;>cases hs
    exact afU h.bo h.dT h.tt ab ay ha ao (by simpa using h5) he gg
   ·cases hs;exact afT h.bo h.dT h.tt ab ay ha ao (by simpa using h5) he
 ·rename_i x aE ha ab;rw [Bool.cond_eq_ite]at hs;split at hs
  case isFalse=>cases hs
  rename_i hc;simp only [Bool.and_eq_true,beq_iff_eq,Nat.beq_eq]at hc;cases hs;exact afV h.bo h.dT h.tt ab ay ha hc.1 hc.2
 ·cases hs
def agI(h:Hyp P K N M β g tmps w p tt){t:TypeId}{a x:Operand}(ay:o.op = .store t a x)(hs:step1 ck tt ops g p o=some (.go f)):Yields P K M β g f o tmps w:=by
 simp only [step1,ay]at hs;split at hs
 case h_2=>cases hs
 rename_i q off d aE ha hx ab;split at hs
 case h_2=>cases hs
 rename_i cs ao;rw [Bool.cond_eq_ite]at hs;split at hs
 case isFalse=>cases hs
 rename_i hc;simp only [Bool.and_eq_true,Nat.beq_eq,Nat.ble_eq,Bool.not_eq_true']at hc;obtain⟨⟨⟨⟨jN,jt⟩,_⟩,Np⟩,Nq⟩:=hc;split at hs
 ·rename_i u s k n get fW;cases hs;simp only [pg,Option.bind_eq_some_iff]at fW;obtain⟨e,he,aD⟩:=fW;have en:aE.size=1:=by rw [←jN];rfl
  exact VK h.bo h.dT h.tt ab ay ha ao hx en jt (l:=[u]) (h.bo.bo.hand he aD (.cell q off))
 ·split at hs
  ·cases hs;have m8:=hx;simp only [rd]at m8;split at m8
   ·cases m8;have en:aE.size=1:=by rw [←jN];rfl
    exact VK h.bo h.dT h.tt ab ay ha ao hx en jt (l:=[]) (Mx _ _)
   ·cases m8
  ·cases hs
 ·rename_i u s fW;split at hs
  ·rw [Bool.cond_eq_ite]at hs;split at hs
   case isFalse=>cases hs
   rename_i hm;cases hs;simp only [Bool.and_eq_true,List.all_eq_true,Nat.blt_eq]at hm;simp only [pg,Option.bind_eq_some_iff]at fW;obtain⟨e,he,aD⟩:=fW;exact af1 h.bo h.dT h.tt ab ay ha ao hx Np Nq jN jt hm.1 he aD hm.2
  ·cases hs;exact VJ h.bo h.dT h.tt ab ay ha ao hx Np Nq jN jt _
 ·cases hs;exact VJ h.bo h.dT h.tt ab ay ha ao hx Np Nq jN jt _
def agJ(h:Hyp P K N M β g tmps w p tt){x:Operand}(ay:o.op = .nilCheck x)(hs:step1 ck tt ops g p o=some (.go f)):Yields P K M β g f o tmps w:=by
 simp only [step1,ay]at hs;split at hs
 ·rename_i q off hd;cases hs;have ai:=ed (ds:=[]) h.bo h.dT hd;obtain⟨b,_,au⟩:=pm ai;refine ff h.bo (v:=(⟨tmps,[]⟩:Act).eval x) ?_ ai;simp [execOp,ay,au]
 ·rename_i y hd;cases hs;have ai:=ed (ds:=[]) h.bo h.dT hd;obtain⟨b,off,val,au,_⟩:=Gi ai;refine ff h.bo (v:=(⟨tmps,[]⟩:Act).eval x) ?_ ai;simp [execOp,ay,au]
 ·cases hs
def agK(h:Hyp P K N M β g tmps w p tt){op:UnOp}{t:TypeId}{x:Operand}(ay:o.op = .unOp op t x)(hs:step1 ck tt ops g p o=some (.go f)):Yields P K M β g f o tmps w:=by
 simp only [step1,ay]at hs;split at hs
 case h_2=>cases hs
 rename_i a ha;simp only [Option.map_eq_some_iff]at hs;obtain⟨d,⟨B4,yH,rfl⟩,hs⟩:=hs;cases hs;have ai:=ed (ds:=[]) h.bo h.dT ha;unfold Vc at yH;split at yH<;>cases yH
 ·have:=vM ai
  refine ff h.bo (v:=.bool _) ?_ (.v _ _ (.bool _));simp [execOp,ay,this,Op.unary]
 ·have:=mx ai
  refine ff h.bo (v:=.int _ _) ?_ (.v _ _ (.int _ _));simp [execOp,ay,this,Op.unary,Op.intArith]
def agL(h:Hyp P K N M β g tmps w p tt){s t:TypeId}{x:Operand}(ay:o.op = .convert s t x)(hs:step1 ck tt ops g p o=some (.go f))(cx:∀q,q∈f.a8→q):Yields P K M β g f o tmps w:=by
 simp only [step1,ay]at hs;split at hs
 ·rename_i dc _ _ _ _ k _ _ _ _ fp n eV eD hd;cases hs;obtain⟨r1⟩:=ev h.tt eV;obtain⟨r2⟩:=ev h.tt eD;have ai:=mx (ed (ds:=[]) h.bo h.dT hd);refine ff h.bo (v:=.int k (k.wrap n)) ?_ (.v _ _ (.int _ _));simp only [execOp,ay,ai];refine jo _ ?_;simp [convert,r1.run_underlying,r2.run_underlying,BL r1 rfl,BL r2 rfl,Conv.intToInt]
 ·rename_i _ _ _ _ _ _ _ _ l eV eD hd;cases hs;obtain⟨r1⟩:=ev h.tt eV;obtain⟨r2⟩:=ev h.tt eD;have ai:=m6 (ed (ds:=[]) h.bo h.dT hd);refine ff h.bo (v:=.string ⟨⟨l⟩⟩) ?_ (.v _ _ (.str _));simp only [execOp,ay,ai];refine jo _ ?_;simp [convert,r1.run_underlying,r2.run_underlying,q1 r1 rfl,q1 r2 rfl]
 ·rename_i e _ _ _ _ _ _ _ _ n get eV eD hd;split at hs
  case h_2=>cases hs
  rename_i l rs B5 eK;cases hs;obtain⟨r1⟩:=ev h.tt eV;obtain⟨r2⟩:=ev h.tt eD;obtain⟨r3⟩:=ev h.tt B5;obtain⟨hlen,jb⟩:=cx _ (List.mem_singleton.2 rfl);have ai:=ed (ds:=[]) h.bo h.dT hd;refine ff h.bo (v:=.string ⟨⟨l⟩⟩) ?_ (.v _ _ (.str _));simp only [execOp,ay];refine jo _ ?_;rcases tX ai with⟨hn|⟨a,hn⟩,au⟩|⟨b,off,cap,val,au,hc,hk,c7,Z,fX⟩
  ·have hl0:l=[]:=List.eq_nil_of_length_eq_zero (hlen.trans au);rw [hn,hl0];simp [convert,r1.run_underlying,r2.run_underlying,r3.run_underlying,p8 r1 rfl,q1 r2 rfl,BL r3 rfl,Conv.bytesToString];rfl
  ·have hl0:l=[]:=List.eq_nil_of_length_eq_zero (hlen.trans au);rw [hn,hl0];exact run_convert_bytes_back w s t e a 0 [] (by rw [r1.hd,p8 r1 rfl]) (by rw [r3.hd,BL r3 rfl]) (by rw [r2.hd,q1 r2 rfl]) (λj hj=>by simp at hj)
  ·rw [au,←hlen]
   have iz:∀j (hj:j<l.length),w.cell? ((⟨b,off,none⟩:Addr).add j)=some (.int .u8 (l[j].toNat:Int)):=by
    intro j hj;have Nr:j<n:=by omega
    have e1:=jb j Nr;have e2:=fX j 0 (.int .u8 ((l.getD j 0).toNat:Int)) Nr (by rw [e1];rfl)
    have e3:val j 0 = .int .u8 ((l.getD j 0).toNat:Int):=by generalize val j 0=u at e2 ⊢;cases e2;rfl
    have hq:=h.bo.bo.mem _ _ _ (c7 j 0 Nr (by omega))
    rw [addr_add];have oB:off+j*1+0=off+j:=by omega
    rw [oB,e3]at hq;rw [hq];simp [List.getD,List.getElem?_eq_getElem hj]
   exact run_convert_bytes_back w s t e ⟨b,off,none⟩ cap l (by rw [r1.hd,p8 r1 rfl]) (by rw [r3.hd,BL r3 rfl]) (by rw [r2.hd,q1 r2 rfl]) iz
 ·cases hs
def agM(h:Hyp P K N M β g tmps w p tt){t:TypeId}{x:Operand}(ay:o.op = .makeInterface t x)(hs:step1 ck tt ops g p o=some (.go f)):Yields P K M β g f o tmps w:=by
 simp only [step1,ay]at hs;split at hs
 case h_2=>cases hs
 rename_i y k fA kM z _ hd ab;obtain⟨r⟩:=ev h.tt ab;have ai:=ed (ds:=[]) h.bo h.dT hd
 have hc:P.concrete t=true∨k = .pY:=by
  have hk:=r.hk;cases Wb:r.desc<;>simp [Wb,lG]at hk
  all_goals first
   |exact .inr hk.symm
   |(left;simp [Program.concrete,r.hd,Wb])
 split at hs
 ·cases hs
 ·rename_i hk;cases hs;rcases hc with hc|hc
  ·refine ff h.bo (v:=.iface t ((⟨tmps,[]⟩:Act).eval x)) ?_ (.v _ _ (.iface t _ _ (ov ai)));simp only [execOp,ay];exact jo _ (run_makeInterface w t _ hc)
  ·exact absurd hc hk
def agN(h:Hyp P K N M β g tmps w p tt){fn:FuncId}{first fm:Array Operand}(ay:o.op = .makeFunc (.func fn) first fm)(hs:step1 ck tt ops g p o=some (.go f)):Yields P K M β g f o tmps w:=by
 simp only [step1,ay]at hs;rw [Bool.cond_eq_ite]at hs;split at hs
 case isFalse=>cases hs
 rename_i he;simp only [Option.map_eq_some_iff]at hs;obtain⟨ds,ii,hs⟩:=hs;cases hs;obtain⟨Z,aa⟩:=tZ ii;have vV:first = #[]:=by simpa using he
 subst vV;refine ff h.bo (v:=.func (.func fn) #[] (fm.map (⟨tmps,[]⟩:Act).eval)) ?_ ?_
 ·simp [execOp,ay,Instr.makeFunc]
 ·have:fm.map (⟨tmps,[]⟩:Act).eval=⟨fm.toList.map (⟨tmps,[]⟩:Act).eval⟩:=by apply Array.ext';simp
  rw [this];refine .fn fn _ ds (by simp [Z]) λi v c au hc=>?_
  simp only [List.getElem?_map,Option.map_eq_some_iff]at au;obtain⟨y,b1,rfl⟩:=au;exact ed h.bo h.dT (aa i y c b1 hc)
def agO(h:Hyp P K N M β g tmps w p tt){x:Operand}{i:Nat}(ay:o.op = .extract x i)(hs:step1 ck tt ops g p o=some (.go f)):Yields P K M β g f o tmps w:=by
 simp only [step1,ay]at hs;split at hs
 case h_2=>cases hs
 rename_i ds hd;simp only [Option.map_eq_some_iff]at hs;obtain⟨d,uc,hs⟩:=hs;cases hs;obtain⟨vs,au,hlen,ai⟩:=afz (ed (ds:=[]) h.bo h.dT hd);have hi:i<ds.length:=(List.getElem?_eq_some_iff.1 uc).1;have eJ:vs[i]? = some vs[i]:=List.getElem?_eq_getElem (by omega)
 refine ff h.bo (v:=vs[i]) ?_ (ai i _ d eJ uc);simp only [execOp,ay,au];refine jo _ ?_;simp [Instr.extract,eJ]
end
section
variable {P:Program} {K:Ctx} {N:Nat} {M:Mem} {β:Nat→Option Nat} {st:aH} {g:dk} {tmps:Array Value} {w:World} {o:Oper} {f:lC} {p:Path} {tt:dH} {ck:gF} {ops:List Oper}
def re{op:BinOp}{t t2:TypeId}{x y:Operand}(ay:o.op = .binOp op t x y t2){a b v:Value}(hx:(⟨tmps,[]⟩:Act).eval x=a)(b1:(⟨tmps,[]⟩:Act).eval y=b)
 (hg:(eqGuard op t x y a b).run P w = .ok () w) (h:(binOp op t a b).run P w = .ok v w):(execOp (Act.eval ⟨tmps,[]⟩) o).run P w = .ok (.value v) w:=by
 simp only [execOp,ay,hx,b1];refine jo _ ?_;simp only [Sem.run_bind,hg,Result.andThen_ok,h]
def wa{op:BinOp}{t:TypeId}{x y:Operand}{a b:Value}(h:∀cs ds,¬ (a = .agg cs∧b = .agg ds))(aa:a = .nilIface→b = .nilIface→isConst y=true):(eqGuard op t x y a b).run P w = .ok () w:=by
 unfold eqGuard;cases op<;>try rfl
 all_goals
  simp only
  cases a<;>cases b<;>first
   |rfl
   |(exact absurd ⟨rfl,rfl⟩ (h _ _))
   |(have:=aa rfl rfl;cases y<;>simp [isConst]at this;simp)
def agP(cf:fe P tt=true){d:Nat}{ic:TypeId}{B6:List (Option mt)}{x y:V}{xs ys:List V}{h6 sw:Value}{r:Bool}
 (he:jk ((look tt ic).map (·.k)::B6) (x::xs) (y::ys)=some r) (B7:dq M h6 x) (B8:dq M sw y):∃c q,(Op.equalIn (d+1) ic h6 sw).run P w = .ok c w∧jk B6 xs ys=some q∧(c&&q)=r:=by
 cases ab:look tt ic with
 |none=>simp [ab,jk]at he
 |some aE=>
  obtain⟨row⟩:=ev cf ab;have ps:=row.hd;simp only [ab,Option.map_some]at he;unfold jk at he;split at he<;>simp only [List.cons.injEq,reduceCtorEq]at *
  case h_2 ks kk k a l k' b m e1 e2 e3=>
   obtain⟨e1,rfl⟩:=e1;obtain⟨rfl,rfl⟩:=e2;obtain⟨rfl,rfl⟩:=e3;cases B7;cases B8
   rw [Bool.cond_eq_ite]at he;split at he
   case isFalse=>cases he
   rename_i hk;simp only [decide_eq_true_eq]at hk;subst hk;simp only [Option.map_eq_some_iff]at he;obtain⟨q,ao,ai⟩:=he;refine⟨decide (a=b),q,?_,ao,ai⟩
   have:∃sx,row.desc = .int sx:=by
    have:=row.hk
    rw [Option.some.inj e1]at this;cases hd:row.desc<;>simp [hd,lG]at this;exact⟨_,rfl⟩
   obtain⟨sx,ky⟩:=this;rw [ky]at ps;rw [run_equalIn_int w d ic k sx a b ps];rfl
  case h_3 ks a l b m e1 e2 e3=>
   obtain⟨e1,rfl⟩:=e1;obtain⟨rfl,rfl⟩:=e2;obtain⟨rfl,rfl⟩:=e3;cases B7;cases B8
   simp only [Option.map_eq_some_iff]at he;obtain⟨q,ao,ai⟩:=he;refine⟨decide (a=b),q,?_,ao,ai⟩
   have:row.desc = .string:=q1 row (Option.some.inj e1)
   rw [this]at ps;rw [run_equalIn_string w d ic _ _ ps,Gm,Gm];by_cases m9:a=b<;>simp [m9]
  case h_4 ks a l b m e1 e2 e3=>
   obtain⟨e1,rfl⟩:=e1;obtain⟨rfl,rfl⟩:=e2;obtain⟨rfl,rfl⟩:=e3;cases B7;cases B8
   simp only [Option.map_eq_some_iff]at he;obtain⟨q,ao,ai⟩:=he;refine⟨(a == b),q,?_,ao,ai⟩
   have:row.desc = .bool:=No row (Option.some.inj e1)
   rw [this]at ps;rw [run_equalIn_bool' w d ic _ _ ps]
def oC(P:Program)(cD:List Field):List (Nat×TypeId×Nat):=cD.map λf=>(f.offset,f.type,P.cellsOf f.type)
def GF:∀{dc aj:List (Option mt)} {xs ys:List V} {r:Bool},jk (dc++aj) xs ys=some r→
 ∃r1 r2,jk dc (xs.take dc.length) (ys.take dc.length)=some r1∧jk aj (xs.drop dc.length) (ys.drop dc.length)=some r2∧(r1&&r2)=r∧dc.length≤xs.length∧dc.length≤ys.length∧∀k,k∈dc→k.isSome=true
 |[],aj,xs,ys,r,h=>⟨true,r,by simp [jk],by simpa using h,rfl,Nat.zero_le _,Nat.zero_le _,λk hk=>by cases hk⟩
 |k::dc,aj,xs,ys,r,h=>by
  simp only [List.cons_append]at h;unfold jk at h;split at h<;>simp only [List.cons.injEq,reduceCtorEq]at *
  ·rename_i ks kk k' a l ato b m e1;obtain⟨rfl,rfl⟩:=e1;rw [Bool.cond_eq_ite]at h;split at h
   case isFalse=>cases h
   rename_i hk;simp only [Option.map_eq_some_iff]at h;obtain⟨q,ao,rfl⟩:=h;obtain⟨r1,r2,Z,aa,am,aK,bd,b'⟩:=GF ao;refine⟨decide (a=b)&&r1,r2,?_,aa,by rw [Bool.and_assoc,am],by simpa using aK,by simpa using bd,λsx ky=>?_⟩
   ·simp only [List.length_cons,List.take_succ_cons,jk,hk,cond_true,Z,Option.map_some]
   ·rcases List.mem_cons.1 ky with rfl|ky
    ·rfl
    ·exact b' sx ky
  ·rename_i ks a l b m e1;obtain⟨rfl,rfl⟩:=e1;simp only [Option.map_eq_some_iff]at h;obtain⟨q,ao,rfl⟩:=h;obtain⟨r1,r2,Z,aa,am,aK,bd,b'⟩:=GF ao;refine⟨decide (a=b)&&r1,r2,?_,aa,by rw [Bool.and_assoc,am],by simpa using aK,by simpa using bd,λsx ky=>?_⟩
   ·simp only [List.length_cons,List.take_succ_cons,jk,Z,Option.map_some]
   ·rcases List.mem_cons.1 ky with rfl|ky
    ·rfl
    ·exact b' sx ky
  ·rename_i ks a l b m e1;obtain⟨rfl,rfl⟩:=e1;simp only [Option.map_eq_some_iff]at h;obtain⟨q,ao,rfl⟩:=h;obtain⟨r1,r2,Z,aa,am,aK,bd,b'⟩:=GF ao;refine⟨(a == b)&&r1,r2,?_,aa,by rw [Bool.and_assoc,am],by simpa using aK,by simpa using bd,λsx ky=>?_⟩
   ·simp only [List.length_cons,List.take_succ_cons,jk,Z,Option.map_some]
   ·rcases List.mem_cons.1 ky with rfl|ky
    ·rfl
    ·exact b' sx ky
def ud(tt:dH)(ic:TypeId):Nat→List (Option mt)
 | 0=>[(look tt ic).map (·.k)]
 |q+1=>match look tt ic with
  |some {k:=.dE gs,..}=>mZ tt q gs
  |o=>[o.map (·.k)]
def GG(q:Nat)(f:Field)(cD:List Field):mZ tt q (oC P (f::cD))=ud tt f.type q++mZ tt q (oC P cD):=by
 cases q with
 |zero=>rfl
 |succ q=>
  simp only [mZ,oC,List.map_cons,List.flatMap_cons,ud];rfl
def Wc{t:TypeId}{aE:eI}(r:Row P t aE){gs:Array Field}(h:P.underlying t=some (.struct gs)):aE.k = .dE (oC P gs.toList):=by
 have hd:r.desc = .struct gs:=Option.some.inj (r.hd.symm.trans h);have:=r.hk
 rw [hd]at this;simp [lG]at this;exact this.symm
def Wd{t:TypeId}{aE:eI}(r:Row P t aE){gs:List (Nat×TypeId×Nat)}(h:aE.k = .dE gs):∃cD:Array Field,P.underlying t=some (.struct cD)∧gs=oC P cD.toList:=by
 have Z:=r.hk;rw [h]at Z;cases hd:r.desc<;>simp [hd,lG]at Z
 rename_i cD;refine⟨cD,?_,Z.symm⟩
 rw [r.hd,hd]
def We(cf:fe P tt=true){ic:TypeId}(h:∀gs,P.underlying ic≠some (.struct gs))(q:Nat):ud tt ic q=[(look tt ic).map (·.k)]:=by
 cases q with
 |zero=>rfl
 |succ q=>
  simp only [ud];split
  ·rename_i gs _ _ _ _ ab;obtain⟨row⟩:=ev cf ab;obtain⟨cD,Z,_⟩:=Wd row rfl;exact absurd Z (h cD)
  ·rfl
def Ns(cf:fe P tt=true):∀(q:Nat) (cD:List Field),(∀k,k∈mZ tt q (oC P cD)→k.isSome=true)→(mZ tt q (oC P cD)).length=sk P q cD
 | 0,cD,_=>by simp [mZ,oC,sk]
 |q+1,[],_=>by simp [mZ,oC,sk]
 |q+1,f::cD,h=>by
  rw [GG]at h ⊢;have aM:=Ns cf (q+1) cD λk hk=>h k (List.mem_append_right _ hk)
  have hc:sk P (q+1) (f::cD)=(match P.underlying f.type with|some (.struct gs)=>sk P q gs.toList|_=>1)+sk P (q+1) cD:=by
   simp only [sk,List.map_cons,List.sum_cons];rfl
  rw [List.length_append,aM,hc]
  congr 1
  simp only [ud]at h ⊢;split
  ·rename_i gs _ _ _ _ ab;obtain⟨row⟩:=ev cf ab;obtain⟨B9,Z,rfl⟩:=Wd row rfl;rw [Z];refine Ns cf q B9.toList λk hk=>h k (List.mem_append_left _ ?_)
   rw [ab];exact hk
  ·rename_i o pt;cases ay:look tt f.type with
   |none=>
    have:=h none (List.mem_append_left _ (by rw [ay];simp))
    cases this
   |some aE=>
    obtain⟨row⟩:=ev cf ay;split
    ·rename_i gs hu;have:=Wc row hu
     obtain⟨k,s,b,z,ig⟩:=aE;simp only at this
     subst this;exact absurd ay (pt _ _ _ _ _)
    ·rfl
def Wf (cf : fe P tt = true) {d : Nat} {f : Field} {cD : List Field} {i : Nat} {B6 : List (Option mt)} {xs ys : List V} {vs us : List Value} {r : Bool} (ue : f.offset = i) (kb : ¬ f.name = "_") (h5 : (isAgg f.type).run P w = .ok false w)
 (he:jk ((look tt f.type).map (·.k)::B6) xs ys=some r)
 (au:∀(j:Nat) v x,vs[i+j]? = some v→xs[j]? = some x→dq M v x) (hu:∀(j:Nat) v x,us[i+j]? = some v→ys[j]? = some x→dq M v x) (hz:i+xs.length≤vs.length) (q5:i+ys.length≤us.length)
 (aM:∀(q:Bool),∀{B' B_:List V},jk B6 B' B_=some q→(∀(j:Nat) v x,vs[i+1+j]? = some v→B'[j]? = some x→dq M v x)→(∀(j:Nat) v x,us[i+1+j]? = some v→B_[j]? = some x→dq M v x)→i+1+B'.length≤vs.length→i+1+B_.length≤us.length→(Op.eqFields (d+1) ⟨vs⟩ ⟨us⟩ cD).run P w = .ok q w):
 (Op.eqFields (d+1) ⟨vs⟩ ⟨us⟩ (f::cD)).run P w = .ok r w:=by
 cases xs with
 |nil=>simp [jk]at he
 |cons x xs=>
  cases ys with
  |nil=>simp [jk]at he
  |cons y ys=>
   simp only [List.length_cons]at hz q5;obtain⟨h6,eJ⟩:∃h6,vs[i]? = some h6:=⟨_,List.getElem?_eq_getElem (by omega)⟩
   obtain⟨sw,Wg⟩:∃sw,us[i]? = some sw:=⟨_,List.getElem?_eq_getElem (by omega)⟩
   have B7:=au 0 h6 x eJ rfl;have B8:=hu 0 sw y Wg rfl
   have q7:∀{zs:List Value} {z:Value},zs[i]? = some z→(part f.type ⟨zs⟩ f.offset).run P w = .ok z w:=by
    intro zs z cY;have:(⟨zs⟩:Array Value)[f.offset]? = some z:=by rw [ue];simpa using cY
    simp only [part,Sem.run_bind,h5,Result.andThen_ok,this];rfl
   obtain⟨c,q,Z,aa,am⟩:=agP (P:=P) (w:=w) (M:=M) cf (d:=d) he B7 B8;have aK:=aM q aa (λj v z Z aa=>au (j+1) v z (by rw [←Z];congr 1;omega) (by simpa using aa)) (λj v z Z aa=>hu (j+1) v z (by rw [←Z];congr 1;omega) (by simpa using aa)) (by omega) (by omega)
   simp only [Op.eqFields];rw [if_pos kb];simp only [Sem.run_bind,q7 eJ,q7 Wg,Result.andThen_ok,Z];cases c
   ·simp [←am]
   ·simp [←am,aK]
def agQ(cf:fe P tt=true):∀(q:Nat) {d:Nat} {cD:List Field} {i:Nat} {xs ys:List V} {vs us:List Value} {r:Bool},vL P q i cD=true→jk (mZ tt q (oC P cD)) xs ys=some r→
 (∀(j:Nat) v x,vs[i+j]? = some v→xs[j]? = some x→dq M v x)→(∀(j:Nat) v x,us[i+j]? = some v→ys[j]? = some x→dq M v x)→i+xs.length≤vs.length→i+ys.length≤us.length→
 (Op.eqFields (d+q+1) ⟨vs⟩ ⟨us⟩ cD).run P w = .ok r w:=by
 intro q;induction q with
 |zero=>
  intro d cD;induction cD with
  |nil=>intro i xs ys vs us r _ he _ _ _ _;cases xs<;>cases ys<;>simp [mZ,oC,jk]at he;subst he;simp [Op.eqFields]
  |cons f cD aM=>
   intro i xs ys vs us r bP he au hu hz q5;simp only [vL,yv,Bool.and_eq_true,Nat.beq_eq,Bool.not_eq_true',decide_eq_false_iff_not]at bP;obtain⟨⟨ue,kb⟩,hl⟩:=bP
   have uf:(∀gs,P.underlying f.type≠some (.struct gs))∧vL P 0 (i+1) cD=true∧(isAgg f.type).run P w = .ok false w:=by
    simp only [isAgg,Sem.run_bind];split at hl
    ·rename_i k hk;refine⟨λgs h=>(by rw [hk]at h;cases h),hl,?_⟩;rw [Go.run_underlying hk];rfl
    ·rename_i hk;refine⟨λgs h=>(by rw [hk]at h;cases h),hl,?_⟩;rw [Go.run_underlying hk];rfl
    ·rename_i hk;refine⟨λgs h=>(by rw [hk]at h;cases h),hl,?_⟩;rw [Go.run_underlying hk];rfl
    ·simp at hl
    ·cases hl
   exact Wf cf ue kb uf.2.2 (by rw [GG,We cf uf.1]at he;exact he) au hu hz q5 λq' B' B_ p_ pq Nt Z aa=>aM uf.2.1 p_ pq Nt Z aa
 |succ q agR=>
  intro d cD;induction cD with
  |nil=>intro i xs ys vs us r _ he _ _ _ _;cases xs<;>cases ys<;>simp [mZ,oC,jk]at he;subst he;simp [Op.eqFields]
  |cons f cD aM=>
   intro i xs ys vs us r bP he au hu hz q5;have Nu:=bP;simp only [vL,yv,Bool.and_eq_true,Nat.beq_eq,Bool.not_eq_true',decide_eq_false_iff_not]at bP;obtain⟨⟨ue,kb⟩,hl⟩:=bP;by_cases c_:∃gs,P.underlying f.type=some (.struct gs)
   ·obtain⟨gs,yL⟩:=c_;rw [yL]at hl;simp only [Bool.and_eq_true,Bool.not_eq_true',Nat.beq_eq]at hl;obtain⟨⟨⟨agS,GH⟩,agT⟩,Wh⟩:=hl;rw [GG]at he;obtain⟨r1,r2,e1,e2,e3,hf,jr,v'⟩:=GF he
    have kQ:∃aE,look tt f.type=some aE:=by
     cases ab:look tt f.type with
     |none=>have:=v' none (by simp [ud,ab]);cases this
     |some aE=>exact⟨aE,rfl⟩
    obtain⟨aE,GI⟩:=kQ;obtain⟨row⟩:=ev cf GI;have hk:=Wc row yL
    have vY:ud tt f.type (q+1)=mZ tt q (oC P gs.toList):=by
     obtain⟨k,s,b,z,ig⟩:=aE;simp only at hk
     subst hk;simp only [ud,GI]
    rw [vY]at e1 e2 hf jr v';have hn:=Ns cf q gs.toList v';rw [hn,←GH]at e1 e2 hf jr;generalize aZ:P.cellsOf f.type=n at e1 e2 hf jr
    obtain⟨info,Gq⟩:=info_of_underlying yL
    have q7:∀zs:List Value,(part f.type ⟨zs⟩ f.offset).run P w = .ok (.agg ⟨(zs.drop i).take n⟩) w:=by
     intro zs
     have:(⟨zs⟩:Array Value).extract i (i+n)=⟨(zs.drop i).take n⟩:=by
      apply Array.ext';rw [Array.toList_extract];simp [List.extract]
     simp only [part,isAgg,Sem.run_bind,run_underlying yL,run_sizeOf w Gq,Result.andThen_ok,Sem.run_pure,ue,aZ];simp [this,run_sizeOf w Gq,aZ]
    have jn:∀{zs:List Value} {cs:List V},(∀(j:Nat) v x,zs[i+j]? = some v→cs[j]? = some x→dq M v x)→∀(j:Nat) v x,((zs.drop i).take n)[0+j]? = some v→(cs.take n)[j]? = some x→dq M v x:=by
     intro zs cs h j v x Z aa;rw [Nat.zero_add,List.getElem?_take]at Z;rw [List.getElem?_take]at aa;split at Z
     ·rename_i hj;rw [if_pos hj]at aa;rw [List.getElem?_drop]at Z;exact h j v x Z aa
     ·cases Z
    have yB:P.fieldsOf f.type=gs:=by simp [Program.fieldsOf,yL]
    have hin:(Op.equalIn (d+(q+1)+1) f.type (.agg ⟨(vs.drop i).take n⟩) (.agg ⟨(us.drop i).take n⟩)).run P w = .ok r1 w:=by
     rw [run_equalIn_agg w (d+(q+1)) f.type _ _ (by rw [yB];exact yL) agS,yB]
     exact agR (d:=d) (i:=0) agT e1 (jn au) (jn hu) (by simp;omega) (by simp;omega)
    have Wi:∀{zs:List Value} {cs:List V},(∀(j:Nat) v x,zs[i+j]? = some v→cs[j]? = some x→dq M v x)→∀(j:Nat) v x,zs[i+n+j]? = some v→(cs.drop n)[j]? = some x→dq M v x:=by
     intro zs cs h j v x Z aa;rw [List.getElem?_drop]at aa;exact h (n+j) v x (by rw [←Nat.add_assoc];exact Z) aa
    rw [aZ]at Wh;have ja:=aM (i:=i+n) Wh e2 (Wi au) (Wi hu) (by simp;omega) (by simp;omega)
    simp only [Op.eqFields];rw [if_pos kb];simp only [Sem.run_bind,q7,Result.andThen_ok,hin];cases r1
    ·simp [←e3]
    ·simp [←e3,ja]
   ·have uf:vL P (q+1) (i+1) cD=true∧(isAgg f.type).run P w = .ok false w:=by
     simp only [isAgg,Sem.run_bind];split at hl
     ·rename_i k hk;refine⟨hl,?_⟩;rw [Go.run_underlying hk];rfl
     ·rename_i hk;refine⟨hl,?_⟩;rw [Go.run_underlying hk];rfl
     ·rename_i hk;refine⟨hl,?_⟩;rw [Go.run_underlying hk];rfl
     ·rename_i gs hk;exact absurd ⟨gs,hk⟩ c_
     ·cases hl
    exact Wf cf ue kb uf.2 (by rw [GG,We cf (λgs h=>c_ ⟨gs,h⟩)]at he;exact he) au hu hz q5 λq' B' B_ p_ pq Nt Z aa=>aM uf.1 p_ pq Nt Z aa
def Wj(cf:fe P tt=true){t:TypeId}{cD:List (Nat×TypeId×Nat)}{fA kM:Nat}{z:List V}{ig:List (Nat×TypeId)}(ab:look tt t=some {k:=.dE cD,size:=fA,bytes:=kM,zero:=z,jY:=ig})(he:MA P t=true){xs ys:List V}{r:Bool}(ai:jk (mZ tt 4 cD) xs ys=some r)
 {h6 sw:Value} (au:dq M h6 (.agg xs)) (hu:dq M sw (.agg ys)):∃vs us,h6 = .agg ⟨vs⟩∧sw = .agg ⟨us⟩∧(Op.equalIn 10000 t (.agg ⟨vs⟩) (.agg ⟨us⟩)).run P w = .ok r w∧∀op a b,(eqGuard op t a b (.agg ⟨vs⟩) (.agg ⟨us⟩)).run P w = .ok () w:=by
 obtain⟨row⟩:=ev cf ab;cases au with
 |agg vs _ hn Z fX=>
  cases hu with
  |agg us _ Gg nv agU=>
   refine⟨vs,us,rfl,rfl,?_⟩
   unfold MA at he;split at he
   case h_2=>cases he
   rename_i B9 ps;simp only [Bool.and_eq_true,Bool.not_eq_true']at he;obtain⟨⟨aa,am⟩,aK⟩:=he;have Nu:P.fieldsOf t=B9:=by simp [Program.fieldsOf,ps]
   have Nv:row.desc = .struct B9:=Option.some.inj (row.hd.symm.trans ps)
   have ox:cD=B9.toList.map λf=>(f.offset,f.type,P.cellsOf f.type):=by
    have:=row.hk
    rw [Nv]at this;simp [lG]at this;exact this.symm
   refine⟨?_,λop a b=>run_eqGuard_agg w op t a b _ _ am⟩
   rw [run_equalIn_agg w 9999 t _ _ (by rw [Nu];exact ps) aa,Nu]
   refine agQ cf 4 (d:=9994) (i:=0) (xs:=xs) (ys:=ys) aK (by rw [ox]at ai;exact ai) (λj v x bd b'=>fX j v x (by simpa using bd) b') (λj v x bd b'=>agU j v x (by simpa using bd) b') (by omega) (by omega)
def agV(h:Hyp P K N M β g tmps w p tt){op:BinOp}{t t2:TypeId}{x y:Operand}(ay:o.op = .binOp op t x y t2)(hs:step1 (hR P) tt ops g p o=some (.go f))(cx:∀q,q∈f.a8→q):Yields P K M β g f o tmps w:=by
 simp only [step1,ay]at hs;split at hs
 case h_3=>cases hs
 case h_1=>
  rename_i xs ys ha hb;have qb:=ov (ed (ds:=[]) h.bo h.dT ha);have pu:=ov (ed (ds:=[]) h.bo h.dT hb);split at hs
  case h_2=>cases hs
  rename_i cD fA kM z _ ab;rw [Bool.cond_eq_ite]at hs;split at hs
  case isFalse=>cases hs
  rename_i he;split at hs
  ·rename_i r ai;cases hs;obtain⟨vs,us,e1,e2,Z,aa⟩:=Wj (w:=w) (M:=M) h.tt ab he ai qb pu;exact ff h.bo (re ay e1 e2 (aa _ _ _) (by rw [run_eql_struct,Z];rfl)) (.v _ _ (.bool _))
  ·rename_i r ai;cases hs;obtain⟨vs,us,e1,e2,Z,aa⟩:=Wj (w:=w) (M:=M) h.tt ab he ai qb pu;exact ff h.bo (re ay e1 e2 (aa _ _ _) (by rw [run_neq_struct,Z];rfl)) (.v _ _ (.bool _))
  ·cases hs
 rename_i a b ha hb;simp only [Option.map_eq_some_iff]at hs;obtain⟨⟨z,a8⟩,cY,hs⟩:=hs;cases hs;have qb:=ed (ds:=[]) h.bo h.dT ha;have pu:=ed (ds:=[]) h.bo h.dT hb;unfold Vb at cY;split at cY
 ·rename_i dc m aj n;have e1:=mx qb;have e2:=mx pu;split at cY
  ·rename_i z0 hsh;cases cY;obtain⟨v,au,ai⟩:=agu (P:=P) (w:=w) (M:=M) (k':=aj) hsh cx t;exact ff h.bo (re ay e1 e2 (wa (by simp) (by simp)) au) (.v _ _ ai)
  rw [Bool.cond_eq_ite]at cY;split at cY
  case isFalse=>cases cY
  rename_i hk;simp only [decide_eq_true_eq]at hk;subst hk;obtain⟨v,au,ai⟩:=agt (P:=P) (w:=w) (M:=M) cY cx t;exact ff h.bo (re ay e1 e2 (wa (by simp) (by simp)) au) (.v _ _ ai)
 ·have e1:=m6 qb;have e2:=m6 pu;obtain⟨v,au,ai⟩:=agv (P:=P) (w:=w) (M:=M) cY cx t;exact ff h.bo (re ay e1 e2 (wa (by simp) (by simp)) au) (.v _ _ ai)
 ·rename_i b9 ho;have e1:=vM qb;have e2:=vM pu;obtain⟨dep,hm⟩:∃d,Op.maxDepth=d+1:=⟨9999,rfl⟩;cases ab:look tt t with
  |none=>rw [ab]at cY;simp at cY
  |some aE=>
   rw [ab]at cY;obtain⟨r⟩:=ev h.tt ab;split at cY<;>cases cY
   ·rename_i hk;simp at hk
    refine ff h.bo (v:=.bool (b9 == ho)) (re ay e1 e2 (wa (by simp) (by simp)) ?_) (.v _ _ (.bool _))
    simp only [binOp,Sem.run_bind];rw [Op.equal,hm,Op.equalIn];simp [r.run_underlying,No r hk]
   ·rename_i hk;simp at hk
    refine ff h.bo (v:=.bool (!(b9 == ho))) (re ay e1 e2 (wa (by simp) (by simp)) ?_) (.v _ _ (.bool _))
    simp only [binOp,Sem.run_bind];rw [Op.equal,hm,Op.equalIn];simp [r.run_underlying,No r hk]
 ·cases ab:look tt t with
  |none=>rw [ab]at cY;simp at cY
  |some aE=>
   rw [ab]at cY;simp only [Option.map_some]at cY;obtain⟨r⟩:=ev h.tt ab;rw [Bool.cond_eq_ite]at cY;split at cY
   case isFalse=>cases cY
   rename_i hc;simp only [Bool.and_eq_true]at hc
   have Wk:(eqGuard op t x y ((⟨tmps,[]⟩:Act).eval x) ((⟨tmps,[]⟩:Act).eval y)).run P w = .ok () w:=by
    refine wa ?_ (λ_ _=>hc.2)
    rintro cs ds ⟨_,bQ⟩
    rw [bQ]at pu;have Nw:=hc.1;unfold F9 at Nw;split at Nw<;>first|(cases ov pu;done)|(cases Nw;done)
   split at cY<;>cases cY
   ·rename_i res hn;obtain⟨Z,aa⟩:=V_ (w:=w) r qb pu hc.1 hn;refine ff h.bo (v:=.bool res) (re ay rfl rfl Wk ?_) (.v _ _ (.bool _));rw [aa .eql];simp [Z]
   ·rename_i res hn;obtain⟨Z,aa⟩:=V_ (w:=w) r qb pu hc.1 hn;refine ff h.bo (v:=.bool (!res)) (re ay rfl rfl Wk ?_) (.v _ _ (.bool _));rw [aa .neq];simp [Z]
def agW(h:Hyp P K N M β g tmps w p tt){s:TypeId}{x:Operand}{i:Nat}(ay:o.op = .fieldAddr s x i)(hs:step1 ck tt ops g p o=some (.go f)):Yields P K M β g f o tmps w:=by
 simp only [step1,ay]at hs;split at hs
 ·rename_i q off cD fA kM z _ hd ab;obtain⟨r⟩:=ev h.tt ab;split at hs
  case h_2=>cases hs
  rename_i cR ic yM bP;rw [Bool.cond_eq_ite]at hs;split at hs
  case isFalse=>cases hs
  rename_i hc;cases hs;obtain⟨b,hb,au⟩:=pm (ed (ds:=[]) h.bo h.dT hd);refine ff h.bo (v:=.pointer (some ⟨b,off+cR,none⟩)) ?_ (.ptr _ _ _ hb);simp only [execOp,ay,au];exact jo _ (Vp r rfl bP (by simpa using hc) b off)
 ·rename_i cs cD fA kM z _ hd ab;obtain⟨r⟩:=ev h.tt ab;split at hs
  case h_2=>cases hs
  rename_i cR ic yM bP;split at hs
  case h_2=>cases hs
  rename_i yA GJ;rw [Bool.cond_eq_ite]at hs;split at hs
  case isFalse=>cases hs
  rename_i hc;simp only [Bool.and_eq_true,Nat.ble_eq]at hc;obtain⟨b,off,val,au,c7,Z,ai⟩:=Gi (ed (ds:=[]) h.bo h.dT hd)
  have eO:(execOp (Act.eval ⟨tmps,[]⟩) o).run P w = .ok (.value (.pointer (some ⟨b,off+cR,none⟩))) w:=by
   simp only [execOp,ay,au];exact jo _ (Vp r rfl bP hc.1 b off)
  simp only [V.cells]at c7 Z ai;rw [Bool.cond_eq_ite]at hs;split at hs
  ·cases hs;have hlen:((cs.drop cR).take yM).length=yM:=by simp;omega
   refine ff h.bo eO (.e' b (off+cR) _ (λj=>val (cR+j)) (λj hj=>?_) (λj hj=>?_) (λj c hj=>?_))
   ·simp only [V.cells,hlen]at hj;rw [Nat.add_assoc];exact c7 _ (by omega)
   ·simp only [V.cells,hlen]at hj;exact Z _ (by omega)
   ·simp only [V.cells]at hj;rw [List.getElem?_take]at hj;split at hj
    ·rw [List.getElem?_drop]at hj;exact ai _ c hj
    ·cases hj
  ·rw [Bool.cond_eq_ite]at hs;split at hs
   case isFalse=>cases hs
   rename_i en;split at hs
   case h_2=>cases hs
   rename_i c jN;rw [Bool.cond_eq_ite]at hs;split at hs
   ·cases hs
   ·rename_i agX;cases hs;have l9:=yz (x:=c) (by simpa using agX)
    refine ff h.bo eO (.e' b (off+cR) c (λj=>val (cR+j)) (λj hj=>?_) (λj hj=>?_) (λj h4 hj=>?_))
    ·rw [l9]at hj;rw [Nat.add_assoc];exact c7 _ (by have:=(List.getElem?_eq_some_iff.1 jN).1;simp at hj;omega)
    ·rw [l9]at hj;exact Z _ (by have:=(List.getElem?_eq_some_iff.1 jN).1;simp at hj;omega)
    ·rw [l9]at hj;cases j with
     |zero=>simp at hj;subst hj;exact ai _ _ jN
     |succ j=>simp at hj
 ·cases hs
def agY(h:Hyp P K N M β g tmps w p tt){s:TypeId}{x:Operand}{i:Nat}(ay:o.op = .field s x i)(hs:step1 ck tt ops g p o=some (.go f)):Yields P K M β g f o tmps w:=by
 simp only [step1,ay]at hs;split at hs
 case h_3=>cases hs
 case h_2=>
  rename_i cs cD fA kM z _ hd ab;obtain⟨r⟩:=ev h.tt ab;split at hs
  case h_2=>cases hs
  rename_i cR ic yM bP;split at hs
  case h_2=>cases hs
  rename_i yA c GJ jN;obtain⟨Nx⟩:=ev h.tt GJ;rw [Bool.cond_eq_ite]at hs;split at hs
  ·cases hs
  rename_i hc;simp only [Bool.or_eq_true,not_or,Bool.not_eq_true,Bool.not_eq_true',Bool.not_eq_false,Nat.beq_eq]at hc;cases hs;have mc:=ed (ds:=[]) h.bo h.dT hd;generalize wb:(⟨tmps,[]⟩:Act).eval x=h6 at mc
  cases mc with
  |agg vs _ hn Z ai=>
   have bw:cR<cs.length:=(List.getElem?_eq_some_iff.1 jN).1;have eJ:vs[cR]? = some vs[cR]:=List.getElem?_eq_getElem (by omega)
   obtain⟨ha,hb⟩:=Vq (w:=w) r rfl bP Nx vs (by omega)
   refine ff h.bo (v:=vs[cR]) ?_ (ai _ _ c eJ jN);simp only [execOp,ay,wb];exact jo _ (hb hc.1.1 _ eJ)
 rename_i cs cD fA kM z _ hd ab;obtain⟨r⟩:=ev h.tt ab;split at hs
 case h_2=>cases hs
 rename_i cR ic yM bP;split at hs
 case h_2=>cases hs
 rename_i yA GJ;obtain⟨Nx⟩:=ev h.tt GJ;rw [Bool.cond_eq_ite]at hs;split at hs
 case isFalse=>cases hs
 rename_i hc;simp only [Nat.ble_eq]at hc;obtain⟨vs,au,hlen,Z,ai⟩:=afy (ed (ds:=[]) h.bo h.dT hd);obtain⟨ha,hb⟩:=Vq (w:=w) r rfl bP Nx vs (by omega)
 rw [Bool.cond_eq_ite]at hs;split at hs
 ·rename_i h5;cases hs;refine ff h.bo (v:=.agg ⟨(vs.drop cR).take yM⟩) ?_ (.v _ _ (.agg _ _ (by simp;omega) (λv au=>Z v (List.mem_of_mem_drop (List.mem_of_mem_take au))) (λj v c au kv=>?_)))
  ·simp only [execOp,ay,au];exact jo _ (ha h5)
  ·rw [List.getElem?_take]at au kv;split at au
   ·rename_i hj;rw [if_pos hj,List.getElem?_drop]at kv;rw [List.getElem?_drop]at au;exact ai _ v c au kv
   ·cases au
 ·rename_i h5;split at hs
  case h_2=>cases hs
  rename_i c jN;cases hs;have bw:cR<cs.length:=(List.getElem?_eq_some_iff.1 jN).1;have eJ:vs[cR]? = some vs[cR]:=List.getElem?_eq_getElem (by omega)
  refine ff h.bo (v:=vs[cR]) ?_ (.v _ _ (ai _ _ c eJ jN));simp only [execOp,ay,au];exact jo _ (hb (by simpa using h5) _ eJ)
def agZ{x y:V}(au:hv x y){k b off:Nat}{val:Nat→Value}(hk:x.cells.length=k)(c7:∀q,q<k→M b (off+q)=some (val q))(Z:∀q,q<k→(val q).oneCell'=true)
 (ai:∀(q:Nat) c,x.cells[q]? = some c→dq M (val q) c):cv M β (.pointer (some ⟨b,off,none⟩)) (.e' y):=by
 subst hk;have b1:=au M _ (Vo Z ai);cases hx:x.isAgg with
 |true=>
  rw [hx]at b1;simp only [cond_true]at b1;cases b1 with
  |agg vs cs hn nv fb=>
   have hlen:cs.length=x.cells.length:=by simpa using hn.symm
   refine .e' b off _ val (λj hj=>c7 j (by simp only [V.cells]at hj;omega)) (λj hj=>Z j (by simp only [V.cells]at hj;omega)) (λj c hj=>?_)
   simp only [V.cells]at hj;have vZ:j<x.cells.length:=by have:=(List.getElem?_eq_some_iff.1 hj).1;omega
   exact fb j (val j) c (by simp [vZ]) hj
  |any _ nv=>simp [Value.oneCell']at nv
 |false=>
  rw [hx]at b1;simp only [cond_false]at b1;have yN:=yz hx;have gH:=Z 0 (by rw [yN];simp)
  have ag0:y.isAgg=false:=by
   cases y<;>first|rfl|skip
   exfalso
   generalize val 0=u at b1 gH
   cases b1;simp [Value.oneCell']at gH
  have Ny:=yz ag0;refine .e' b off y val (λj hj=>c7 j (by rw [yN];rw [Ny]at hj;exact hj)) (λj hj=>Z j (by rw [yN];rw [Ny]at hj;exact hj)) (λj c hj=>?_)
  rw [Ny]at hj;cases j with
  |zero=>simp at hj;subst hj;exact b1
  |succ j=>simp at hj
def ag1(h:Hyp P K N M β g tmps w p tt){t:TypeId}{x i:Operand}(ay:o.op = .indexAddr t x i)(hs:step1 ck tt ops g p o=some (.go f))(cx:∀q,q∈f.a8→q):Yields P K M β g f o tmps w:=by
 simp only [step1,ay]at hs;split at hs
 case h_2=>cases hs
 rename_i k n get kk j e fA kM z _ hx hi ab;obtain⟨r⟩:=ev h.tt ab;split at hs
 case h_2=>cases hs
 rename_i aj size Wa z2 eD;obtain⟨d9⟩:=ev h.tt eD;rw [Bool.cond_eq_ite]at hs;split at hs
 case isFalse=>cases hs
 rename_i hc;simp only [Bool.and_eq_true,Nat.beq_eq,Nat.ble_eq]at hc;obtain⟨rfl,ag2⟩:=hc
 have lk:∃(y:V) (rs:List fu) (a8:List Prop),f={e:=some {d:=.e' y},rs,a8}∧hv (get j.toNat) y∧aI j n=true:=by
  split at hs
  ·rename_i y rs eK;cases hs;exact⟨_,_,_,rfl,cx _ (by simp),cx (aI j n=true) (by simp)⟩
  ·cases hs;exact⟨_,_,_,rfl,λ_ _ h=>h,cx (aI j n=true) (by simp)⟩
  ·cases hs
 obtain⟨y,rs,a8,rfl,cF,fc⟩:=lk;have fc:=V7 fc;have Nz:=mx (ed (ds:=[]) h.bo h.dT hi);rcases tX (ed (ds:=[]) h.bo h.dT hx) with⟨_,kx⟩|⟨b,off,cap,val,au,_,hk,c7,Z,ai⟩
 ·omega
 ·have bw:j.toNat<n:=by omega
  have b1:cv M β (.pointer (some ⟨b,off+j.toNat*k,none⟩)) (.e' y):=
   agZ cF (hk _ bw) (λq ao=>c7 _ q bw ao) (λq ao=>Z _ q bw ao) (λq c ao=>ai _ q c bw ao)
  refine ff h.bo (v:=.pointer (some ⟨b,off+j.toNat*k,none⟩)) ?_ b1;simp only [execOp,ay,au,Nz];exact jo _ (afC r rfl d9 fc.1 fc.2)
def ag3(h:Hyp P K N M β g tmps w p tt){t:TypeId}{x i:Operand}(ay:o.op = .index t x i)(hs:step1 ck tt ops g p o=some (.go f))(cx:∀q,q∈f.a8→q):Yields P K M β g f o tmps w:=by
 simp only [step1,ay]at hs;split at hs
 case h_2=>cases hs
 rename_i l kk j fA kM z _ hx hi ab;obtain⟨r⟩:=ev h.tt ab;cases hs;have hb:=V7 (cx (aI j l.length=true) (by simp))
 have ex:=m6 (ed (ds:=[]) h.bo h.dT hx);have Nz:=mx (ed (ds:=[]) h.bo h.dT hi);refine ff h.bo (v:=.int .u8 (l.getD j.toNat 0).toNat) ?_ (.v _ _ (.int _ _));simp only [execOp,ay,ex,Nz];exact jo _ (afD r rfl hb.1 hb.2)
def ag4{k n m:Nat}{get:Nat→V}{a:Nat}{b off cap:Nat}
 {val:Nat→Nat→Value} (hk:∀i,i<n→(get i).cells.length=k) (c7:∀i j,i<n→j<k→M b (off+i*k+j)=some (val i j)) (Z:∀i j,i<n→j<k→(val i j).oneCell'=true)
 (ai:∀(i j:Nat) c,i<n→(get i).cells[j]? = some c→dq M (val i j) c) (hm:a+m≤n) (hc:m≤cap):
 dq M (.slice (some ⟨b,off+a*k,none⟩) m cap) (.bJ k m λi=>get (a+i)):=by
 refine .bJ b (off+a*k) k m cap _ (λi j=>val (a+i) j) hc (λi hi=>hk _ (by omega)) (λi j hi hj=>?_) (λi j hi hj=>Z _ _ (by omega) hj) (λi j c hi l9=>ai _ _ _ (by omega) l9)
 have:=c7 (a+i) j (by omega) hj
 rw [Nat.add_mul]at this
 rwa [show off+a*k+i*k+j=off+(a*k+i*k)+j by omega]
def GK{t e:TypeId}{aE cm:eI}(r:Row P t aE)(hk:aE.k = .bJ e)(d9:Row P e cm){base:Option Addr}{n cap:Nat}{lo hi:Option Value}{a b:Nat}
 (kz:lo=none∧a=0∨∃k,lo=some (.int k a)) (jP:hi=none∧b=n∨∃k,hi=some (.int k b)) (m9:a≤b) (rf:b≤n) (m':n≤cap):
 (Instr.sliceAt t (.slice base n cap) lo hi none).run P w = .ok (.slice (if cap=a then base else base.map (·.add (a*cm.size))) (b-a) (cap-a)) w:=by
 have hu:=r.run_underlying w;rw [p8 r hk]at hu;have GL:b≤cap:=by omega
 rcases kz with⟨rfl,rfl⟩|⟨dc,rfl⟩<;>rcases jP with⟨rfl,rfl⟩|⟨aj,rfl⟩
 ·simp [Instr.sliceAt,hu,Instr.slice,Instr.sliceBounds,d9.run_sizeOf]
 ·simp [Instr.sliceAt,hu,Instr.slice,Instr.sliceBounds,Instr.sliceBound,asIntOf,d9.run_sizeOf,GL]
 ·simp [Instr.sliceAt,hu,Instr.slice,Instr.sliceBounds,Instr.sliceBound,asIntOf,d9.run_sizeOf,m9]
 ·simp [Instr.sliceAt,hu,Instr.slice,Instr.sliceBounds,Instr.sliceBound,asIntOf,d9.run_sizeOf,GL,m9]
end
section
variable {P:Program} {K:Ctx} {N:Nat} {M:Mem} {β:Nat→Option Nat} {st:aH} {g:dk} {tmps:Array Value} {w:World} {o:Oper} {f:lC} {p:Path} {tt:dH} {ck:gF} {ops:List Oper}
def sy{t:TypeId}{x:Operand}{lo hi kq:Option Operand}(ay:o.op = .slice t x lo hi kq){v u:Value}(hx:(⟨tmps,[]⟩:Act).eval x=v){a b:Option Value}(ha:lo.map (⟨tmps,[]⟩:Act).eval=a)(hb:hi.map (⟨tmps,[]⟩:Act).eval=b){c:Option Value}(hm:kq.map (⟨tmps,[]⟩:Act).eval=c)
 (h:(Instr.sliceAt t v a b c).run P w = .ok u w):(execOp (Act.eval ⟨tmps,[]⟩) o).run P w = .ok (.value u) w:=by
 simp only [execOp,ay,hx,ha,hb,hm];exact jo _ h
def GM{t:TypeId}{aE:eI}(r:Row P t aE)(hk:aE.k = .str){l:au'}{lo hi:Option Value}{a b:Nat}
 (kz:lo=none∧a=0∨∃k,lo=some (.int k a)) (jP:hi=none∧b=l.length∨∃k,hi=some (.int k b)) (m9:a≤b) (rf:b≤l.length):
 (Instr.sliceAt t (.string ⟨⟨l⟩⟩) lo hi none).run P w = .ok (.string ⟨⟨(l.take b).drop a⟩⟩) w:=by
 have hu:=r.run_underlying w;rw [q1 r hk]at hu;have hs:(⟨⟨l⟩⟩:ByteArray).size=l.length:=rfl
 have hx:(⟨⟨l⟩⟩:ByteArray).extract a b=⟨⟨(l.take b).drop a⟩⟩:=by
  have:=ByteArray.extract_mk l a b
  rw [List.drop_take];exact this
 rcases kz with⟨rfl,rfl⟩|⟨dc,rfl⟩<;>rcases jP with⟨rfl,rfl⟩|⟨aj,rfl⟩
 ·simp [Instr.sliceAt,hu,Instr.slice,Instr.sliceBounds]
 ·simp [Instr.sliceAt,hu,Instr.slice,Instr.sliceBounds,Instr.sliceBound,asIntOf,rf,hs,hx]
 ·simp [Instr.sliceAt,hu,Instr.slice,Instr.sliceBounds,Instr.sliceBound,asIntOf,m9,hs,hx]
 ·simp [Instr.sliceAt,hu,Instr.slice,Instr.sliceBounds,Instr.sliceBound,asIntOf,rf,m9,hs,hx]
def Ca{v:Value}{k n:Nat}{get:Nat→V}(au:cv M β v (.v (.bJ k n get))){a b:Nat}(m9:a≤b)(rf:b≤n){base:Option Addr}{cap:Nat}(wc:v = .slice base n cap)(m':n≤cap):
 dq M (.slice (if cap=a then base else base.map (·.add (a*k))) (b-a) (cap-a)) (.bJ k (b-a) λi=>get (a+i)):=by
 rcases tX au with⟨Z|⟨a0,Z⟩,aa⟩|⟨pr,off,VT,val,Z,hc,hk,c7,nv,ai⟩
 ·rw [wc]at Z;cases Z;have:b=0:=by omega
  subst this;have:a=0:=by omega
  subst this;exact .mu _ _
 ·rw [wc]at Z;cases Z;have:b=0:=by omega
  subst this;have:a=0:=by omega
  subst this;exact .pZ _ _ _
 ·rw [wc]at Z;cases Z;by_cases Wl:cap=a
  ·rw [if_pos Wl];have:b-a=0:=by omega
   rw [this];exact .bJ pr off k 0 _ _ (λ_ _=>undef) (Nat.zero_le _) (by simp) (by simp) (by simp) (by simp)
  ·rw [if_neg Wl];simp only [Option.map_some,addr_add];exact ag4 hk c7 nv ai (by omega) (by omega)
def ag5(h:Hyp P K N M β g tmps w p tt){t:TypeId}{x:Operand}{lo hi kq:Option Operand}(ay:o.op = .slice t x lo hi kq)(hs:step1 ck tt ops g p o=some (.go f))(cx:∀q,q∈f.a8→q):Yields P K M β g f o tmps w:=by
 have fQ:∀{y:Option Operand} {kk:IntKind} {n:Int},y.map (λy=>rd g.env g.b6 p tt o.type y)=some (some (.v (.int kk n)))→y.map (⟨tmps,[]⟩:Act).eval=some (.int kk n):=by
  intro y kk n b1;cases y with
  |none=>simp at b1
  |some y=>
   simp at b1
   simp [mx (ed (ds:=[]) h.bo h.dT b1)]
 have ug:∀{y:Option Operand},y.map (λy=>rd g.env g.b6 p tt o.type y)=none→y.map (⟨tmps,[]⟩:Act).eval=none:=by
  intro y b1;simp at b1;simp [b1]
 simp only [step1,ay]at hs;split at hs
 ·rename_i fA kM z _ ab;obtain⟨r⟩:=ev h.tt ab;split at hs
  ·rename_i l hx kz jP;cases hs;have ex:=m6 (ed (ds:=[]) h.bo h.dT hx);have:=GM (w:=w) r rfl (l:=l) (lo:=none) (hi:=none) (a:=0) (b:=l.length) (.inl ⟨rfl,rfl⟩) (.inl ⟨rfl,rfl⟩) (by omega) (by omega)
   simp at this
   exact ff h.bo (sy ay ex (ug kz) (ug jP) rfl this) (.v _ _ (.str _))
  ·rename_i l dc a hx kz jP;cases hs;have ex:=m6 (ed (ds:=[]) h.bo h.dT hx);have hb:=ub (cx (gT a l.length=true) (by simp))
   obtain⟨dv,rfl⟩:=Int.eq_ofNat_of_zero_le hb.1;have:=GM (w:=w) r rfl (l:=l) (lo:=some (.int dc dv)) (hi:=none) (a:=dv) (b:=l.length) (.inr ⟨_,rfl⟩) (.inl ⟨rfl,rfl⟩) (by omega) (by omega)
   simp at this
   exact ff h.bo (sy ay ex (fQ kz) (ug jP) rfl this) (.v _ _ (.str _))
  ·rename_i l aj b hx kz jP;cases hs;have ex:=m6 (ed (ds:=[]) h.bo h.dT hx);have hb:=ub (cx (gT b l.length=true) (by simp))
   obtain⟨bE,rfl⟩:=Int.eq_ofNat_of_zero_le hb.1;have:=GM (w:=w) r rfl (l:=l) (lo:=none) (hi:=some (.int aj bE)) (a:=0) (b:=bE) (.inl ⟨rfl,rfl⟩) (.inr ⟨_,rfl⟩) (by omega) (by omega)
   simp at this
   exact ff h.bo (sy ay ex (ug kz) (fQ jP) rfl this) (.v _ _ (.str _))
  ·rename_i l dc a aj b hx kz jP;cases hs;have ex:=m6 (ed (ds:=[]) h.bo h.dT hx);have hb:=V8 (cx (l4 a b l.length=true) (by simp))
   obtain⟨dv,rfl⟩:=Int.eq_ofNat_of_zero_le hb.1;obtain⟨bE,rfl⟩:=Int.eq_ofNat_of_zero_le (a:=b) (by omega)
   have:=GM (w:=w) r rfl (l:=l) (lo:=some (.int dc dv)) (hi:=some (.int aj bE)) (a:=dv) (b:=bE) (.inr ⟨_,rfl⟩) (.inr ⟨_,rfl⟩) (by omega) (by omega)
   exact ff h.bo (sy ay ex (fQ kz) (fQ jP) rfl this) (.v _ _ (.str _))
  ·cases hs
 ·rename_i e fA kM z _ ab;obtain⟨r⟩:=ev h.tt ab;split at hs
  ·rename_i dc size Cb ll k n get aj a eD hx kz jP;obtain⟨d9⟩:=ev h.tt eD;rw [Bool.cond_eq_ite]at hs;split at hs
   case isFalse=>cases hs
   rename_i ij;simp only [Nat.beq_eq]at ij;subst ij
   have lk:∃(y:V) (rs:List fu) (a8:List Prop),f={e:=some {d:=.v y},rs,a8}∧hv (.bJ k (n-a.toNat) λi=>get (a.toNat+i)) y∧gT a n=true:=by
    split at hs
    ·rename_i y rs eK;cases hs;exact⟨_,_,_,rfl,cx _ (by simp),cx (gT a n=true) (by simp)⟩
    ·cases hs;exact⟨_,_,_,rfl,λ_ _ h=>h,cx (gT a n=true) (by simp)⟩
    ·cases hs
   obtain⟨y,rs,a8,rfl,au,hb⟩:=lk;have hb:=ub hb;obtain⟨dv,rfl⟩:=Int.eq_ofNat_of_zero_le hb.1;have lI:=ed (ds:=[]) h.bo h.dT hx;obtain⟨base,cap,ex,m'⟩:=vN lI;have:=GK (w:=w) r rfl d9 (base:=base) (n:=n) (cap:=cap) (lo:=some (.int aj dv)) (hi:=none) (a:=dv) (b:=n) (.inr ⟨_,rfl⟩) (.inl ⟨rfl,rfl⟩) (by omega) (by omega) m'
   refine ff h.bo (sy ay ex (fQ kz) (ug jP) rfl this) (.v _ _ (au _ _ ?_));have:=Ca lI (a:=dv) (b:=n) (by omega) (by omega) ex m'
   simpa using this
  ·rename_i dc size Cb ll k n get aj b eD hx kz jP;obtain⟨d9⟩:=ev h.tt eD;rw [Bool.cond_eq_ite]at hs;split at hs
   case isFalse=>cases hs
   rename_i ij;simp only [Nat.beq_eq]at ij;subst ij
   have lk:∃(y:V) (rs:List fu) (a8:List Prop),f={e:=some {d:=.v y},rs,a8}∧hv (.bJ k b.toNat get) y∧gT b n=true:=by
    split at hs
    ·rename_i y rs eK;cases hs;exact⟨_,_,_,rfl,cx _ (by simp),cx (gT b n=true) (by simp)⟩
    ·cases hs;exact⟨_,_,_,rfl,λ_ _ h=>h,cx (gT b n=true) (by simp)⟩
    ·cases hs
   obtain⟨y,rs,a8,rfl,au,hb⟩:=lk;have hb:=ub hb;obtain⟨bE,rfl⟩:=Int.eq_ofNat_of_zero_le hb.1;have lI:=ed (ds:=[]) h.bo h.dT hx;obtain⟨base,cap,ex,m'⟩:=vN lI;have:=GK (w:=w) r rfl d9 (base:=base) (n:=n) (cap:=cap) (lo:=none) (hi:=some (.int aj bE)) (a:=0) (b:=bE) (.inl ⟨rfl,rfl⟩) (.inr ⟨_,rfl⟩) (by omega) (by omega) m'
   refine ff h.bo (sy ay ex (ug kz) (fQ jP) rfl this) (.v _ _ (au _ _ ?_));have:=Ca lI (a:=0) (b:=bE) (by omega) (by omega) ex m'
   simpa using this
  ·rename_i dc size Cb ll k n get aj a fp b eD hx kz jP;obtain⟨d9⟩:=ev h.tt eD;rw [Bool.cond_eq_ite]at hs;split at hs
   case isFalse=>cases hs
   rename_i ij;simp only [Nat.beq_eq]at ij;subst ij
   have lk:∃(y:V) (rs:List fu) (a8:List Prop),f={e:=some {d:=.v y},rs,a8}∧hv (.bJ k (b.toNat-a.toNat) λi=>get (a.toNat+i)) y∧l4 a b n=true:=by
    split at hs
    ·rename_i y rs eK;cases hs;exact⟨_,_,_,rfl,cx _ (by simp),cx (l4 a b n=true) (by simp)⟩
    ·cases hs;exact⟨_,_,_,rfl,λ_ _ h=>h,cx (l4 a b n=true) (by simp)⟩
    ·cases hs
   obtain⟨y,rs,a8,rfl,au,hb⟩:=lk;have hb:=V8 hb;obtain⟨dv,rfl⟩:=Int.eq_ofNat_of_zero_le hb.1;obtain⟨bE,rfl⟩:=Int.eq_ofNat_of_zero_le (a:=b) (by omega)
   have lI:=ed (ds:=[]) h.bo h.dT hx;obtain⟨base,cap,ex,m'⟩:=vN lI;have:=GK (w:=w) r rfl d9 (base:=base) (n:=n) (cap:=cap) (lo:=some (.int aj dv)) (hi:=some (.int fp bE)) (a:=dv) (b:=bE) (.inr ⟨_,rfl⟩) (.inr ⟨_,rfl⟩) (by omega) (by omega) m'
   refine ff h.bo (sy ay ex (fQ kz) (fQ jP) rfl this) (.v _ _ (au _ _ ?_));have:=Ca lI (a:=dv) (b:=bE) (by omega) (by omega) ex m'
   simpa using this
  ·rename_i dc size Cb ll k n get eD hx kz jP;obtain⟨d9⟩:=ev h.tt eD;rw [Bool.cond_eq_ite]at hs;split at hs
   case isFalse=>cases hs
   rename_i ij;simp only [Nat.beq_eq]at ij;subst ij;cases hs;have lI:=ed (ds:=[]) h.bo h.dT hx;obtain⟨base,cap,ex,m'⟩:=vN lI;have:=GK (w:=w) r rfl d9 (base:=base) (n:=n) (cap:=cap) (lo:=none) (hi:=none) (a:=0) (b:=n) (.inl ⟨rfl,rfl⟩) (.inl ⟨rfl,rfl⟩) (by omega) (by omega) m'
   refine ff h.bo (sy ay ex (ug kz) (ug jP) rfl this) (.v _ _ ?_);have:=Ca lI (a:=0) (b:=n) (by omega) (by omega) ex m'
   simpa using this
  ·cases hs
 ·rename_i m e fA kM z _ ab;obtain⟨r⟩:=ev h.tt ab;split at hs
  case h_2=>cases hs
  rename_i size Cb ll k n get aj b fp c eD hx jP hm;obtain⟨d9⟩:=ev h.tt eD;rw [Bool.cond_eq_ite]at hs;split at hs
  case isFalse=>cases hs
  rename_i ij;simp only [Nat.beq_eq]at ij;subst ij;cases hs;have GL:=cx (b=c) (by simp)
  subst GL;have hb:=ub (cx (gT b n=true) (by simp))
  obtain⟨bE,rfl⟩:=Int.eq_ofNat_of_zero_le hb.1;have lI:=ed (ds:=[]) h.bo h.dT hx;obtain⟨base,cap,ex,m'⟩:=vN lI;have rf:bE≤n:=by omega
  have hu:=r.run_underlying w;rw [p8 r rfl]at hu
  have eO:(Instr.sliceAt t (.slice base n cap) none (some (.int aj bE)) (some (.int fp bE))).run P w = .ok (.slice (if bE=0 then base else base.map (·.add (0*k))) bE bE) w:=by
   have Z:bE≤cap:=by omega
   simp [Instr.sliceAt,hu,Instr.slice,Instr.sliceBounds,Instr.sliceBound,asIntOf,d9.run_sizeOf,Z]
  have ag6:(if bE=0 then base else base.map (·.add (0*k)))=base:=by
   split
   ·rfl
   ·cases base with
    |none=>rfl
    |some a=>simp [Addr.add]
  rw [ag6]at eO;have em:(some m).map (⟨tmps,[]⟩:Act).eval=some (.int fp bE):=fQ (y:=some m) hm;refine ff h.bo (sy ay ex rfl (fQ jP) em eO) (.full base k _ get ?_);have Wm:=Ca lI (a:=0) (b:=bE) (by omega) rf ex m'
  simp only [Nat.sub_zero]at Wm ⊢;have Wn:dq M (.slice (if cap=0 then base else base.map (·.add (0*k))) bE cap) (.bJ k bE get):=by simpa using Wm
  have fc:(if cap=0 then base else base.map (·.add (0*k)))=base:=by
   split
   ·rfl
   ·cases base with
    |none=>rfl
    |some a=>simp [Addr.add]
  rw [fc]at Wn;cases Wn with
  |mu=>exact .mu _ _
  |pZ a=>exact .pZ _ _ _
  |bJ qX off k n cap get val hc hk c7 Z h=>exact .bJ qX off k _ _ get val (Nat.le_refl _) hk c7 Z h
 ·cases hs
def Wo{c:Call}(ay:o.op = .call c)(hc:c.callee = .builtin .len){a:Operand}(e5:c.args.toList=[a]){t:TypeId}(hl:c.argTypes.toList[0]? = some t){h6 v:Value}(ha:(⟨tmps,[]⟩:Act).eval a=h6)
 (h:∀ty,(Builtin.len_ #[t] ty #[h6]).run P w = .ok v w):(execOp (Act.eval ⟨tmps,[]⟩) o).run P w = .ok (.value v) w:=by
 have vT:c.args = #[a]:=by apply Array.ext';simpa using e5
 have M5:∀ty,(Builtin.len_ c.argTypes ty #[h6]).run P w = .ok v w:=by
  intro ty;have h0:c.argTypes[0]? = some t:=by simpa using hl
  have:=h ty
  simp only [Builtin.len_,h0]at this ⊢;exact this
 simp only [execOp,ay,resolve,hc,vT,Sem.run_bind,Sem.run_pure,Result.andThen_ok,invoke,builtin,List.map_toArray,List.map_cons,List.map_nil,ha];simp [M5]
def Wp{F:Nat→Option Nat}{l cH:List D}(h:lD F l=some cH):cH.length=l.length:=(yo h).1.symm
def ag7 {c : Call} (ay : o.op = .call c) {x : Operand} (hc : c.callee = .value x) {fn : FuncId} {vs : List Value} (hx : (⟨tmps, []⟩ : Act).eval x = .func (.func fn) #[] ⟨vs⟩) {fd : Func} (bP : P.funcs[fn]? = some fd) (hb : fd.body.isSome = true) (hn : fd.name ≠ "runtime.NumGoroutine") :
 (execOp (Act.eval ⟨tmps,[]⟩) o).run P w = .ok (.enter fn ⟨c.args.toList.map (⟨tmps,[]⟩:Act).eval++vs⟩) w:=by
 have rf:fd.body≠none:=by intro bn;rw [bn]at hb;cases hb
 simp [execOp,ay,resolve,hc,hx,Deferred.ofValue,invoke,callFunc,bP,rf,hn]
def Wq{F:TypeId→Operand→Option D}:∀{xs:List Operand} {ts:List TypeId} {ds:List D},l5 F xs ts=some ds→ds.length=xs.length∧∀(i:Nat) x d,xs[i]? = some x→ds[i]? = some d→∃t,F t x=some d
 |[],ts,ds,h=>by simp [l5]at h;subst h;simp
 |x::xs,[],ds,h=>by simp [l5]at h
 |x::xs,t::ts,ds,h=>by
  simp only [l5]at h;split at h
  case h_2=>cases h
  rename_i d ag8 hd ii;cases h;obtain⟨Z,aa⟩:=Wq ii;refine⟨by simp [Z],λi y e b1 he=>?_⟩
  cases i with
  |zero=>simp at b1 he;subst b1;subst he;exact⟨t,hd⟩
  |succ i=>simp at b1 he;exact aa i y e b1 he
mutual
def Wr{ρ:List Nat}:∀(d:D) {dV:D},eC (idx ρ) d=some dV→eC (λj=>ρ[j]?) dV=some d
 |.v x,dV,h=>by simp [eC]at h;subst h;simp [eC]
 |.ptr r off,dV,h=>by
  simp only [eC,Option.map_eq_some_iff]at h;obtain⟨j,hj,rfl⟩:=h;simp [eC,Gy hj]
 |.cu r off u,dV,h=>by
  simp only [eC,Option.map_eq_some_iff]at h;obtain⟨j,hj,rfl⟩:=h;simp [eC,Gy hj]
 |.e' x,dV,h=>by simp [eC]at h;subst h;simp [eC]
 |.full k n get,dV,h=>by simp [eC]at h;subst h;simp [eC]
 |.fn g fm,dV,h=>by
  simp only [eC,Option.map_eq_some_iff]at h;obtain⟨l,ab,rfl⟩:=h;simp [eC,GN fm ab]
 |.agg cs,dV,h=>by
  simp only [eC,Option.map_eq_some_iff]at h;obtain⟨l,ab,rfl⟩:=h;simp [eC,GN cs ab]
 |.cn cs,dV,h=>by
  simp only [eC,Option.map_eq_some_iff]at h;obtain⟨l,ab,rfl⟩:=h;simp [eC,GN cs ab]
def GN{ρ:List Nat}:∀(l:List D) {cH:List D},lD (idx ρ) l=some cH→lD (λj=>ρ[j]?) cH=some l
 |[],cH,h=>by simp [lD]at h;subst h;simp [lD]
 |d::l,cH,h=>by
  simp only [lD]at h;split at h
  case h_2=>cases h
  rename_i d1 hf hd ab;cases h;simp [lD,Wr d hd,GN l ab]
end
def Ws{ρ:List Nat}:∀{b bE:List aW},nt (idx ρ) b=some bE→nt (λj=>ρ[j]?) bE=some b
 |[],bE,h=>by simp [nt]at h;subst h;simp [nt]
 |e::l,bE,h=>by
  simp only [nt]at h;split at h
  case h_2=>cases h
  rename_i e1 hf he ab;cases h;simp only [F',Option.map_eq_some_iff]at he;obtain⟨d,hd,rfl⟩:=he;simp [nt,F',Wr _ hd,Ws ab]
def Wt{ρ:List Nat}:∀{bs qa:List (List aW)},kp (idx ρ) bs=some qa→kp (λj=>ρ[j]?) qa=some bs
 |[],qa,h=>by simp [kp]at h;subst h;simp [kp]
 |b::l,qa,h=>by
  simp only [kp]at h;split at h
  case h_2=>cases h
  rename_i b9 hf hb ab;cases h;simp [kp,Ws hb,Wt ab]
def ag9{st:aH}(h:bI P K M β st tmps w){ρ:List Nat}{bs H1:List (List aW)}(hn:nu ρ=true)(lj:boxes st.H ρ=some bs)(my:kp (idx ρ) bs=some H1)
 {os:List Nat} {out:Out} {v:Value} {w':World} {M':Mem} {β':Nat→Option Nat} (js:bI P (kP M β st tmps w ρ os) M' β' {env:=ih out,H:=cX 0 H1,aX:=ρ.length} #[v] w'):
 M.le M'∧bI P K M' β {st with env:=gU os st.env} tmps w'∧
 (∀d own,out = .ret d own→∀dV,eC (λj=>ρ[j]?) d=some dV→cv M' β v dV∧∀T l0,own=some T→m3 P K M' β {st with env:=gU os st.env} tmps w' l0 v T)∧
 (∀x,out = .aJ x→dq M' v x):=by
 obtain⟨cF,fc⟩:=vX lj;have eV:H1.length=ρ.length:=by rw [(yG my).1,cF]
 obtain⟨Z,aa,am,aK⟩:=Ni h hn lj (Wt my) eV js
 have kQ:∀r,look (lE ρ bs++st.H) r=look st.H r:=by
  intro r;obtain⟨bd,b'⟩:=Na (H:=st.H) (ρ:=ρ) (bs:=bs) cF hn r;by_cases hj:∃(j:Nat),ρ[j]? = some r
  ·obtain⟨j,hj⟩:=hj;rw [bd j hj,(fc j r hj).1]
  ·exact b' λj bn=>hj ⟨j,bn⟩
 have fo:∀l,({env:=gU os st.env,H:=lE ρ bs++st.H,aX:=st.aX}:aH).at l=({st with env:=gU os st.env}:aH).at l:=by
  intro l;cases l with
  |slot s=>rfl
  |cell r i=>simp only [aH.at,kQ]
 refine⟨Z,aa.sub rfl (λl e ab=>⟨e,by rw [fo];exact ab,rfl,λ_ h=>h⟩) (λr cs ai=>⟨cs,by rw [←ai];exact kQ r,rfl⟩),λd own hd dV jM=>?_,aK⟩
 obtain⟨bd,b'⟩:=am d own hd dV jM;refine⟨bd,λT l0 aD=>?_⟩
 obtain⟨eb,d',iM⟩:=b' T l0 aD;exact⟨eb,λl e T' b ab=>d' l e T' b (by rw [fo];exact ab),λb r cs hb ai=>iM b r cs hb (by rw [←ai];exact kQ r)⟩
def Wu(P:Program)(K:Ctx)(M:Mem)(β:Nat→Option Nat)(g:dk)(s:om)(o:Oper)(tmps:Array Value)(w:World):Prop:=
 match s with
 |.go f=>(∀q,q∈f.a8→q)→Yields P K M β g f o tmps w
 |.aJ x hs a8=>(∀q,q∈a8→q)→ags P K M β g x hs o tmps w
def Wv{os:List Nat}{env:List (Nat×aW)}{s:Nat}{e:aW}(h:look env s=some e):∃bK,look (gU os env) s=some bK∧bK.d=e.d:=by
 rw [nw,h];split
 ·exact⟨_,rfl,rfl⟩
 ·exact⟨_,rfl,rfl⟩
def NA{g:dk}(h:fJ P K N M β g tmps w){xs:List Operand}{ts:List TypeId}:∀{os:List Nat} {hd:List (Nat×Option Nat×TypeId)},handed tt g xs ts os=some hd→∀{vs:List Value},
 (∀(i:Nat) t,xs[i]? = some (.tmp t)→vs[i]? = some (tmps.getD t undef))→(∀(i:Nat),xs[i]? = some (.const (.slice none 0 0))→vs[i]? = some (.slice none 0 0))→
 Handed {env:=g.env,H:=g.H,aX:=g.aX} tmps vs hd
 |[],hd,bn,vs,_,_=>by
  simp [handed]at bn;subst bn;exact⟨by simp,by simp,by simp⟩
 |i::os,hd,bn,vs,Z,aa=>by
  simp only [handed]at bn;split at bn
  ·rename_i t l hx ab;have aM:=NA h ab Z aa;split at bn
   case h_2=>cases bn
   rename_i d e he;rw [Bool.cond_eq_ite]at bn;split at bn
   case isFalse=>cases bn
   rename_i hc;simp only [Bool.and_eq_true,List.all_eq_true,Bool.not_eq_true']at hc;cases bn;refine⟨λm4 bX T hm=>?_,λm4 T hm=>?_,λm4 v7 bX T T' hm kA=>?_⟩
   ·rcases List.mem_cons.1 hm with hm|hm
    ·cases hm;exact⟨_,he,rfl,Z i t hx⟩
    ·exact aM.some m4 bX T hm
   ·rcases List.mem_cons.1 hm with hm|hm
    ·cases hm
    ·exact aM.none m4 T hm
   ·rcases List.mem_cons.1 hm with hm|hm<;>rcases List.mem_cons.1 kA with kA|kA
    ·cases hm;cases kA;rfl
    ·cases hm;have:=(hc.2 _ kA).1
     simp at this
    ·cases kA;have:=(hc.2 _ hm).1
     simp at this
    ·exact aM.inj m4 v7 bX T T' hm kA
  ·rename_i l hx ab;have aM:=NA h ab Z aa;split at bn
   case h_2=>cases bn
   rename_i e fA kM z _ he;rw [Bool.cond_eq_ite]at bn;split at bn
   case isFalse=>cases bn
   cases bn;refine⟨λm4 bX T hm=>?_,λm4 T hm=>?_,λm4 v7 bX T T' hm kA=>?_⟩
   ·rcases List.mem_cons.1 hm with hm|hm
    ·cases hm
    ·exact aM.some m4 bX T hm
   ·rcases List.mem_cons.1 hm with hm|hm
    ·cases hm;exact aa i hx
    ·exact aM.none m4 T hm
   ·rcases List.mem_cons.1 hm with hm|hm<;>rcases List.mem_cons.1 kA with kA|kA
    ·cases hm
    ·cases hm
    ·cases kA
    ·exact aM.inj m4 v7 bX T T' hm kA
  ·cases bn
def ag'(h:Hyp P K N M β g tmps w p tt){c:Call}(ay:o.op = .call c){x:Operand}(hc:c.callee = .value x){fn:FuncId}{fm ds:List D}(hx:rd g.env g.b6 p tt o.type x=some (.fn fn fm))
 (ii:l5 (rd g.env g.b6 p tt) c.args.toList c.argTypes.toList=some ds) {s:om} (hs:yk (hR P) tt g p c.args.toList c.argTypes.toList fn (ds++fm)=some s):
 Wu P K M β g s o tmps w:=by
 obtain⟨vs,au,hlen,ai⟩:=Vn (ed (ds:=[]) h.bo h.dT hx);obtain⟨gG,kN⟩:=Wq ii
 have e5:∀(i:Nat) v d,(c.args.toList.map (⟨tmps,[]⟩:Act).eval++vs)[i]? = some v→(ds++fm)[i]? = some d→cv M β v d:=by
  intro i v d eJ uc;by_cases hi:i<c.args.toList.length
  ·rw [List.getElem?_append_left (by simpa using hi),List.getElem?_map,Option.map_eq_some_iff]at eJ
   obtain⟨y,b1,rfl⟩:=eJ;rw [List.getElem?_append_left (by omega)]at uc
   obtain⟨ty,hl⟩:=kN i y d b1 uc;exact ed h.bo h.dT hl
  ·rw [List.getElem?_append_right (by simp;simp at hi;omega)]at eJ
   rw [List.getElem?_append_right (by omega)]at uc
   refine ai _ v d eJ ?_;rw [gG]at uc;simpa using uc
 have Ww:(c.args.toList.map (⟨tmps,[]⟩:Act).eval++vs).length=(ds++fm).length:=by simp at gG ⊢;omega
 unfold yk at hs
 dsimp only at hs
 generalize ma:ph g.H 2 (dedup ((ds++fm).flatMap refs))=ρ at hs
 split at hs
 case h_2=>cases hs
 rename_i out cE os rs eK;split at hs
 case h_2=>cases hs
 rename_i jZ H1 hd uh my vY;rw [Option.bind_eq_some_iff]at my;obtain⟨bs,lj,my⟩:=my;rw [Bool.cond_eq_ite]at hs;split at hs
 ·cases hs
 rename_i Wx
 have hn:nu ρ=true:=by
  have:(!nu ρ || !(List.isEmpty p||List.isEmpty os))=false:=by simpa using Wx
  simp only [Bool.or_eq_false_iff,Bool.not_eq_false']at this;exact this.1
 have eN:=NA h.bo vY (vs:=c.args.toList.map (⟨tmps,[]⟩:Act).eval++vs) (λi t aF=>by
  rw [List.getElem?_append_left (by simpa using(List.getElem?_eq_some_iff.1 aF).1),List.getElem?_map,aF];rfl) (λi aF=>by
  rw [List.getElem?_append_left (by simpa using(List.getElem?_eq_some_iff.1 aF).1),List.getElem?_map,aF];rfl)
 have ej:=VZ (st:={env:=g.env,H:=g.H,aX:=g.aX}) h.bo.bo hn lj my Ww e5 uh eN;have eV:H1.length=ρ.length:=by rw [(yG my).1,(vX lj).1]
 -- Gs lJ contract ag_, atp lJ boxes behind it
 have key:∀{wd:List (List aW)},gL P fn jZ (t_ hd) H1 out wd→(execOp (Act.eval ⟨tmps,[]⟩) o).run P w = .ok (.enter fn ⟨c.args.toList.map (⟨tmps,[]⟩:Act).eval++vs⟩) w∧
  Calls P fn ⟨c.args.toList.map (⟨tmps,[]⟩:Act).eval++vs⟩ w λe w'=>∃v M' β',e=q9 out v∧
   bI P (kP M β {env:=g.env,H:=g.H,aX:=g.aX} tmps w ρ (rb hd)) M' β' {env:=ih out,H:=cX 0 wd,aX:=ρ.length} #[v] w':=by
  intro wd aha;obtain⟨⟨fd,kw,NB,kb⟩,ahb⟩:=aha;refine⟨ag7 ay hc au kw NB kb,(ahb _ w _ M _ (by rw [Ww,Wp uh]) ej (λr b hb=>hb)).mono ?_⟩
  rintro e w' ⟨o',H',v,M',β',⟨rfl,rfl⟩,he,cT⟩
  rw [eV]at cT;exact⟨v,M',β',he,cT⟩
 -- lJ boxes as atq atr, named ats and back
 have back:∀{wd ahc:List (List aW)},kp (λj=>ρ[j]?) wd=some ahc→wd.length=ρ.length→∀{v:Value} {w':World} {M':Mem} {β':Nat→Option Nat},
  bI P (kP M β {env:=g.env,H:=g.H,aX:=g.aX} tmps w ρ (rb hd)) M' β' {env:=ih out,H:=cX 0 wd,aX:=ρ.length} #[v] w'→_:=
  λhx ab _ _ _ _ hp=>Ni (st:={env:=g.env,H:=g.H,aX:=g.aX}) h.bo.bo hn lj hx ab hp
 have Wy:∀{v:Value} {w':World} {M':Mem} {β':Nat→Option Nat},
  bI P (kP M β {env:=g.env,H:=g.H,aX:=g.aX} tmps w ρ (rb hd)) M' β' {env:=ih out,H:=cX 0 H1,aX:=ρ.length} #[v] w'→
  M.le M'∧bI P K M' β {env:=gU (rb hd) g.env,H:=g.H,aX:=g.aX} tmps w'∧
  (∀d own,out = .ret d own→∀dV,eC (λj=>ρ[j]?) d=some dV→cv M' β v dV∧∀T l0,own=some T→m3 P K M' β {env:=gU (rb hd) g.env,H:=g.H,aX:=g.aX} tmps w' l0 v T)∧
  (∀x,out = .aJ x→dq M' v x):=by
  intro v w' M' β' hp;exact ag9 (st:={env:=g.env,H:=g.H,aX:=g.aX}) h.bo.bo hn lj my hp
 cases out with
 |ret d own=>
  cases cE with
  |none=>
   simp only [Option.map_eq_some_iff]at hs;obtain⟨dV,jM,rfl⟩:=hs;intro cx;obtain⟨Z,aa⟩:=key (cx _ (List.mem_singleton.2 rfl));refine .inr (.inr ⟨fn,_,Z,aa.mono ?_⟩)
   rintro e w' ⟨v,M',β',he,hp⟩
   obtain⟨c7,cT,NC,_⟩:=Wy hp;refine⟨v,he,M',β,c7,λ_ _ h=>h,λ_ _ h=>.inl h,cT,λe1 p9=>?_⟩
   cases p9;exact NC d own rfl dV jM
  |some cE=>
   dsimp only at hs
   split at hs
   case h_2=>cases hs
   rename_i dV i' jM v_;rw [Bool.cond_eq_ite]at hs;split at hs
   case isFalse=>cases hs
   rename_i ab;cases hs;intro cx;obtain⟨Z,aa⟩:=key (cx _ (List.mem_singleton.2 rfl));refine .inr (.inr ⟨fn,_,Z,aa.mono ?_⟩)
   rintro e w' ⟨v,M',β',he,hp⟩
   obtain⟨c7,cT,NC,_⟩:=back v_ (by simpa using ab) hp
   refine⟨v,he,M',β,c7,λ_ _ h=>h,λ_ _ h=>.inl h,cT,λe1 p9=>?_⟩
   cases p9;exact NC d own rfl dV jM
 |aJ x=>
  cases cE with
  |none=>
   cases hs;intro cx;obtain⟨Z,aa⟩:=key (cx _ (List.mem_singleton.2 rfl));refine .inr ⟨fn,_,Z,aa.mono ?_⟩
   rintro e w' ⟨v,M',β',he,hp⟩
   obtain⟨c7,cT,_,ND⟩:=Wy hp;exact⟨v,M',he,ND x rfl,cT.p3 λs e he=>Wv he⟩
  |some cE=>
   dsimp only at hs
   split at hs
   case h_2=>cases hs
   rename_i i' v_;rw [Bool.cond_eq_ite]at hs;split at hs
   case isFalse=>cases hs
   rename_i ab;cases hs;intro cx;obtain⟨Z,aa⟩:=key (cx _ (List.mem_singleton.2 rfl));refine .inr ⟨fn,_,Z,aa.mono ?_⟩
   rintro e w' ⟨v,M',β',he,hp⟩
   obtain⟨c7,cT,_,ND⟩:=back v_ (by simpa using ab) hp
   exact⟨v,M',he,ND x rfl,cT.p3 λs e he=>Wv he⟩
end
section
variable {P:Program} {K:Ctx} {N:Nat} {M:Mem} {β:Nat→Option Nat} {st:aH} {g:dk} {tmps:Array Value} {w:World} {o:Oper} {f:lC} {p:Path} {tt:dH} {ops:List Oper}
def Wz(h:Hyp P K N M β g tmps w p tt){c:Call}(ay:o.op = .call c)(hc:c.callee = .builtin .len){d:D}(hd:mapM' (λy=>rd g.env g.b6 p tt o.type y) c.args.toList=some [d]){aE:eI}
 (ab:(c.argTypes.toList[0]?).bind (look tt)=some aE) {n:Nat} (hk:(∃l,d = .v (.str l)∧aE.k = .str∧n=l.length)∨(∃k get e,d = .v (.bJ k n get)∧aE.k = .bJ e)):
 Yields P K M β g {e:=some {d:=.v (.int .i64 n)},rs:=g.rs} o tmps w:=by
 obtain⟨gG,kN⟩:=tZ hd;rw [Option.bind_eq_some_iff]at ab;obtain⟨t,aF,ab⟩:=ab;obtain⟨r⟩:=ev h.tt ab
 obtain⟨a,ha⟩:∃a,c.args.toList=[a]:=by
  cases gM:c.args.toList with
  |nil=>rw [gM]at gG;simp at gG
  |cons a l=>
   rw [gM]at gG;simp at gG
   exact⟨a,by rw [gG]⟩
 have qb:=ed (ds:=[]) h.bo h.dT (kN 0 a d (by rw [ha];rfl) rfl)
 rcases hk with⟨l,rfl,hk,rfl⟩|⟨k,get,e,rfl,hk⟩
 ·have rc:=m6 qb;refine ff h.bo (Wo ay hc ha aF rc (λty=>?_)) (.v _ _ (.int _ _))
  have hs:(⟨⟨l⟩⟩:ByteArray).size=l.length:=rfl;simp [Builtin.len_,r.run_underlying,q1 r hk,goInt,hs]
 ·obtain⟨base,cap,rc,_⟩:=vN qb;refine ff h.bo (Wo ay hc ha aF rc (λty=>?_)) (.v _ _ (.int _ _))
  simp [Builtin.len_,r.run_underlying,p8 r hk,goInt]
def ahd(h:Hyp P K N M β g tmps w p tt){c:Call}(ay:o.op = .call c)(hc:c.callee = .builtin .min){k:IntKind}{a b:Int}(hd:mapM' (λy=>rd g.env g.b6 p tt o.type y) c.args.toList=some [.v (.int k a),.v (.int k b)]):
 Yields P K M β g {e:=some {d:=.v (.int k (bif decide (b<a)then b else a))},rs:=g.rs} o tmps w:=by
 obtain⟨gG,kN⟩:=tZ hd
 obtain⟨x,y,m5⟩:∃x y,c.args.toList=[x,y]:=by
  cases gM:c.args.toList with
  |nil=>rw [gM]at gG;simp at gG
  |cons x l=>
   cases l with
   |nil=>rw [gM]at gG;simp at gG
   |cons y l=>
    rw [gM]at gG;simp at gG
    exact⟨x,y,by rw [gG]⟩
 have ex:=mx (ed (ds:=[]) h.bo h.dT (kN 0 x _ (by rw [m5];rfl) rfl))
 have NE:=mx (ed (ds:=[]) h.bo h.dT (kN 1 y _ (by rw [m5];rfl) rfl))
 have vT:c.args = #[x,y]:=by apply Array.ext';simpa using m5
 refine ff h.bo (v:=.int k (bif decide (b<a)then b else a)) ?_ (.v _ _ (.int _ _))
 simp only [execOp,ay,resolve,hc,vT,Sem.run_bind,Sem.run_pure,Result.andThen_ok,invoke,builtin,List.map_toArray,List.map_cons,List.map_nil,ex,NE];by_cases m9:b<a<;>simp [Builtin.min_,Builtin.min2,m9]
def ahe(h:Hyp P K N M β g tmps w p tt){c:Call}(ay:o.op = .call c)(hc:c.callee = .builtin .max){k:IntKind}{a b:Int}(hd:mapM' (λy=>rd g.env g.b6 p tt o.type y) c.args.toList=some [.v (.int k a),.v (.int k b)]):
 Yields P K M β g {e:=some {d:=.v (.int k (bif decide (a<b)then b else a))},rs:=g.rs} o tmps w:=by
 obtain⟨gG,kN⟩:=tZ hd
 obtain⟨x,y,m5⟩:∃x y,c.args.toList=[x,y]:=by
  cases gM:c.args.toList with
  |nil=>rw [gM]at gG;simp at gG
  |cons x l=>
   cases l with
   |nil=>rw [gM]at gG;simp at gG
   |cons y l=>
    rw [gM]at gG;simp at gG
    exact⟨x,y,by rw [gG]⟩
 have ex:=mx (ed (ds:=[]) h.bo h.dT (kN 0 x _ (by rw [m5];rfl) rfl))
 have NE:=mx (ed (ds:=[]) h.bo h.dT (kN 1 y _ (by rw [m5];rfl) rfl))
 have vT:c.args = #[x,y]:=by apply Array.ext';simpa using m5
 refine ff h.bo (v:=.int k (bif decide (a<b)then b else a)) ?_ (.v _ _ (.int _ _))
 simp only [execOp,ay,resolve,hc,vT,Sem.run_bind,Sem.run_pure,Result.andThen_ok,invoke,builtin,List.map_toArray,List.map_cons,List.map_nil,ex,NE];by_cases m9:a<b<;>simp [Builtin.max_,Builtin.max2,m9]
def ahf(h:Hyp P K N M β g tmps w p tt){ck:gF}{x:Operand}{s t:TypeId}{ok:Bool}(ay:o.op = .typeAssert x s t ok)(hs:step1 ck tt ops g p o=some (.go f)):Yields P K M β g f o tmps w:=by
 simp only [step1,ay]at hs;split at hs
 case h_2=>cases hs
 rename_i bX y k fA kM z _ hx ab;obtain⟨r⟩:=ev h.tt ab;have ai:=ed (ds:=[]) h.bo h.dT hx;obtain⟨u,au,hu⟩:=MD ai;have WA:k ≠ .pY:=by rintro rfl;simp at hs
 have Nv:∀i,r.desc ≠ .interface i:=by
  intro i hd;have:=r.hk
  rw [hd]at this;simp [lG]at this;exact WA this.symm
 have gg:(bif Nat.beq bX t then(some (om.go {e:=some {d:=(bif ok then .cn [.v y,.v (.bool true)]else .v y)},rs:=g.rs}))else none)=some (.go f):=by
  cases k<;>first|exact(WA rfl).elim|exact hs
 rw [Bool.cond_eq_ite]at gg;split at gg
 case isFalse=>cases gg
 rename_i hb;have bQ:bX=t:=by simpa using hb
 subst bQ;cases gg
 have eO:(Instr.typeAssert (.iface bX u) s bX ok).run P w = .ok (bif ok then .tuple #[u,.bool true]else u) w:=by
  unfold Instr.typeAssert;simp only [Sem.run_bind,r.run_underlying,Result.andThen_ok];cases hd:r.desc<;>first|exact(Nv _ hd).elim|(cases ok<;>simp)
 refine ff h.bo (v:=bif ok then .tuple #[u,.bool true]else u) ?_ ?_
 ·simp only [execOp,ay,au];exact jo _ eO
 ·cases ok
  ·exact .v _ _ hu
  ·refine .cn [u,.bool true] _ rfl λi v c au hc=>?_
   match i with
   | 0=>simp at au hc;subst au;subst hc;exact .v _ _ hu
   | 1=>simp at au hc;subst au;subst hc;exact .v _ _ (.bool _)
   |i+2=>simp at au
def WB(h:Hyp P K N M β g tmps w p tt){s:om}(hs:step1 (hR P) tt ops g p o=some s):Wu P K M β g s o tmps w:=by
 cases ay:o.op with
 |move x=>cases s with
  |go f=>exact λ_=>agz h ay hs
  |aJ x gg a8=>simp only [step1,ay]at hs;repeat' (first |(split at hs) |(rw [Bool.cond_eq_ite]at hs) |(cases hs;done))
 |assign x=>cases s with
  |go f=>exact λ_=>agA h ay hs
  |aJ x gg a8=>simp only [step1,ay]at hs;repeat' (first |(split at hs) |(rw [Bool.cond_eq_ite]at hs) |(cases hs;done))
 |pick c a b=>
  cases c with
  |tmp c=>cases s with
   |go f=>exact λ_=>agB h ay hs
   |aJ x gg a8=>simp only [step1,ay]at hs;repeat' (first |(split at hs) |(simp at hs;done))
  |_=>simp [step1,ay]at hs
 |alloc t=>cases s with
  |go f=>exact λ_=>agC h ay hs
  |aJ x gg a8=>simp only [step1,ay]at hs;repeat' (first |(split at hs) |(cases hs;done))
 |box t x=>cases s with
  |go f=>exact λ_=>agD h ay hs
  |aJ x gg a8=>simp only [step1,ay]at hs;repeat' (first |(split at hs) |(rw [Bool.cond_eq_ite]at hs) |(cases hs;done))
 |build t parts=>cases s with
  |go f=>exact λ_=>agE h ay hs
  |aJ x gg a8=>simp only [step1,ay]at hs;repeat' (first |(split at hs) |(rw [Bool.cond_eq_ite]at hs) |(simp at hs;done) |(cases hs;done))
 |buildSlice t len parts=>cases s with
  |go f=>exact λcx=>agG h ay hs cx
  |aJ x gg a8=>simp only [step1,ay]at hs;repeat' (first |(split at hs) |(rw [Bool.cond_eq_ite]at hs) |(cases hs;done))
 |load t a=>cases s with
  |go f=>exact λ_=>agH h ay hs
  |aJ x gg a8=>simp only [step1,ay]at hs;repeat' (first |(split at hs) |(rw [Bool.cond_eq_ite]at hs) |(simp at hs;done) |(cases hs;done))
 |store t a x=>cases s with
  |go f=>exact λ_=>agI h ay hs
  |aJ x gg a8=>simp only [step1,ay]at hs;repeat' (first |(split at hs) |(rw [Bool.cond_eq_ite]at hs) |(cases hs;done))
 |nilCheck x=>cases s with
  |go f=>exact λ_=>agJ h ay hs
  |aJ x gg a8=>simp only [step1,ay]at hs;repeat' (first |(split at hs) |(simp at hs;done))
 |binOp op t x y t2=>cases s with
  |go f=>exact λcx=>agV h ay hs cx
  |aJ x gg a8=>simp only [step1,ay]at hs;repeat' (first |(split at hs) |(rw [Bool.cond_eq_ite]at hs) |(simp at hs;done))
 |unOp op t x=>cases s with
  |go f=>exact λ_=>agK h ay hs
  |aJ x gg a8=>simp only [step1,ay]at hs;repeat' (first |(split at hs) |(simp at hs;done))
 |convert a b x=>cases s with
  |go f=>exact λcx=>agL h ay hs cx
  |aJ x gg a8=>simp only [step1,ay]at hs;repeat' (first |(split at hs) |(simp at hs;done))
 |makeInterface t x=>cases s with
  |go f=>exact λ_=>agM h ay hs
  |aJ x gg a8=>simp only [step1,ay]at hs;repeat' (first |(split at hs) |(simp at hs;done))
 |makeFunc fn first fm=>
  cases fn with
  |func fn=>cases s with
   |go f=>exact λ_=>agN h ay hs
   |aJ x gg a8=>simp only [step1,ay]at hs;rw [Bool.cond_eq_ite]at hs;split at hs<;>simp at hs
  |_=>simp [step1,ay]at hs
 |slice t x lo hi kq=>cases s with
  |go f=>exact λcx=>ag5 h ay hs cx
  |aJ x gg a8=>simp only [step1,ay]at hs;repeat' (first |(split at hs) |(rw [Bool.cond_eq_ite]at hs) |(simp at hs;done))
 |fieldAddr a x i=>cases s with
  |go f=>exact λ_=>agW h ay hs
  |aJ x gg a8=>simp only [step1,ay]at hs;repeat' (first |(split at hs) |(rw [Bool.cond_eq_ite]at hs) |(simp at hs;done))
 |field a x i=>cases s with
  |go f=>exact λ_=>agY h ay hs
  |aJ x gg a8=>simp only [step1,ay]at hs;repeat' (first |(split at hs) |(rw [Bool.cond_eq_ite]at hs) |(simp at hs;done))
 |indexAddr t x i=>cases s with
  |go f=>exact λcx=>ag1 h ay hs cx
  |aJ x gg a8=>simp only [step1,ay]at hs;repeat' (first |(split at hs) |(rw [Bool.cond_eq_ite]at hs) |(simp at hs;done))
 |index t x i=>cases s with
  |go f=>exact λcx=>ag3 h ay hs cx
  |aJ x gg a8=>simp only [step1,ay]at hs;repeat' (first |(split at hs) |(simp at hs;done))
 |typeAssert x a t ok=>cases s with
  |go f=>exact λ_=>ahf h ay hs
  |aJ x gg a8=>simp only [step1,ay]at hs;repeat' (first |(split at hs) |(rw [Bool.cond_eq_ite]at hs) |(simp at hs;done) |(cases hs;done))
 |extract x i=>cases s with
  |go f=>exact λ_=>agO h ay hs
  |aJ x gg a8=>simp only [step1,ay]at hs;repeat' (first |(split at hs) |(simp at hs;done))
 |call c=>
  simp only [step1,ay]at hs;split at hs
  ·rename_i x pw;split at hs
   case h_2=>cases hs
   rename_i fn fm ds hx ii;exact ag' h ay pw hx ii hs
  ·rename_i pw;split at hs
   ·rename_i l _ _ _ _ hd ab;cases hs;exact λ_=>Wz h ay pw hd ab (.inl ⟨l,rfl,rfl,rfl⟩)
   ·rename_i k n get _ _ _ _ _ hd ab;cases hs;exact λ_=>Wz h ay pw hd ab (.inr ⟨k,get,_,rfl,rfl⟩)
   ·cases hs
  ·rename_i pw;split at hs
   case h_2=>cases hs
   rename_i t x e att Cb ll _ t2 e5 eV eD;split at hs
   case h_3=>cases hs
   case h_2=>
    rename_i cm k n get d2 y rs hle qc kN eK;rw [Bool.cond_eq_ite]at hs;split at hs
    case isFalse=>cases hs
    rename_i hc;simp only [Bool.and_eq_true,Nat.beq_eq,Nat.ble_eq]at hc;obtain⟨⟨⟨rfl,GO⟩,GP⟩,we⟩:=hc;rw [Option.bind_eq_some_iff]at eV eD;obtain⟨ahg,GQ,eV⟩:=eV;obtain⟨NF,pp,eD⟩:=eD;have ja:=ed (ds:=[]) h.bo h.dT kN;split at hs
    case h_2=>cases hs
    rename_i aj m mv e2 fq;rw [Bool.cond_eq_ite]at hs;split at hs
    case isFalse=>cases hs
    rename_i ij;simp only [Bool.and_eq_true,Nat.beq_eq,Nat.ble_eq]at ij;obtain⟨rfl,hm⟩:=ij;cases hs;intro cx;obtain⟨news,jd,l_⟩:=VW h.bo.bo h.tt eD fq ja;exact af7 h.bo h.dT h.tt eV rfl hle ay pw e5 GQ pp qc GP hm jd l_ (Nn (cx (room (n+m) cm.bytes=true) (by simp))) (cx (hv _ y) (by simp))
   rename_i cm k n get d2 atu aY y rs hle qc kN vR eK;rw [Bool.cond_eq_ite]at hs;split at hs
   case isFalse=>cases hs
   rename_i hc;simp only [Bool.and_eq_true,Nat.beq_eq,Nat.ble_eq]at hc;obtain⟨⟨⟨⟨rfl,rfl⟩,GO⟩,GP⟩,we⟩:=hc;rw [Option.bind_eq_some_iff]at eV eD;obtain⟨ahg,GQ,eV⟩:=eV;obtain⟨NF,pp,eD⟩:=eD;have ja:=ed (ds:=[]) h.bo h.dT kN;split at hs
   ·rename_i aj m mv e2 fq;rw [Bool.cond_eq_ite]at hs;split at hs
    case isFalse=>cases hs
    rename_i ij;simp only [Nat.beq_eq]at ij;subst ij;cases hs;intro cx;obtain⟨news,jd,l_⟩:=VW h.bo.bo h.tt eD fq ja;exact VR h.bo h.dT h.tt eV rfl hle ay pw e5 GQ pp qc vR rfl GP jd l_ (Nn (cx (room (n+m) cm.bytes=true) (by simp))) (cx (hv _ y) (by simp))
   ·rename_i l fq;rw [Bool.cond_eq_ite]at hs;split at hs
    case isFalse=>cases hs
    rename_i ij;simp only [Nat.beq_eq]at ij;cases hs;intro cx;have NG:=m6 ja;obtain⟨news,jd,l_⟩:=aga (P:=P) (w:=w) h.tt eD fq l M;rw [←NG,←ij]at jd;rw [←ij]at l_;exact VR h.bo h.dT h.tt eV rfl hle ay pw e5 GQ pp qc vR rfl GP jd l_ (Nn (cx (room (n+l.length) cm.bytes=true) (by simp))) (cx (hv _ y) (by simp))
   ·cases hs
  ·rename_i pw;split at hs
   ·rename_i k a aj b hd;rw [Bool.cond_eq_ite]at hs;split at hs
    case isFalse=>cases hs
    rename_i hk;have lm:k=aj:=by simpa using hk
    subst lm;cases hs;exact λ_=>ahd h ay pw hd
   ·cases hs
  ·rename_i pw;split at hs
   ·rename_i k a aj b hd;rw [Bool.cond_eq_ite]at hs;split at hs
    case isFalse=>cases hs
    rename_i hk;have lm:k=aj:=by simpa using hk
    subst lm;cases hs;exact λ_=>ahe h ay pw hd
   ·cases hs
  ·cases hs
 |panic x=>cases s with
  |go f=>simp only [step1,ay]at hs;repeat' (first |(split at hs) |(simp at hs;done))
  |aJ y gg a8=>
   simp only [step1,ay]at hs;split at hs
   case h_2=>cases hs
   rename_i t z hd;cases hs;intro _;have ai:=ed (ds:=[]) h.bo h.dT hd;obtain⟨u,au,hu⟩:=MD ai;refine .inl ⟨.iface t u,?_,.iface t u z hu,rfl⟩;simp [execOp,ay,au,Instr.panic]
 |_=>simp [step1,ay]at hs
end
inductive cr where
 |normal
 |exit (id:Nat)
 |ret
 |aJ (x:V)
def rh(P:Program)(K:Ctx)(N:Nat)(fr:cr)(st:aH)(e:Exit)(a:Act)(w:World):Prop:=
 match fr with
 |.normal=>e = .normal∧a.defers=K.ds∧a.tmps.size=N∧∃M β,bI P K M β st a.tmps w
 |.exit id=>e = .exit id∧a.defers=K.ds∧a.tmps.size=N∧∃M β,bI P K M β st a.tmps w
 |.ret=>e = .ret∧a.defers=K.ds∧a.tmps.size=N∧∃M β,bI P K M β st a.tmps w
 |.aJ x=>∃v,e = .panic [{v,recovered:=false}]∧a.defers=K.ds∧∃M β,dq M v x∧bI P K M β st a.tmps w
section
variable {P:Program} {K:Ctx} {N:Nat} {M:Mem} {β:Nat→Option Nat} {st:aH} {g e0:dk} {tmps:Array Value} {w:World} {o:Oper} {f:lC} {p:Path} {tt:dH} {ops:List Oper}
def bI.Cc(h:bI P K M β st tmps w)(ek:Array Value):bI P K M β {env:=[],H:=st.H,aX:=st.aX} ek w:=by
 have Z:bI P K M β {env:=[],H:=st.H,aX:=st.aX} tmps w:=h.sub rfl (λl e ab=>by
  cases l with
  |slot s=>simp [aH.at,look]at ab
  |cell r i=>exact⟨e,ab,rfl,λ_ h=>h⟩) (λr cs ai=>⟨cs,ai,rfl⟩)
 have au:∀l e,({env:=[],H:=st.H,aX:=st.aX}:aH).at l=some e→ce ek w β l=ce tmps w β l:=by
  intro l e ab;cases l with
  |slot s=>simp [aH.at,look]at ab
  |cell r i=>rfl
 constructor
 ·intro l e ab;rw [au l e ab];exact Z.e4 l e ab
 ·intro l e T ab aD;rw [au l e ab];exact Z.own l e T ab aD
 ·intro l cH e aY T T' b ab aD cO ec hb bQ;rw [au l e ab]at hb;rw [au cH aY cO]at bQ;exact Z.uniq l cH e aY T T' b ab aD cO ec hb bQ
 ·intro l e T b r cs ab aD hb ai;rw [au l e ab]at hb;exact Z.unbox l e T b r cs ab aD hb ai
 ·exact Z.box
 ·exact Z.inj
 ·exact Z.lt
 ·exact Z.mem
 ·exact Z.m0
 ·exact Z.frame
 ·exact Z.iL
 ·exact Z.jm
 ·exact Z.h3
def Cd(h:fJ P K N M β g tmps w):∀{p:Path} {q:Prop},fR tmps p→under g p q→q
 |[],_,_,ao=>ao
 |(t,pr)::p,q,hp,ao=>by
  have aF:tmps.getD t undef = .bool pr:=hp (t,pr) (by simp)
  have yO:fR tmps p:=λx hx=>hp x (by simp [hx])
  simp only [under]at ao;split at ao
  ·rename_i b hb;refine Cd h yO (ao ?_);unfold Bz at hb;split at hb
   ·rename_i q' bE hc;cases hb;by_cases je:fR tmps q'
    ·have:=vM ((h.cond t _ _ hc).1 je)
     rw [aF]at this;cases this;rfl
    ·have:=(h.cond t _ _ hc).2 je
     rw [aF]at this;cases this
   ·cases hb
   ·split at hb
    ·rename_i bE own he;cases hb;have:=vM (h.bo.e4 (.slot t) _ he)
     simp only [ce]at this;rw [aF]at this;cases this;rfl
    ·cases hb
  ·exact Cd h yO ao
def WC(h:fJ P K N M β g tmps w){opsA:Array Oper}(nA:opsA.toList=ops)(hp:p4 ops g o=some p):Region.wanted o (yielded opsA tmps)=true↔fR tmps p:=by
 unfold p4 at hp;split at hp
 ·rename_i hg;cases hp;simp [Region.wanted,hg,fR]
 ·rename_i j pr hg;split at hp
  case h_2=>cases hp
  rename_i t aF
  have b1:yielded opsA tmps j=some pr↔tmps.getD t undef = .bool pr:=by
   unfold yielded;have:opsA[j]? = ops[j]? := by rw [←nA];simp
   rw [this,aF];simp only [Option.bind_some,Array.getD_eq_getD_getElem?];cases bn:tmps[t]? with
   |none=>simp [undef]
   |some v=>cases v<;>simp
  have hw:Region.wanted o (yielded opsA tmps)=true↔tmps.getD t undef = .bool pr:=by
   rw [←b1];simp [Region.wanted,hg]
  split at hp
  ·rename_i q b hc;cases hp;rw [hw];constructor
   ·intro kc x hx;rcases List.mem_append.1 hx with hx|hx
    ·by_cases je:fR tmps q
     ·exact je x hx
     ·have:=(h.cond t _ _ hc).2 je
      rw [kc]at this;cases this
    ·simp at hx;subst hx;exact kc
   ·intro je;exact je (t,pr) (by simp)
  ·cases hp
  ·split at hp
   ·cases hp;rw [hw];exact⟨λh x hx=>by simp at hx;subst hx;exact h,λh=>h (t,pr) (by simp)⟩
   ·cases hp
def NH{t:Nat}{v:Value}{q:Path}(ao:∀x,x∈q→x.1≠t):fR (tmps.setIfInBounds t v) q↔fR tmps q:=by
 unfold fR;constructor<;>intro h x hx
 ·have:=h x hx
  rwa [Array.getD_eq_getD_getElem?,Array.getElem?_setIfInBounds_ne (Ne.symm (ao x hx)),←Array.getD_eq_getD_getElem?]at this
 ·have:=h x hx
  rwa [Array.getD_eq_getD_getElem?,Array.getElem?_setIfInBounds_ne (Ne.symm (ao x hx)),←Array.getD_eq_getD_getElem?]
def ahh{t s:Nat}{v:Value}(h:s≠t):(tmps.setIfInBounds t v).getD s undef=tmps.getD s undef:=by
 rw [Array.getD_eq_getD_getElem?,Array.getElem?_setIfInBounds_ne (Ne.symm h),←Array.getD_eq_getD_getElem?]
def ahi{b6:List (Nat×Path×D)}{t:Nat}(h:yn b6 t=true){s:Nat}{q:Path}{d:D}(hc:look b6 s=some (q,d))(hs:s≠t):∀x,x∈q→x.1≠t:=by
 unfold yn at h;rw [List.all_eq_true]at h;have:=h _ (sj hc)
 simp only [Bool.or_eq_true,Nat.beq_eq,List.all_eq_true,Bool.not_eq_true']at this;rcases this with Z|Z
 ·exact absurd Z hs
 ·intro x hx e;have:=Z x hx
  rw [e]at this;simp at this
def NI(h:∀t q d,look g.b6 t=some (q,d)→(fR tmps q→cv M β (tmps.getD t undef) d)∧(¬ fR tmps q→tmps.getD t undef=undef)){t:Nat}{v:Value}(bP:yn g.b6 t=true){M':Mem}{β':Nat→Option Nat}
 (c7:M.le M') (hH:∀r b,β r=some b→β' r=some b):
 ∀s q d,look (del g.b6 t) s=some (q,d)→(fR (tmps.setIfInBounds t v) q→cv M' β' ((tmps.setIfInBounds t v).getD s undef) d)∧(¬ fR (tmps.setIfInBounds t v) q→(tmps.setIfInBounds t v).getD s undef=undef):=by
 intro s q d hc;rw [qY]at hc;by_cases hs:t=s
 ·simp [hs]at hc
 ·rw [if_neg hs]at hc;rw [NH (ahi bP hc (Ne.symm hs)),ahh (Ne.symm hs)];exact⟨λje=>(((h s q d hc).1 je).mono c7).Mp hH,(h s q d hc).2⟩
def yP(ds:List Deferred):Act.eval ⟨tmps,ds⟩=Act.eval ⟨tmps,[]⟩:=by
 funext x;cases x<;>rfl
def WD{α:Type}:∀(a b:List (Nat×α)) (q:Nat),look (a++b) q=none→look a q=none∧look b q=none
 |[],b,q,h=>⟨rfl,h⟩
 |(j,x)::a,b,q,h=>by
  simp only [List.cons_append,dC]at h ⊢;by_cases hj:j=q
  ·simp [hj]at h
  ·simp only [hj,if_false]at h ⊢;exact WD a b q h
def fJ.NJ(h:fJ P K N M β g tmps w){β':Nat→Option Nat}{hs:List (Nat×List aW)}(wg:∀r b,β' r=some b→β r=some b∨(look hs r).isSome=true):
 ∀s id,look g.ids s=some id→look (hs++g.H) id=none→∀b,β' id≠some b:=by
 intro s id hid ab b hb;obtain⟨Z,aa⟩:=WD _ _ _ ab;rcases wg id b hb with am|am
 ·exact h.fresh s id hid aa b am
 ·rw [Z]at am;cases am
def Ce(h:fJ P K N M β g tmps w)(cf:fe P tt=true){opsA:Array Oper}(nA:opsA.toList=ops)(hs:kr (hR P) tt N ops g o=some (.go e0))(cx:∀q,q∈e0.a8→q){Q:Exit→Act→World→Prop}{next:Act→World→Prop}
 (gv:∀ek w' M' β',fJ P K N M' β' e0 ek w'→next ⟨ek,K.ds⟩ w'):
 if Region.wanted o (yielded opsA tmps)then o.wp P ⟨tmps,K.ds⟩ w next Q∨(o.asks P ⟨tmps,K.ds⟩ w∧LetsOut Q)else next ((⟨tmps,K.ds⟩:Act).put o.dst undef) w:=by
 unfold kr at hs;split at hs
 case h_1=>cases hs
 rename_i p hp;have hw:=WC h nA hp;split at hs
 ·cases hs
 ·rw [Bool.cond_eq_ite]at hs;split at hs<;>cases hs
 rename_i f bP
 dsimp only at hs
 by_cases je:fR tmps p
 ·rw [if_pos (
   hw.2 je)]
  refine .inl ?_;have hS:=WB (g:=g) (ops:=ops) ⟨h,je,cf⟩ bP
  -- Gs follows once lJ value is there
  have main:(∀q,q∈f.a8→q)∧∀v w',bS P K M β g f tmps v w'→next ((⟨tmps,K.ds⟩:Act).put o.dst v) w':=by
   split at hs
   ·rename_i wh;rw [Bool.cond_eq_ite]at hs;split at hs
    case isFalse=>cases hs
    rename_i we;have Cf:p=[]:=by simpa using we
    subst Cf;cases hs;refine⟨λq ao=>Cd h je (cx _ (List.mem_append_left _ (List.mem_map.2 ⟨q,ao,rfl⟩))),?_⟩
    rintro v w' ⟨M',β',c7,hH,wg,cT,_⟩
    rw [wh];exact gv tmps w' M' β' ⟨cT,h.size,h.NJ wg,λs q d hc=>⟨λje=>(((h.cond s q d hc).1 je).mono c7).Mp hH,(h.cond s q d hc).2⟩⟩
   ·rename_i t wh;rw [Bool.cond_eq_ite]at hs;split at hs
    case isFalse=>cases hs
    rename_i hc;simp only [Bool.and_eq_true,Nat.blt_eq]at hc;have bw:t<tmps.size:=by rw [h.size];exact hc.1
    rcases p with _|⟨x,NK⟩<;>dsimp only at hs
    ·cases hs;refine⟨λq ao=>Cd h je (cx _ (List.mem_append_left _ (List.mem_map.2 ⟨q,ao,rfl⟩))),?_⟩
     rintro v w' ⟨M',β',c7,hH,wg,cT,hS⟩
     rw [wh];refine gv _ w' M' β' ⟨?_,by simpa using h.size,h.NJ wg,NI h.cond hc.2 c7 hH⟩
     cases he:f.e with
     |none=>exact cT.drop
     |some e=>
      obtain⟨Z,aa⟩:=hS e he;exact cT.put bw Z (λT aD=>aa T _ aD)
    ·split at hs
     ·rename_i e he wi pn;rw [Bool.cond_eq_ite]at hs;split at hs
      case isFalse=>cases hs
      rename_i jt;simp only [Bool.and_eq_true,List.all_eq_true,Nat.beq_eq,Bool.not_eq_true']at jt;cases hs;refine⟨λq ao=>Cd h je (cx _ (List.mem_append_left _ (List.mem_map.2 ⟨q,ao,rfl⟩))),?_⟩
      rintro v w' ⟨M',β',c7,hH,wg,cT,hS⟩
      rw [wh];obtain⟨Z,_⟩:=hS e he
      have kO:∀y,y∈x::NK→y.1≠t:=λy b1 e=>by
       have:=jt.1 y b1
       rw [e]at this;simp at this
      refine gv _ w' M' β' ⟨?_,by simpa using h.size,by have:=h.NJ wg;rw [wi]at this;exact this,λs q d ej=>?_⟩
      ·have:after g f={env:=g.env,H:=g.H,aX:=g.aX}:=by unfold after;rw [pn,wi,jt.2];rfl
       rw [this]at cT;exact cT.drop
      ·rw [dC]at ej;by_cases li:t=s
       ·rw [if_pos li]at ej;cases ej;subst li;rw [NH kO];refine⟨λ_=>?_,λhn=>absurd je hn⟩
        have:(tmps.setIfInBounds t v).getD t undef=v:=by simp [bw]
        rw [this];exact Z
       ·rw [if_neg li]at ej;exact NI h.cond hc.2 c7 hH s q d ej
     ·cases hs
  obtain⟨ahj,js⟩:=main;rcases hS ahj with⟨v,w',eO,md⟩|⟨he,w',eO,md⟩|⟨fn,vs,eO,wj⟩
  ·unfold Oper.wp;rw [yP,eO];exact js v w' md
  ·unfold Oper.wp;rw [yP,eO];exact js undef w' md
  ·unfold Oper.wp;rw [yP,eO];refine wj.mono ?_
   rintro e w' ⟨v,rfl,md⟩
   exact js v w' md
 ·have ahk:Region.wanted o (yielded opsA tmps)=false:=by
   rw [Bool.eq_false_iff];exact λbn=>je (hw.1 bn)
  rw [ahk];simp only [Bool.false_eq_true,if_false];split at hs
  ·rename_i wh;rw [Bool.cond_eq_ite]at hs;split at hs
   case isFalse=>cases hs
   rename_i we;have Cf:p=[]:=by simpa using we
   subst Cf;exact absurd (λx hx=>by cases hx) je
  ·rename_i t wh;rw [Bool.cond_eq_ite]at hs;split at hs
   case isFalse=>cases hs
   rename_i hc;simp only [Bool.and_eq_true,Nat.blt_eq]at hc;rcases p with _|⟨x,NK⟩<;>dsimp only at hs
   ·exact absurd (λx hx=>by cases hx) je
   ·split at hs
    ·rename_i e he wi pn;rw [Bool.cond_eq_ite]at hs;split at hs
     case isFalse=>cases hs
     rename_i jt;simp only [Bool.and_eq_true,List.all_eq_true,Nat.beq_eq,Bool.not_eq_true']at jt;cases hs;rw [wh]
     have kO:∀y,y∈x::NK→y.1≠t:=λy b1 e=>by
      have:=jt.1 y b1
      rw [e]at this;simp at this
     refine gv _ w M β ⟨h.bo.drop,by simpa using h.size,h.fresh,λs q d ej=>?_⟩
     rw [dC]at ej;by_cases li:t=s
     ·rw [if_pos li]at ej;cases ej;subst li;rw [NH kO];refine⟨λbn=>absurd bn je,λ_=>?_⟩
      have bw:t<tmps.size:=by rw [h.size];exact hc.1
      simp [bw]
     ·rw [if_neg li]at ej;exact NI h.cond hc.2 (Mem.le_refl _) (λ_ _ h=>h) s q d ej
    ·cases hs
end
section
variable {P:Program} {K:Ctx} {N E:Nat} {M:Mem} {β:Nat→Option Nat} {st:aH} {g e0:dk} {tmps:Array Value} {w:World} {o:Oper} {f:lC} {p:Path} {tt:dH} {ops:List Oper}
def WE(h:fJ P K N M β g tmps w)(cf:fe P tt=true){opsA:Array Oper}(nA:opsA.toList=ops){x:V}{st:aH}{a8:List Prop}(hs:kr (hR P) tt N ops g o=some (.aJ x st a8))(cx:∀q,q∈a8→q){Q:Exit→Act→World→Prop}{next:Act→World→Prop}
 (gv:∀e dv w',rh P K N (.aJ x) st e dv w'→Q e dv w'):
 if Region.wanted o (yielded opsA tmps)then o.wp P ⟨tmps,K.ds⟩ w next Q∨(o.asks P ⟨tmps,K.ds⟩ w∧LetsOut Q)else next ((⟨tmps,K.ds⟩:Act).put o.dst undef) w:=by
 unfold kr at hs;split at hs
 case h_1=>cases hs
 rename_i p hp;have hw:=WC h nA hp;split at hs
 ·cases hs
 ·rename_i y gg ui c_;rw [Bool.cond_eq_ite]at hs;split at hs
  case isFalse=>cases hs
  rename_i we;have Cf:p=[]:=by simpa using we
  subst Cf;cases hs;have je:fR tmps []:=λx hx=>by cases hx
  rw [if_pos (hw.2 je)];refine .inl ?_;have hS:=WB (g:=g) (ops:=ops) ⟨h,je,cf⟩ c_;rcases hS (λq ao=>cx q (List.mem_append_left _ ao)) with⟨v,eO,ai,rfl⟩|⟨fn,vs,eO,wj⟩
  ·unfold Oper.wp;rw [yP,eO];exact gv _ _ _ ⟨v,rfl,rfl,M,β,ai,h.bo.p3 λs e he=>⟨e,he,rfl⟩⟩
  ·unfold Oper.wp;rw [yP,eO];refine wj.mono ?_
   rintro e w' ⟨v,M',rfl,ai,cT⟩
   exact gv _ _ _ ⟨v,rfl,rfl,M',β,ai,cT⟩
 ·dsimp only at hs
  repeat' (first|(split at hs)|(rw [Bool.cond_eq_ite]at hs)|(cases hs;done))
def ahl{ck:gF}(hs:kr ck tt N ops g o=some (.go e0)):∀q,q∈g.a8→q∈e0.a8:=by
 intro q ao;unfold kr at hs;split at hs
 case h_1=>cases hs
 split at hs
 ·cases hs
 ·rw [Bool.cond_eq_ite]at hs;split at hs<;>cases hs
 ·dsimp only at hs
  repeat' (first|(split at hs)|(rw [Bool.cond_eq_ite]at hs)|(cases hs;exact List.mem_append_right _ ao)|(cases hs;done))
def ahm{ck:gF}{x:V}{st:aH}{a8:List Prop}(hs:kr ck tt N ops g o=some (.aJ x st a8)):∀q,q∈g.a8→q∈a8:=by
 intro q ao;unfold kr at hs;split at hs
 case h_1=>cases hs
 split at hs
 ·cases hs
 ·rw [Bool.cond_eq_ite]at hs;split at hs<;>cases hs;exact List.mem_append_right _ ao
 ·dsimp only at hs
  repeat' (first|(split at hs)|(rw [Bool.cond_eq_ite]at hs)|(cases hs;done))
def WF:tS→List Prop
 |.go g=>g.a8
 |.aJ _ _ a8=>a8
def WG{ck:gF}:∀{l:List Oper} {g:dk} {fin:tS},tT ck tt N ops l g=some fin→∀q,q∈g.a8→q∈WF fin
 |[],g,fin,h,q,ao=>by simp [tT]at h;subst h;exact ao
 |o::l,g,fin,h,q,ao=>by
  simp only [tT]at h;split at h
  ·rename_i e0 hs;exact WG h q (ahl hs q ao)
  ·cases fin with
   |go e0=>exact absurd h (by intro bn;rename_i dL;exact dL _ bn)
   |aJ x st a8=>exact ahm h q ao
def NL(cf:fe P tt=true){opsA:Array Oper}(nA:opsA.toList=ops){Q:Exit→Act→World→Prop}{fin:tS}(ln:∀q,q∈WF fin→q)
 (ew:match fin with
  |.go e0=>∀ek w' M' β',fJ P K N M' β' e0 ek w'→Q .normal ⟨ek,K.ds⟩ w'
  |.aJ x st _=>∀e dv w',rh P K N (.aJ x) st e dv w'→Q e dv w'):
 ∀(l:List Oper) (k:Nat) (g:dk) (tmps:Array Value) (w:World) (M:Mem) (β:Nat→Option Nat),(∀j,l[j]? = ops[k+j]?)→fJ P K N M β g tmps w→tT (hR P) tt N ops l g=some fin→
  wpOps P opsA Q (List.range' k l.length) ⟨tmps,K.ds⟩ w
 |[],k,g,tmps,w,M,β,_,h,ai=>by
  simp [tT]at ai;subst ai;exact ew tmps w M β h
 |o::l,k,g,tmps,w,M,β,ab,h,ai=>by
  have hk:opsA[k]? = some o:=by
   have:=ab 0
   simp at this
   rw [←Array.getElem?_toList,nA];exact this.symm
  simp only [List.length_cons,List.range'_succ,wpOps,hk];simp only [tT]at ai;split at ai
  ·rename_i e0 hs;refine Ce h cf nA hs (λq ao=>ln q (WG ai q ao)) (λek w' M' β' cG=>?_)
   exact NL cf nA ln ew l (k+1) e0 ek w' M' β' (λj=>by have:=ab (j+1);simpa [Nat.add_assoc,Nat.add_comm 1 j]using this) cG ai
  ·cases fin with
   |go e0=>exact absurd ai (by intro bn;rename_i dL;exact dL _ bn)
   |aJ x st a8=>exact WE h cf nA ai ln (λe dv w' b2=>ew e dv w' b2)
def ba(P:Program)(N E:Nat)(c:Code)(Q:cr→aH→Prop)(st:aH):Prop:=
 ∀(K:Ctx),(∀r b,K.j' r=some b→r<E)→∀(a:Act) (w:World),rh P K N .normal st .normal a w→c.wp P (λe dv w'=>∃fr bY,rh P K N fr bY e dv w'∧Q fr bY) a w
def ba.mono{c:Code}{Q WH:cr→aH→Prop}(h:ba P N E c Q st)(ao:∀fr bY,Q fr bY→WH fr bY):ba P N E c WH st:=
 λK eh a w hs=>wp_mono (h K eh a w hs) λ_ _ _ ⟨fr,bY,Z,aa⟩=>⟨fr,bY,Z,ao _ _ aa⟩
@[reducible] def cr.then (next : aH → Prop) (Q : cr → aH → Prop) : cr → aH → Prop
 |.normal,st=>next st
 |e,st=>Q e st
@[reducible] def cr.inBlock (id : Nat) (Q : cr → aH → Prop) : cr → aH → Prop
 |.exit i,st=>if i=id then Q .normal st else Q (.exit i) st
 |e,st=>Q e st
def ba.seq{x y:Code}{Q:cr→aH→Prop}(h:ba P N E x (cr.then (ba P N E y Q) Q) st):ba P N E (.seq x y) Q st:=by
 intro K eh a w hs;refine wp_seq (wp_mono (h K eh a w hs) ?_)
 rintro e dv w' ⟨fr,bY,Z,aa⟩
 cases fr with
 |normal=>
  obtain⟨rfl,am⟩:=Z;exact aa K eh dv w' ⟨rfl,am⟩
 |exit i=>obtain⟨rfl,am⟩:=Z;exact⟨.exit i,bY,⟨rfl,am⟩,aa⟩
 |ret=>obtain⟨rfl,am⟩:=Z;exact⟨.ret,bY,⟨rfl,am⟩,aa⟩
 |aJ x=>obtain⟨v,rfl,am⟩:=Z;exact⟨.aJ x,bY,⟨v,rfl,am⟩,aa⟩
def ba.skip{Q:cr→aH→Prop}(h:Q .normal st):ba P N E .skip Q st:=λ_ _ _ _ hs=>wp_skip ⟨.normal,st,hs,h⟩
def ba.label{l:Nat}{Q:cr→aH→Prop}(h:Q .normal st):ba P N E (.label l) Q st:=λ_ _ _ _ hs=>wp_label ⟨.normal,st,hs,h⟩
def ba.exit{id:Nat}{Q:cr→aH→Prop}(h:Q (.exit id) st):ba P N E (.exit id) Q st:=λ_ _ _ _ hs=>wp_exit ⟨.exit id,st,⟨rfl,hs.2⟩,h⟩
def ba.ret{Q:cr→aH→Prop}(h:Q .ret st):ba P N E .ret Q st:=λ_ _ _ _ hs=>wp_ret ⟨.ret,st,⟨rfl,hs.2⟩,h⟩
def ba.block{id:Nat}{c:Code}{Q:cr→aH→Prop}(h:ba P N E c (cr.inBlock id Q) st):ba P N E (.block id c) Q st:=by
 intro K eh a w hs;refine wp_block (wp_mono (h K eh a w hs) ?_)
 rintro e dv w' ⟨fr,bY,Z,aa⟩
 cases fr with
 |normal=>obtain⟨rfl,am⟩:=Z;exact⟨.normal,bY,⟨rfl,am⟩,aa⟩
 |exit i=>
  obtain⟨rfl,am⟩:=Z;by_cases hi:i=id
  ·simp only [cr.inBlock,hi,if_true]at aa;simp only [Exit.inBlock,hi,if_true];exact⟨.normal,bY,⟨rfl,am⟩,aa⟩
  ·simp only [cr.inBlock,hi,if_false]at aa;simp only [Exit.inBlock,hi,if_false];exact⟨.exit i,bY,⟨rfl,am⟩,aa⟩
 |ret=>obtain⟨rfl,am⟩:=Z;exact⟨.ret,bY,⟨rfl,am⟩,aa⟩
 |aJ x=>obtain⟨v,rfl,am⟩:=Z;exact⟨.aJ x,bY,⟨v,rfl,am⟩,aa⟩
def ba.cond{c:Nat}{x y:Code}{Q:cr→aH→Prop}(b:Bool)(own:Option TypeId)(hc:look st.env c=some ⟨.v (.bool b),own⟩)(aF:b=true→ba P N E x Q st)(bP:b=false→ba P N E y Q st):ba P N E (.cond (.tmp c) x y) Q st:=by
 intro K eh a w hs;obtain⟨_,_,_,M,β,cT⟩:=id hs;have au:a.eval (.tmp c) = .bool b:=vM (cT.e4 (.slot c) _ hc);exact wp_cond_split au (λhb=>aF hb K eh a w hs) (λhb=>bP hb K eh a w hs)
def ba.loop{c:Code}{Q:cr→aH→Prop}{σ:Type}(I:Nat→σ→aH→Prop)(WI:∀n s st,I n s st→∃m,n=m+1∧ba P N E c (cr.then (λbY=>∃p7,I m p7 bY) Q) st)
 {n:Nat} {s:σ} {st:aH} (h0:I n s st):ba P N E (.loop c) Q st:=by
 intro K eh a w hs b k cs
 have key:∀n s st a w,I n s st→rh P K N .normal st .normal a w→
  ∃e dv w',(∃fr bY,rh P K N fr bY e dv w'∧Q fr bY)∧Arrives P (lone (b.at a (.code c :: .inLoop c::k)) cs w) b k cs e dv w':=by
  intro n;induction n with
  |zero=>
   intro s st a w me _;obtain⟨m,hm,_⟩:=WI 0 s st me;omega
  |succ n aM=>
   intro s st a w me hs;obtain⟨m,hm,NB⟩:=WI (n+1) s st me;have:m=n:=by omega
   subst this;obtain⟨e,GR,GS,⟨fr,bY,Z,aa⟩,yQ⟩:=NB K eh a w hs b (.inLoop c::k) cs;cases fr with
   |normal=>
    obtain⟨rfl,am⟩:=Z;obtain⟨p7,ahn⟩:=aa;obtain⟨aho,ahp,ahq,ahr,ahs⟩:=aM p7 bY GR GS ahn ⟨rfl,am⟩;exact⟨aho,ahp,ahq,ahr,.of_steps (Steps.trans yQ (.one step_inLoop)) ahs⟩
   |exit i=>obtain⟨rfl,am⟩:=Z;exact⟨_,GR,GS,⟨.exit i,bY,⟨rfl,am⟩,aa⟩,.pass (x:=.inLoop c) rfl (λ_ _=>.inl (by simp)) yQ⟩
   |ret=>obtain⟨rfl,am⟩:=Z;exact⟨_,GR,GS,⟨.ret,bY,⟨rfl,am⟩,aa⟩,.pass (x:=.inLoop c) rfl (λ_ _=>.inl (by simp)) yQ⟩
   |aJ x=>obtain⟨v,rfl,am⟩:=Z;exact⟨_,GR,GS,⟨.aJ x,bY,⟨v,rfl,am⟩,aa⟩,.pass (x:=.inLoop c) rfl (λ_ _=>.inl (by simp)) yQ⟩
 obtain⟨e,dv,w',ao,yQ⟩:=key n s st a w h0 hs;exact⟨e,dv,w',ao,.of_steps (.one step_loop) yQ⟩
end
def yR(tt:dH)(st:aH):ResultVar→Option D
 |.tmp t=>(look st.env t).map (·.d)
 |.cell a t=>match look st.env a,look tt t with
  |some ⟨.ptr r off,_⟩,some aE=>match look st.H r with
   |some cs=>bif aE.k.isAgg then(bif Nat.ble (off+aE.size) cs.length then some (mX (((cs.drop off).take aE.size).map (·.d)))else none) else(cs[off]?).map (·.d)
   |none=>none
  |_,_=>none
def WJ(tt:dH)(st:aH):List ResultVar→Option (D×Option TypeId)
 |[.tmp t]=>(look st.env t).map λe=>(e.d,e.own)
 |[x]=>(yR tt st x).map (·,none)
 |xs=>(mapM' (yR tt st) xs).map λds=>(.cn ds,none)
def leave(tt:dH)(E:Nat)(rs:List ResultVar)(st:aH):Option (Out×List (List aW)):=
 match WJ tt st rs,boxes st.H (List.range E) with
 |some (d,own),some H'=>bif below E d&&H'.all (se E)then some (.ret d own,H')else none
 |_,_=>none
def GT(E:Nat)(H:List (Nat×List aW)):Option (List (List aW)):=
 match boxes H (List.range E) with
 |some H'=>bif H'.all (se E)then some H' else none
 |none=>none
def sz(tt:dH)(E c:Nat):List ResultVar→aH→Option (Out×List (List aW))
 |[.cell a t],st=>match look st.env a,look tt t with
  |some ⟨.ptr r off,_⟩,some aE=>match look st.H r,boxes st.H (List.range E) with
   |some cs,some H'=>
    bif (((((aE.k.isAgg&&Nat.ble (off+aE.size) cs.length)&&tQ (marks c) (marksOf 0 ((cs.drop off).take aE.size)))&&Nat.ble E r)&&below E (mX (((cs.drop off).take aE.size).map (·.d))))&&H'.all (se E)) then
     some (.ret (mX (((cs.drop off).take aE.size).map (·.d))) (some c),H')else none
   |_,_=>none
  |_,_=>none
 |_,_=>none
def oD(H:List (List aW)):List (List aW):=H.map λb=>b.map λe=>{d:=e.d}
def sA(tt:dH)(E:Nat)(rs:List ResultVar)(R:Out→List (List aW)→Prop):cr→aH→Prop
 |.normal,st=>∃o H',(leave tt E rs st=some (o,H')∨∃c,sz tt E c rs st=some (o,H'))∧R o H'
 |.ret,st=>∃o H',(leave tt E rs st=some (o,H')∨∃c,sz tt E c rs st=some (o,H'))∧R o H'
 |.aJ x,st=>∃H',GT E st.H=some H'∧R (.aJ x) (oD H')
 |.exit _,_=>False
section
variable {P:Program} {K:Ctx} {N E:Nat} {M:Mem} {β:Nat→Option Nat} {st:aH} {tmps:Array Value} {w:World} {tt:dH}
def yS(tmps:Array Value):ResultVar→Sem Value
 |.tmp t=>pure (tmps.getD t undef)
 |.cell a t=>do loadVar t (←asAddr (tmps.getD a undef))
def WK(h:bI P K M β st tmps w)(cf:fe P tt=true){x:ResultVar}{d:D}(hx:yR tt st x=some d):
 ∃v,(yS tmps x).run P w = .ok v w∧cv M β v d:=by
 cases x with
 |tmp t=>
  simp only [yR,Option.map_eq_some_iff]at hx;obtain⟨e,he,rfl⟩:=hx;exact⟨_,rfl,h.e4 (.slot t) e he⟩
 |cell a t=>
  simp only [yR]at hx;split at hx
  case h_2=>cases hx
  rename_i r off own aE ha ab;obtain⟨row⟩:=ev cf ab;split at hx
  case h_2=>cases hx
  rename_i cs ai;obtain⟨b,hb,au⟩:=pm (h.e4 (.slot a) _ ha);simp only [ce]at au;obtain⟨bE,vs,T,bQ,bn,hlen,_,_,gH,lf⟩:=h.box r cs ai;rw [hb]at bQ;cases bQ
  have WL:∀{u:Value},(Instr.loadAt t (.pointer (some ⟨b,off,none⟩))).run P w = .ok u w→(do loadVar t (←asAddr (tmps.getD a undef)):Sem Value).run P w = .ok u w:=by
   intro u hu;rw [au];simpa [Instr.loadAt,Instr.sureAddr,asAddr]using hu
  rw [Bool.cond_eq_ite]at hx;split at hx
  ·rename_i h5;rw [Bool.cond_eq_ite]at hx;split at hx
   case isFalse=>cases hx
   rename_i hle;simp only [Nat.ble_eq]at hle;cases hx;refine⟨_,WL (Gj (P:=P) row (off:=off) bn (by omega) h5),?_⟩
   refine yy (by simp;omega) (λv au=>gH v (List.mem_of_mem_drop (List.mem_of_mem_take au))) (λi v c au hc=>?_)
   rw [List.getElem?_map,Option.map_eq_some_iff]at hc;obtain⟨e,he,rfl⟩:=hc;rw [List.getElem?_take]at au he;split at au
   ·rename_i hi;rw [if_pos hi,List.getElem?_drop]at he;rw [List.getElem?_drop]at au;have:=h.e4 (.cell r (off+i)) e (by simp [aH.at,ai,he])
    simpa [ce,hb,cell_of_heap bn,au]using this
   ·cases au
  ·rename_i h5;simp only [Option.map_eq_some_iff]at hx;obtain⟨e,he,rfl⟩:=hx;obtain⟨ho,af_,p6,v,fc,VV,eJ,co⟩:=Mu h ai he;rw [hb]at fc;cases fc;refine⟨v,WL (ME (P:=P) row (by rw [cell_of_heap VV,eJ]) (by simpa using h5)),?_⟩
   have:=h.e4 (.cell r off) e (by simp [aH.at,ai,he])
   rwa [co]at this
def WM(h:bI P K M β st tmps w)(cf:fe P tt=true):∀{xs:List ResultVar} {ds:List D},mapM' (yR tt st) xs=some ds→
 ∃vs:List Value,(xs.mapM (yS tmps)).run P w = .ok vs w∧vs.length=ds.length∧
  ∀(i:Nat) v d,vs[i]? = some v→ds[i]? = some d→cv M β v d
 |[],ds,hx=>by simp [mapM']at hx;subst hx;exact⟨[],rfl,rfl,by simp⟩
 |x::xs,ds,hx=>by
  simp only [mapM']at hx;split at hx
  case h_2=>cases hx
  rename_i d ag8 hd ii;cases hx;obtain⟨v,au,fX⟩:=WK h cf hd;obtain⟨vs,ny,ab,ai⟩:=WM h cf ii;refine⟨v::vs,?_,by simp [ab],λi u c hu hc=>?_⟩
  ·simp only [List.mapM_cons,Sem.run_bind,au,Result.andThen_ok,ny,Sem.run_pure]
  ·cases i with
   |zero=>simp at hu hc;subst hu;subst hc;exact fX
   |succ i=>simp at hu hc;exact ai i u c hu hc
def aht{H:List (Nat×List aW)}{E:Nat}{H':List (List aW)}(h:boxes H (List.range E)=some H'):H'.length=E∧∀r,r<E→look H r=H'[r]? ∧ (H'[r]?).isSome=true:=by
 obtain⟨Z,aa⟩:=vX h;exact⟨by simpa using Z,λr ai=>aa r r (by simp [ai])⟩
def bI.leave(h:bI P K M β st tmps w){H':List (List aW)}(wk:boxes st.H (List.range E)=some H')(WN:H'.all (se E)=true)(eh:∀r b,K.j' r=some b→r<E){v:Value}{d:D}{own:Option TypeId}
 (au:cv M β v d) (hd:below E d=true) (fW:∀T,own=some T→∃l,m3 P K M β {env:=gU l st.env,H:=st.H,aX:=st.aX} tmps w (.slot 0) v T∧True):
 ∃ β',bI P K M β' {env:=[(0,{d,own})],H:=cX 0 H',aX:=E} #[v] w:=by
 obtain⟨ab,mb⟩:=aht wk;have Z:=h.Cc #[undef]
 have kQ:∀r cs,look (cX 0 H') r=some cs→r<E∧look st.H r=some cs:=by
  intro r cs ai;rw [nz]at ai;have bw:r<E:=by have:=(List.getElem?_eq_some_iff.1 ai).1;omega
  exact⟨bw,by rw [(mb r bw).1];exact ai⟩
 have hle:E≤st.aX∨E=0:=by
  by_cases h0:E=0
  ·exact .inr h0
  ·obtain⟨aa,am⟩:=mb (E-1) (by omega)
   obtain⟨cs,ej⟩:=Option.isSome_iff_exists.1 am;rw [ej]at aa;obtain⟨b,_,_,hb,_⟩:=h.box _ cs aa;have:=h.lt _ b hb
   exact .inl (by omega)
 have aa:bI P K M β {env:=[],H:=cX 0 H',aX:=st.aX} #[undef] w:=by
  refine Z.sub rfl (λl e ab=>?_) (λr cs ai=>⟨cs,(kQ r cs ai).2,rfl⟩)
  cases l with
  |slot s=>simp [aH.at,look]at ab
  |cell r i=>
   simp only [aH.at]at ab ⊢;cases ai:look (cX 0 H') r with
   |none=>simp [ai]at ab
   |some cs=>simp [ai]at ab;exact⟨e,by simp [(kQ r cs ai).2,ab],rfl,λ_ h=>h⟩
 -- lJ slot
 have am:bI P K M β {env:=[(0,{d,own})],H:=cX 0 H',aX:=st.aX} #[v] w:=by
  have ahu:=aa.put (t:=0) (v:=v) (e:={d,own}) (by simp) au (λT aD=>?_)
  ·simpa using ahu
  ·obtain⟨l,hn,_⟩:=fW T aD;refine⟨hn.own,λhf e T' b eV ec _ hb bQ=>?_,λb r cs hb ai=>hn.unbox b r cs hb (kQ r cs ai).2⟩
   cases hf with
   |slot s=>simp [aH.at,look]at eV
   |cell r i=>
    simp only [aH.at]at eV;cases ai:look (cX 0 H') r with
    |none=>simp [ai]at eV
    |some cs=>
     simp [ai]at eV;exact hn.apart (.cell r i) e T' b (by simp [aH.at,(kQ r cs ai).2,eV]) ec (by simp) hb bQ
 refine⟨λr=>if r<E then β r else none,?_⟩
 have co:∀l e,({env:=[(0,{d,own})],H:=cX 0 H',aX:=st.aX}:aH).at l=some e→ce #[v] w (λr=>if r<E then β r else none) l=ce #[v] w β l:=by
  intro l e ab;cases l with
  |slot s=>rfl
  |cell r i=>
   simp only [aH.at]at ab;cases ai:look (cX 0 H') r with
   |none=>simp [ai]at ab
   |some cs=>simp [ce,(kQ r cs ai).1]
 have nx:∀l e,({env:=[(0,{d,own})],H:=cX 0 H',aX:=st.aX}:aH).at l=some e→below E e.d=true:=by
  intro l e ab;cases l with
  |slot s=>
   simp only [aH.at,dC]at ab;split at ab
   ·cases ab;exact hd
   ·simp [look]at ab
  |cell r i=>
   simp only [aH.at]at ab;cases ai:look (cX 0 H') r with
   |none=>simp [ai]at ab
   |some cs=>
    simp [ai]at ab;rw [nz]at ai;rw [List.all_eq_true]at WN;exact Mz (WN cs (List.mem_of_getElem? ai)) ab
 constructor
 ·intro l e ab;rw [co l e ab];exact(am.e4 l e ab).Vg (λr ai=>by simp [ai]) (nx l e ab)
 ·intro l e T ab aD;rw [co l e ab];exact am.own l e T ab aD
 ·intro l cH e aY T T' b ab aD cO ec hb bQ;rw [co l e ab]at hb;rw [co cH aY cO]at bQ;exact am.uniq l cH e aY T T' b ab aD cO ec hb bQ
 ·intro l e T b r cs ab aD hb ai;rw [co l e ab]at hb;have:=am.unbox l e T b r cs ab aD hb ai
  simpa [(kQ r cs ai).1]using this
 ·intro r cs ai;obtain⟨b,vs,T,aK,bd⟩:=am.box r cs ai;exact⟨b,vs,T,by simpa [(kQ r cs ai).1]using aK,bd⟩
 ·intro r cI b cs cs' ai fb hb bQ;exact am.inj r cI b cs cs' ai fb (by simpa [(kQ r cs ai).1]using hb) (by simpa [(kQ cI cs' fb).1]using bQ)
 ·intro r b hb;by_cases bw:r<E
  ·exact bw
  ·simp [bw]at hb
 ·exact am.mem
 ·exact am.m0
 ·exact am.frame
 ·intro r b hb;simp [eh r b hb,am.iL r b hb]
 ·exact am.jm
 ·exact am.h3
def bI.era{env:List (Nat×aW)}{H:List (List aW)}{n:Nat}(h:bI P K M β {env:=env,H:=cX 0 H,aX:=n} tmps w):bI P K M β {env:=env,H:=cX 0 (oD H),aX:=n} tmps w:=by
 refine h.sub rfl (λl e ab=>?_) (λr cs ai=>?_)
 ·cases l with
  |slot s=>exact⟨e,ab,rfl,λ_ h=>h⟩
  |cell r i=>
   simp only [aH.at,nz,oD,List.getElem?_map]at ab ⊢;cases hb:H[r]? with
   |none=>simp [hb]at ab
   |some b=>
    simp only [hb,Option.map_some,Option.bind_some,List.getElem?_map,Option.map_eq_some_iff]at ab;obtain⟨bK,h0,rfl⟩:=ab;exact⟨bK,by simpa using h0,rfl,λT aD=>by cases aD⟩
 ·simp only [nz,oD,List.getElem?_map,Option.map_eq_some_iff]at ai ⊢;obtain⟨b,hb,rfl⟩:=ai;exact⟨b,hb,by simp⟩
def GU{fn:Func}{E:Nat}{ek:Array Value}{w':World}{bY:aH}{M':Mem}{β':Nat→Option Nat}{o:Out}{H':List (List aW)}(cf:fe P tt=true)(eh:∀r b,K.j' r=some b→r<E)(hs:bI P K M' β' bY ek w')
 (ab:Ab.leave tt E fn.results.toList bY=some (o,H')):
 ∃v,(results fn ek).run P w' = .ok v w'∧∃jO M' β',Ending.returned v=q9 o jO∧bI P K M' β' {env:=ih o,H:=cX 0 H',aX:=E} #[jO] w':=by
 unfold Ab.leave at ab;split at ab
 case h_2=>cases ab
 rename_i d own H1 hS wk;rw [Bool.cond_eq_ite]at ab;split at ab
 case isFalse=>cases ab
 rename_i hc;simp only [Bool.and_eq_true]at hc;cases ab
 -- lJ value of lJ results
 have co:∃v,(results fn ek).run P w' = .ok v w'∧cv M' β' v d∧∀T,own=some T→∃l,m3 P K M' β' {env:=gU l bY.env,H:=bY.H,aX:=bY.aX} ek w' (.slot 0) v T∧True:=by
  have hm:∀{vs:List Value},(fn.results.toList.mapM (yS ek)).run P w' = .ok vs w'→
   (results fn ek).run P w' = .ok (if h:vs.length=1 then vs[0]else .tuple ⟨vs⟩) w':=by
   intro vs ny
   have hS:results fn ek=(do let vs ←fn.results.mapM (yS ek);pure (if h:vs.size=1 then vs[0]else .tuple vs)):=by
    unfold results
    congr 2
   rw [hS,show fn.results=⟨fn.results.toList⟩from rfl,List.mapM_toArray]
   simp only [Sem.run_bind,Sem.run_map,ny,Result.andThen_ok,Sem.run_pure];simp
  unfold WJ at hS;split at hS
  ·rename_i t aF;simp only [Option.map_eq_some_iff,Prod.mk.injEq]at hS;obtain⟨e,he,rfl,rfl⟩:=hS;have ie:=hs.e4 (.slot t) e he;refine⟨ek.getD t undef,?_,ie,λT aD=>⟨[t],hs.hand he aD (.slot 0),trivial⟩⟩
   have:=hm (vs:=[ek.getD t undef]) (by rw [aF];rfl)
   simpa using this
  ·rename_i x dL hx;simp only [Option.map_eq_some_iff,Prod.mk.injEq]at hS;obtain⟨dV,jM,rfl,rfl⟩:=hS;obtain⟨v,au,fX⟩:=WK hs cf jM;refine⟨v,?_,fX,by simp⟩
   have:=hm (vs:=[v]) (by rw [hx];simp only [List.mapM_cons,List.mapM_nil,Sem.run_bind,au,Result.andThen_ok,Sem.run_pure])
   simpa using this
  ·simp only [Option.map_eq_some_iff,Prod.mk.injEq]at hS;obtain⟨ds,ii,rfl,rfl⟩:=hS;obtain⟨vs',ny,ab,fX⟩:=WM hs cf ii;refine⟨.tuple ⟨vs'⟩,?_,.cn vs' ds ab fX,by simp⟩
   have dL:vs'.length≠1:=by
    rename_i Z aa;rw [ab,(tZ ii).1];intro bn;obtain⟨x,hx⟩:=List.length_eq_one_iff.1 bn;exact aa x hx
   have:=hm ny
   simpa [dL]using this
 obtain⟨v,eO,fX,fW⟩:=co;obtain⟨Cg,ln⟩:=hs.leave wk hc.2 eh fX hc.1 fW;exact⟨v,eO,v,M',Cg,rfl,ln⟩
def WO{H:List (Nat×List aW)}{r:Nat}{cs:List aW}:∀{l:List Nat},(∀x,x∈l→x≠r)→boxes ((r,cs)::H) l=boxes H l
 |[],_=>rfl
 |x::l,h=>by
  have aM:=WO (H:=H) (cs:=cs) (l:=l) λy b1=>h y (by simp [b1])
  have hx:=h x (by simp)
  simp only [boxes,aM,dC,if_neg (Ne.symm hx)]
def WP{fn:Func}{E:Nat}{ek:Array Value}{w':World}{bY:aH}{M':Mem}{β':Nat→Option Nat}{o:Out}{H':List (List aW)}(cf:fe P tt=true)(eh:∀r b,K.j' r=some b→r<E)(hs:bI P K M' β' bY ek w')
 {c:Nat} (ab:Ab.sz tt E c fn.results.toList bY=some (o,H')):
 ∃v,(results fn ek).run P w' = .ok v w'∧∃jO M' β',Ending.returned v=q9 o jO∧bI P K M' β' {env:=ih o,H:=cX 0 H',aX:=E} #[jO] w':=by
 unfold Ab.sz at ab;split at ab
 case h_2=>cases ab
 rename_i a t aF;split at ab
 case h_2=>cases ab
 rename_i r off er aE ha uj;split at ab
 case h_2=>cases ab
 rename_i cs H1 ai wk;rw [Bool.cond_eq_ite]at ab;split at ab
 case isFalse=>cases ab
 rename_i hc;simp only [Bool.and_eq_true,Nat.ble_eq]at hc;obtain⟨⟨⟨⟨⟨h5,hle⟩,hm⟩,atv⟩,ahv⟩,lK⟩:=hc;cases ab;obtain⟨row⟩:=ev cf uj;obtain⟨b,hb,au⟩:=pm (hs.e4 (.slot a) _ ha);simp only [ce]at au;obtain⟨bE,vs,T,bQ,bn,hlen,_,_,gH,lf⟩:=hs.box r cs ai;rw [hb]at bQ;cases bQ;have po:=MZ hm;have jc:((cs.drop off).take aE.size).length=aE.size:=by simp;omega
 have lH:=ow cs off (((cs.drop off).take aE.size).map λe=>({d:=e.d}:aW)) (by rw [List.length_map,jc];exact hle)
 have q7:∀j,j<aE.size→((cs.drop off).take aE.size)[j]? = cs[off+j]? := λj hj=>by rw [List.getElem?_take,if_pos hj,List.getElem?_drop]
 obtain⟨jn,NM⟩:=hs.VL (T:=c) (size:=aE.size) (off:=off) ai hb bn gH hlen (cs':=setAt cs off (((cs.drop off).take aE.size).map λe=>{d:=e.d})) (λx hx=>by
  rw [po]at hx;obtain⟨_,e,aa,am⟩:=BR _ 0 x hx;rw [Nat.sub_zero]at aa;have bw:x.1<aE.size:=by rw [←jc];exact(List.getElem?_eq_some_iff.1 aa).1
  exact⟨bw,e,by rw [←q7 x.1 bw];exact aa,am⟩) lH.1 (λj aY hj=>by
  rw [lH.2]at hj;rw [List.length_map,jc]at hj;by_cases hi:off≤j∧j<off+aE.size
  ·rw [if_pos hi,List.getElem?_map,Option.map_eq_some_iff]at hj;obtain⟨bK,Z,rfl⟩:=hj;rw [q7 _ (by omega),show off+(j-off)=j by omega]at Z
   exact⟨bK,Z,rfl,λU hJ=>by cases hJ⟩
  ·rw [if_neg hi]at hj;refine⟨aY,hj,rfl,λU hJ=>⟨hJ,λx hx af0=>?_⟩⟩
   rw [po]at hx;obtain⟨_,e,aa,_⟩:=BR _ 0 x hx;rw [Nat.sub_zero]at aa;have bw:x.1<aE.size:=by rw [←jc];exact(List.getElem?_eq_some_iff.1 aa).1
   omega) (.slot 0)
 have eO:(yS ek (.cell a t)).run P w' = .ok (.agg ⟨(vs.drop off).take aE.size⟩) w':=by
  have hu:=Gj (P:=P) (w:=w') row (off:=off) bn (by omega) h5
  show(do loadVar t (←asAddr (ek.getD a undef)):Sem Value).run P w'=_
  rw [au];simpa [Instr.loadAt,Instr.sureAddr,asAddr]using hu
 have fX:cv M' β' (.agg ⟨(vs.drop off).take aE.size⟩) (mX (((cs.drop off).take aE.size).map (·.d))):=by
  refine yy (by simp;omega) (λv au=>gH v (List.mem_of_mem_drop (List.mem_of_mem_take au))) (λi v c au hc=>?_)
  rw [List.getElem?_map,Option.map_eq_some_iff]at hc;obtain⟨e,he,rfl⟩:=hc;rw [List.getElem?_take]at au he;split at au
  ·rename_i hi;rw [if_pos hi,List.getElem?_drop]at he;rw [List.getElem?_drop]at au;have:=hs.e4 (.cell r (off+i)) e (by simp [aH.at,ai,he])
   simpa [ce,hb,cell_of_heap bn,au]using this
  ·cases au
 have hS:(results fn ek).run P w' = .ok (.agg ⟨(vs.drop off).take aE.size⟩) w':=by
  have hS:results fn ek=(do let vs ←fn.results.mapM (yS ek);pure (if h:vs.size=1 then vs[0]else .tuple vs)):=by
   unfold results
   congr 2
  rw [hS,show fn.results=⟨fn.results.toList⟩from rfl,List.mapM_toArray,aF]
  simp only [List.mapM_cons,List.mapM_nil,Sem.run_bind,Sem.run_map,eO,Result.andThen_ok,Sem.run_pure];simp
 obtain⟨sq,ln⟩:=jn.leave (H':=H') (own:=some c) (by
  rw [WO (λx hx=>by have:=List.mem_range.1 hx;omega)];exact wk) lK eh fX ahv (λT aD=>by cases aD;exact⟨[],NM,trivial⟩)
 exact⟨_,hS,_,M',sq,rfl,ln⟩
def WQ{fn:Func}{E:Nat}{ek:Array Value}{w':World}{bY:aH}{M':Mem}{β':Nat→Option Nat}{o:Out}{H':List (List aW)}(cf:fe P tt=true)(eh:∀r b,K.j' r=some b→r<E)(hs:bI P K M' β' bY ek w')
 (ab:Ab.leave tt E fn.results.toList bY=some (o,H')∨∃c,Ab.sz tt E c fn.results.toList bY=some (o,H')):
 ∃v,(results fn ek).run P w' = .ok v w'∧∃jO M' β',Ending.returned v=q9 o jO∧bI P K M' β' {env:=ih o,H:=cX 0 H',aX:=E} #[jO] w':=
 ab.elim (GU cf eh hs) fun⟨_,h⟩=>WP cf eh hs h
def bI.wm{P:Program}{K:Ctx}{M:Mem}{β:Nat→Option Nat}{st:aH}{tmps:Array Value}{w:World}(h:bI P K M β st tmps w)(ds:List Deferred):bI P {K with ds:=ds} M β st tmps w:=
 ⟨h.e4,h.own,h.uniq,h.unbox,h.box,h.inj,h.lt,h.mem,h.m0,h.frame,h.iL,h.jm,h.h3⟩
def NN{args:List D}{er:List (Nat×TypeId)}{H:List (List aW)}{vs:List Value}{n:Nat}(hlen:vs.length=args.length)(cT:bI P K M β {env:=h7 args er,H:=cX 0 H,aX:=H.length} ⟨vs⟩ w):
 bI P K M β {env:=h7 args er,H:=cX 0 H,aX:=H.length} ((⟨vs⟩:Array Value)++Array.replicate n undef) w:=by
 have au:∀l e,({env:=h7 args er,H:=cX 0 H,aX:=H.length}:aH).at l=some e→ce ((⟨vs⟩:Array Value)++Array.replicate (n) undef) w β l=ce ⟨vs⟩ w β l:=by
  intro l e ab;cases l with
  |slot s=>
   simp only [aH.at,h7,nz,BX,Option.map_eq_some_iff]at ab;obtain⟨d,hd,_⟩:=ab;have hs:s<vs.length:=by have:=(List.getElem?_eq_some_iff.1 hd).1;omega
   simp only [ce,Array.getD_eq_getD_getElem?];rw [Array.getElem?_append_left (by simpa using hs)]
  |cell r i=>rfl
 constructor
 ·intro l e ab;rw [au l e ab];exact cT.e4 l e ab
 ·intro l e T ab aD;rw [au l e ab];exact cT.own l e T ab aD
 ·intro l cH e aY T T' b ab aD cO ec hb bQ;rw [au l e ab]at hb;rw [au cH aY cO]at bQ;exact cT.uniq l cH e aY T T' b ab aD cO ec hb bQ
 ·intro l e T b r cs ab aD hb ai;rw [au l e ab]at hb;exact cT.unbox l e T b r cs ab aD hb ai
 ·exact cT.box
 ·exact cT.inj
 ·exact cT.lt
 ·exact cT.mem
 ·exact cT.m0
 ·exact cT.frame
 ·exact cT.iL
 ·exact cT.jm
 ·exact cT.h3
def q_.of_wp {f : FuncId} {fn : Func} {c : Code} {args : List D} {er : List (Nat × TypeId)} {H : List (List aW)} {R : Out → List (List aW) → Prop} (cf : fe P tt = true) (bP : P.funcs[f]? = some fn) (hb : fn.body = some c) (kb : decide (fn.name = "runtime.NumGoroutine") = false)
 (e5:Nat.ble args.length fn.ntmps=true) (h:ba P fn.ntmps H.length c (sA tt H.length fn.results.toList R) {env:=h7 args er,H:=cX 0 H,aX:=H.length}):q_ P f args er H R:=by
 refine⟨⟨fn,bP,by rw [hb];rfl,by simpa using kb⟩,?_⟩
 intro cU w vs M β hlen NO NP
 suffices key:∀K:Ctx,K.ds=[]→bI P K M β {env:=h7 args er,H:=cX 0 H,aX:=H.length} ⟨vs⟩ w→(∀r b,β r=some b→K.j' r=some b)→
  Calls P f ⟨vs⟩ w λe w'=>∃o H' v M' β',R o H'∧e=q9 o v∧bI P K M' β' {env:=ih o,H:=cX 0 H',aX:=H.length} #[v] w' from
  (key {cU with ds:=[]} rfl (NO.wm []) NP).mono λe w' ⟨o,H',v,M',β',Z,aa,am⟩=>⟨o,H',v,M',β',Z,aa,am.wm cU.ds⟩
 intro K ii cT hH;have eh:∀r b,K.j' r=some b→r<H.length:=λr b hb=>cT.lt r b (cT.iL r b hb)
 simp only [Nat.ble_eq]at e5;have ahw:=NN (n:=fn.ntmps-(⟨vs⟩:Array Value).size) hlen cT;have ahx:=h K eh {tmps:=(⟨vs⟩:Array Value)++Array.replicate (fn.ntmps-(⟨vs⟩:Array Value).size) undef,defers:=[]} w ⟨rfl,ii.symm,by simp;omega,M,β,ahw⟩
 refine calls_of_wp bP hb (wp_mono ahx ?_)
 have fin:∀(dv:Act) (w':World) (bY:aH) M' β',bI P K M' β' bY dv.tmps w'→(∃o H',(Ab.leave tt H.length fn.results.toList bY=some (o,H')∨∃c,Ab.sz tt H.length c fn.results.toList bY=some (o,H'))∧R o H')→
  ∃v,(results fn dv.tmps).run P w' = .ok v w'∧∃o H' jO M' β',R o H'∧Ending.returned v=q9 o jO∧bI P K M' β' {env:=ih o,H:=cX 0 H',aX:=H.length} #[jO] w':=by
  intro dv w' bY M' β' hs ⟨o,H',ab,sB⟩;rcases ab with ab|⟨_,ab⟩
  ·obtain⟨v,Z,jO,vQ,sq,aa,am⟩:=GU cf eh hs ab;exact⟨v,Z,o,H',jO,vQ,sq,sB,aa,am⟩
  ·obtain⟨v,Z,jO,vQ,sq,aa,am⟩:=WP cf eh hs ab;exact⟨v,Z,o,H',jO,vQ,sq,sB,aa,am⟩
 rintro e dv w' ⟨fr,bY,Z,aa⟩
 cases fr with
 |normal=>
  obtain⟨rfl,hd,_,M',β',hs⟩:=Z;exact⟨hd.trans ii,fin dv w' bY M' β' hs aa⟩
 |ret=>
  obtain⟨rfl,hd,_,M',β',hs⟩:=Z;exact⟨hd.trans ii,fin dv w' bY M' β' hs aa⟩
 |exit i=>exact aa.elim
 |aJ x=>
  obtain⟨v,rfl,hd,M',β',fX,hs⟩:=Z;obtain⟨H1,ab,sB⟩:=aa;unfold GT at ab;split at ab
  case h_2=>cases ab
  rename_i cE wk;rw [Bool.cond_eq_ite]at ab;split at ab
  case isFalse=>cases ab
  rename_i hc;cases ab;obtain⟨Cg,ln⟩:=hs.leave (own:=none) wk hc eh (.v v x fX) rfl (by simp)
  exact⟨hd.trans ii,.aJ x,oD H1,v,M',Cg,sB,rfl,ln.era⟩
end
end Go.Ab

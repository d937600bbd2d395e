/- The function that writes into an array of its own, step by step. -/
import Derived.Shelf.Spec.SlicesInsertGrow
import Derived.Test.YtndmefekdnfmaaaGreatDoorCtrB
set_option linter.all false
set_option linter.unusedSimpArgs false
set_option linter.unusedVariables false
namespace Go.Ab.Y
open Go Go.Proofs Go.Ab Go.RowKit Go.Lib Tryz
section
variable {P:Program}
def QP(w:World)(c f ty elem:TypeId)(g o h e:Nat)(a:Addr)(d m:Nat)(b:Array Value)(t:TypeId)(cs:List Value)
 (p:P.underlying c=some (.slice elem)) (k:(P.info? elem).map (·.size)=some 2)
 (s:w.heap[g]? = some (.cells b t (0,0))) (q:cs.length=Nat.min d h*2)
 (n:∀j v,cs[j]? = some v->w.cell? (a.add j)=some v) (l:o+cs.length<=b.size) (u:∀v∈cs,v.oneCell'=true):
 (Builtin.copy_ #[c,f] ty #[.slice (some ⟨g,o,none⟩) h e,.slice (some a) d m]).run P w =
  .ok (goInt<|Nat.min d h) (w.setRow g (b.toList.take o++cs++b.toList.drop (o+cs.length)).toArray):=by
 have y:=run_loadCells_list (P:=P) w a cs n;have x:=run_storeCells_at P g o t cs 0 b w s (by simpa using l) u
 cases am:P.info? elem with
 |none=>simp[am]at k
 |some i=>
  have r:i.size=2:=by simpa[am]using k
  simp[Builtin.copy_,run_underlying p,Builtin.lenOf,Builtin.firstCells,sizeOf,typeInfo,am,r,<-q,y,x]
def att{w:World}(t h ty e:TypeId)(i:TypeInfo)(m:P.underlying t=some (.slice e))(hi:P.info? e=some i)(b c g:Nat)(x:Value)(n:Nat)(news:List Value)(f:Src P i.size h x n news w)
 (d:c+n<=g) {a:Array Value} {T:TypeId} (l:w.heap[b]? = some (.cells a T (0,0))) (k:c*i.size+news.length<=a.size):
 (Builtin.append_ #[t,h] ty #[.slice (some ⟨b,0,none⟩) c g,x]).run P w = .ok (.slice (some ⟨b,0,none⟩) (c+n) g)
  (w.setRow b (a.toList.take (c*i.size)++news++a.toList.drop (c*i.size+news.length)).toArray):=by
 have j:=run_storeCells_at P b (c*i.size) T news 0 a w l (by simpa using k) f.one
 simp only[sa]at j;rcases f.kind with⟨o,hk⟩|hk<;>simp[Builtin.append_,run_underlying m,run_underlying hk,sizeOf,typeInfo,hi,f.len,d,f.cells,Addr.add_lit,j]
end
def JL:(prog.info? 95).map (λi=>(i.zero,i.size,i.bytes))=some (some<|.agg #[.string ⟨#[]⟩,.slice none 0 0],2,40):=by kernel_rfl
def ah_{w:World}{vb a c1:Nat}{k u:Value}(e:w.cell? ⟨vb,a,none⟩=some k)(d:w.cell? ⟨vb,a+1,none⟩=some u)(g:k.oneCell'=true)(f:u.oneCell'=true):
 Src prog 2 22 (.slice (some ⟨vb,a,none⟩) 1 c1) 1 [k,u] w:=
 Src.ofSlice w underlying22 ⟨vb,a,none⟩ 1 c1 [k,u] rfl (λj v b=>by
  rw[Addr.add_lit]
  match j with
  | 0=>cases b;exact e
  | 1=>cases b;exact d
  |j+2=>simp at b) (λv c=>by simp at c;rcases c with rfl |rfl;exact g;exact f)
set_option maxHeartbeats 4000000 in
set_option maxRecDepth 100000 in
def atu(w:World)(b n c vb g c1:Nat)(vs:List Value)(k u:Value)(q:w.heap[b]? = some (.cells ⟨vs⟩ 95 (0,0)))(l:vs.length=2*c)(f:n+1<=c)(y:c<=2^63-1)
 (o:w.cell? ⟨vb,g,none⟩=some k) (m:w.cell? ⟨vb,g+1,none⟩=some u) (s:k.oneCell'=true) (r:u.oneCell'=true):
 Calls prog 36 #[.slice (some ⟨b,0,none⟩) n c,.int .i64 n,.slice (some ⟨vb,g,none⟩) 1 c1] w λe t=>
  e = .returned (.slice (some ⟨b,0,none⟩) (n+1) c)/\t=w.setRow b (vs.take (n*2)++[k,u]++vs.drop (n*2+2)).toArray:=by
 let⟨x,p,j,a,i⟩:=info_parts JL
 have d:∀h,(Builtin.append_ #[22,22] h #[.slice (some ⟨b,0,none⟩) n c,.slice (some ⟨vb,g,none⟩) 1 c1]).run prog w = .ok (.slice (some ⟨b,0,none⟩) (n+1) c) (w.setRow b (vs.take (n*2)++[k,u]++vs.drop (n*2+2)).toArray):=λh=>by
  have:=att 22 22 h 95 x underlying22 p b n c _ 1 [k,u] (by rw[a];exact ah_ o m s r (c1:=c1)) f q (by rw[a];simp;omega)
  rw[a]at this;exact this
 generalize w.setRow b (vs.take (n*2)++[k,u]++vs.drop (n*2+2)).toArray=W at d ⊢
 clear q o m l j a i p s r
 go_enter func36,Tryz.ntmps36
 go_wp2_with (at_builtin;refine Lib.wpList_append_run _ rfl _ _ _ _ rfl _ _ rfl rfl _ _ (d _) ?_)
 go_ret
 exact⟨rfl,rfl⟩
set_option maxHeartbeats 4000000 in
set_option maxRecDepth 100000 in
def atv(w:World)(b n c vb l c1:Nat)(vs:List Value)(k u:Value)(x:w.heap[b]? = some (.cells ⟨vs⟩ 95 (0,0)))(p:vs.length=2*c)(B:n<=c)(d:c<n+1)(i:(n+1)*40<=140737488355328)
 (s:w.cell? ⟨vb,l,none⟩=some k) (r:w.cell? ⟨vb,l+1,none⟩=some u) (z:k.oneCell'=true) (y:u.oneCell'=true):
 Calls prog 36 #[.slice (some ⟨b,0,none⟩) n c,.int .i64 n,.slice (some ⟨vb,l,none⟩) 1 c1] w λe A=>
  e = .returned (.slice (some ⟨w.heap.size,0,none⟩) (n+1)<|grownCap w (n+1) c 95)/\A=w.drew.alloc (.cells ((vs.take (n*2)++[k,u]).toArray++Builtin.zeroCells #[.string ⟨#[]⟩,.slice none 0 0] (grownCap w (n+1) c 95-(n+1))) 95):=by
 let⟨q,t,h,f,g⟩:=info_parts JL
 have hold:(Builtin.firstCells q.size n<|.slice (some ⟨b,0,none⟩) n c).run prog w.drew = .ok (vs.take<|n*2).toArray w.drew:=by
  rw[f]
  exact run_firstCells_some w.drew 2 n ⟨b,0,none⟩ n c (vs.take<|n*2) (by rw[jF];omega) (λj v m=>by
   rw[Addr.add_lit,mE];show w.cell? _=_
   rw[cell_of x];rw[ix]at m;split at m
   ·exact m
   ·cases m)
 have a:∀o,(Builtin.append_ #[22,22] o #[.slice (some ⟨b,0,none⟩) n c,.slice (some ⟨vb,l,none⟩) 1 c1]).run prog w = .ok (.slice (some ⟨w.heap.size,0,none⟩) (n+1)<|grownCap w (n+1) c 95) (w.drew.alloc<|.cells ((vs.take (n*2)++[k,u]).toArray++Builtin.zeroCells #[.string ⟨#[]⟩,.slice none 0 0] (grownCap w (n+1) c 95-(n+1))) 95):=λo=>by
  exact run_append_grow_src w 22 22 o 95 q _ underlying22 t h (some ⟨b,0,none⟩) n c (vs.take<|n*2) hold _ 1 [k,u] (by rw[f];exact ah_ s r z y (c1:=c1)) d (by omega) (by rw[g];exact growslice_fits d i)
 generalize w.drew.alloc _=W at a ⊢
 generalize w.heap.size=N at a ⊢
 generalize grownCap w (n+1) c 95=G at a ⊢
 clear x s r p h f g t z y hold
 go_enter func36,Tryz.ntmps36
 go_wp2_with (at_builtin;refine Lib.wpList_append_run _ rfl _ _ _ _ rfl _ _ rfl rfl _ _ (a _) ?_)
 go_ret
 exact⟨rfl,rfl⟩
def QQ:(prog.info? 95).map (·.size)=some 2:=by kernel_rfl
def Zz(b:Nat)(A:Array Value)(w w':World):Prop:=w'.heap[b]? = some (.cells A 95 (0,0))/\(∀x,x≠b->w'.heap[x]? = w.heap[x]?)/\w'.os=w.os/\w'.output=w.output
set_option maxHeartbeats 4000000 in
set_option maxRecDepth 100000 in
def atw(w:World)(b n c i vb c1:Nat)(vs:List Value)(k u:Value)(A:w.heap[b]? = some (.cells ⟨vs⟩ 95 (0,0)))(f:vs.length=2*c)(X:i<n)(H:n+1<=c)(hc:c<=2^63-1)
 (B:∀v∈vs,v.oneCell'=true) (l:w.heap[vb]? = some (.cells ⟨[k,u]⟩ 95 (0,0))) (z:vb≠b) (P:k.oneCell'=true) (O:u.oneCell'=true):
 Calls prog 36 #[.slice (some ⟨b,0,none⟩) n c,.int .i64 i,.slice (some ⟨vb,0,none⟩) 1 c1] w λe R=>
  e = .returned (.slice (some ⟨b,0,none⟩) (n+1) c)/\Zz b (vs.take (i*2)++[k,u]++(vs.drop<|i*2).take ((n-i)*2)++vs.drop ((n+1)*2)).toArray w R:=by
 have I:∀s F K,(callFunc 81 #[.slice (some ⟨vb,0,none⟩) 1 c1,.slice (some ⟨b,s,none⟩) F K]).run prog w = .ok (.value<|.bool false) w:=λs F K=>by
  rw[run_callFunc_extern func81 (by kernel_rfl) (by kernel_rfl) (by kernel_rfl) (e:=Extern.SlicesOverlaps.overlaps #[22,22] #[4])<|by kernel_rfl,
   Lib.run_overlaps_apart w 22 4 95 underlying22 2 (λw=>by kernel_rfl) ⟨vb,0,none⟩ ⟨b,s,none⟩ 1 c1 F K z 95 95 2 (2*c) (by simp[World.shape?,l]) (by simp[World.shape?,A,f]) (by omega) (by simp[World.frozen?,l]) (by simp[World.frozen?,l])]
  rfl
 let d:=(vs.drop<|i*2).take<|(n-i)*2
 have g:d.length=(n-i)*2:=by simp[d,f];omega
 have q:∀r,(Builtin.copy_ #[22,22] r #[.slice (some ⟨b,(i+1)*2,none⟩) (n-i)<|c-(i+1),.slice (some ⟨b,i*2,none⟩) (n+1-i)<|c-i]).run prog w.drew = .ok (goInt ((n-i:Nat):Int)) (w.drew.setRow b (vs.take ((i+1)*2)++d++vs.drop ((i+1)*2+d.length)).toArray):=λr=>by
  have h:=QP w.drew 22 22 r 95 b ((i+1)*2) (n-i) (c-(i+1)) ⟨b,i*2,none⟩ (n+1-i) (c-i) ⟨vs⟩ 95 d underlying22 QQ A (by rw[g,show Nat.min (n+1-i) (n-i)=n-i from Nat.min_eq_right (by omega)])
   (λj v y=>by
    rw[Addr.add_lit];show w.cell? _=_
    rw[cell_of A];simp only[d,ix,jl]at y;split at y
    ·exact y
    ·cases y) (by rw[g];simp[f];omega) (λv l=>B v<|lE<|mI l)
  rw[show Nat.min (n+1-i) (n-i)=n-i from Nat.min_eq_right (by omega)]at h
  exact h
 have a:Zz b (vs.take ((i+1)*2)++d++vs.drop ((i+1)*2+d.length)).toArray w (w.drew.setRow b (vs.take ((i+1)*2)++d++vs.drop ((i+1)*2+d.length)).toArray):=
  ⟨setRow_heap w.drew b _ _ 95 (0,0) A,λx E=>setRow_other w.drew b x _ E,rfl,rfl⟩
 generalize w.drew.setRow b _=W1 at q a
 have aT:vs.take (i*2)++[k,u]++(vs.drop<|i*2).take ((n-i)*2)++vs.drop ((n+1)*2) =
  (vs.take ((i+1)*2)++d++vs.drop ((i+1)*2+d.length)).take (i*2)++[k,u]++(vs.take ((i+1)*2)++d++vs.drop ((i+1)*2+d.length)).drop (i*2+2):=by
  rw[g,eO<|vs.take<|(i+1)*2,sx (by rw[jF];omega),List.take_take,sv<|by omega,show i*2+2=(i+1)*2 by omega,
   List.drop_append,Ay,tL,qj,iK,jF,f,sv<|by omega,tL,gj,<-eO,show(i+1)*2+(n-i)*2=(n+1)*2 by omega]
 rw[aT];have t:(vs.take ((i+1)*2)++d++vs.drop ((i+1)*2+d.length)).length=2*c:=by simp[g,f];omega
 generalize vs.take ((i+1)*2)++d++vs.drop ((i+1)*2+d.length)=m at a t ⊢
 have p:∀(W:World),W.heap=W1.heap->∀r,(Builtin.copy_ #[22,22] r #[.slice (some ⟨b,i*2,none⟩) (n+1-i)<|c-i,.slice (some ⟨vb,0,none⟩) 1 c1]).run prog W = .ok (goInt 1) (W.setRow b (m.take (i*2)++[k,u]++m.drop (i*2+2)).toArray):=λW N r=>by
  have L:Nat.min 1 (n+1-i)=1:=sv (by omega)
  have h:=QP W 22 22 r 95 b (i*2) (n+1-i) (c-i) ⟨vb,0,none⟩ 1 c1 ⟨m⟩ 95 [k,u] underlying22 QQ (by rw[N];exact a.1) (by rw[L];rfl)
   (λj v y=>by
    rw[Addr.add_lit,mE,cell_of (show W.heap[vb]? = some (.cells ⟨[k,u]⟩ 95 (0,0))by rw[N,a.2.1 vb z];exact l)]
    exact y) (by simp[t];omega) (λv l=>by simp at l;rcases l with rfl|rfl;exact P;exact O)
  rw[L]at h;exact h
 have o:∀W:World,W.heap=W1.heap->W.os=W1.os->W.output=W1.output->Zz b (m.take (i*2)++[k,u]++m.drop (i*2+2)).toArray w (W.setRow b (m.take (i*2)++[k,u]++m.drop (i*2+2)).toArray):=λW Q e2 e3=>
  ⟨setRow_heap W b ⟨m⟩ _ 95 (0,0) (by rw[Q];exact a.1),λx E=>(setRow_other W b x _ E).trans (by rw[Q];exact a.2.1 x E),e2.trans a.2.2.1,e3.trans a.2.2.2⟩
 have T:IntKind.i64.wrap ((i:Int)+1)=(i:Int)+1:=by rw[IntKind.wrap_i64];omega
 have hb1:(0:Int)<=(i:Int)+1:=by omega
 have M:i<=n:=by omega
 have U:((i:Int)+1).toNat=i+1:=by omega
 have hb2:¬ (c=i+1):=by omega
 have Z:(i:Int)<=(n:Int)+1:=by omega
 have Y:¬ (c=i):=by omega
 have S:¬ ((i:Int)=(n:Int)):=by omega
 generalize J:(m.take (i*2)++[k,u]++m.drop (i*2+2)).toArray=A2 at p o ⊢
 clear aT J A l f g a t B P O
 go_enter func36,Tryz.ntmps36
 go_wp2_with (simp only[I])
 go_region_law (refine step_copy_runI rfl _ _ 22 22 rfl _ _ (by simp[Act.eval,Act.put]) (by simp[Act.eval,Act.put]) (q _) ?_)
 go_wp2_with (at_builtin;refine wpList_copy_runI _ rfl _ _ 22 22 rfl _ _ rfl rfl (p _ rfl _) ?_)
 go_ret
 exact⟨rfl,o _ rfl rfl rfl⟩
def EI(Z:List Value):Prop:=∀v∈Z,v = .string ⟨#[]⟩\/v = .slice none 0 0
def EJ(n:Nat):EI (Builtin.zeroCells #[.string ⟨#[]⟩,.slice none 0 0] n).toList/\(Builtin.zeroCells #[.string ⟨#[]⟩,.slice none 0 0] n).toList.length=n*2:=by
 constructor
 ·intro v b;simp only[Builtin.zeroCells,Array.toList_map,jk]at b;obtain⟨a,_,rfl⟩:=b;have h:a % 2=0\/a % 2=1:=by omega
  rcases h with h|h
  ·exact .inl (by simp[h])
  ·exact .inr (by simp[h])
 ·simp[Builtin.zeroCells]
def sC(b:Nat)(A:Array Value)(w w':World):Prop:=w'.heap[b]? = some (.cells A 95 (0,0))/\b=w.heap.size/\(∀(x:Nat) (a:Obj),w.heap[x]? = some a->w'.heap[x]? = some a)/\w'.os=w.os/\w'.output=w.output
def sC.set{b:Nat}{A B:Array Value}{w w' W:World}(h:sC b A w w')(c:W.heap=w'.heap)(g:W.os=w'.os)(f:W.output=w'.output):sC b B w (W.setRow b B):=by
 let⟨e,d,j,i,k⟩:=h
 refine⟨setRow_heap W b A B 95 (0,0) (by rw[c];exact e),d,λx l a=>?_,g.trans i,f.trans k⟩
 have m:=(fy.1 a).1;rw[setRow_other W b x B<|by omega,c]
 exact j x l a
def sC.alloc{w:World}{A:Array Value}:sC w.heap.size A w (w.drew.alloc<|.cells A 95):=
 ⟨by show(w.heap.push _)[w.heap.size]? = _;simp,rfl,λx c a=>by
  have b:=(fy.1 a).1;show(w.heap.push _)[x]? = _
  rw[Array.getElem?_push_lt b];rw[<-a];exact(kt b).symm,rfl,rfl⟩
set_option maxHeartbeats 4000000 in
set_option maxRecDepth 100000 in
def atx(w:World)(b n c i vb c1:Nat)(vs:List Value)(k u:Value)(T:w.heap[b]? = some (.cells ⟨vs⟩ 95 (0,0)))(I:vs.length=2*c)(hin:i<n)(hnc:n<=c)(x:c<n+1)(L:(n+1)*40<=140737488355328)
 (Q:∀v∈vs,v.oneCell'=true) (f:w.heap[vb]? = some (.cells ⟨[k,u]⟩ 95 (0,0))) (h1:k.oneCell'=true) (h2:u.oneCell'=true):
 Calls prog 36 #[.slice (some ⟨b,0,none⟩) n c,.int .i64 i,.slice (some ⟨vb,0,none⟩) 1 c1] w λe S=>∃(G:Nat) (Z:List Value),
  e = .returned (.slice (some ⟨w.heap.size,0,none⟩) (n+1) G)/\n+1<=G/\G<=2^63-1/\EI Z/\Z.length=(G-(n+1))*2/\sC w.heap.size (vs.take (i*2)++[k,u]++(vs.drop<|i*2).take ((n-i)*2)++Z).toArray w S:=by
 let⟨i0,hi,H,F,t⟩:=info_parts JL
 have hbl:b<w.heap.size:=(fy.1 T).1;have hvl:vb<w.heap.size:=(fy.1 f).1
 have hold:(Builtin.firstCells i0.size i<|.slice (some ⟨b,0,none⟩) i c).run prog w.drew = .ok (vs.take<|i*2).toArray w.drew:=by
  rw[F]
  exact run_firstCells_some w.drew 2 i ⟨b,0,none⟩ i c (vs.take<|i*2) (by rw[jF];omega) (λj v l=>by
   rw[Addr.add_lit,mE];show w.cell? _=_
   rw[cell_of T];rw[ix]at l;split at l
   ·exact l
   ·cases l)
 have K:(n:Int)+1-(i:Int)=((n+1-i:Nat):Int):=by omega
 have z:i+(n+1-i)=n+1:=by omega
 have p:∀g,(Builtin.append_ #[22,3] g #[.slice (some ⟨b,0,none⟩) i c,.int .i64<|(n:Int)+1-(i:Int)]).run prog w =
  .ok (.slice (some ⟨w.heap.size,0,none⟩) (n+1)<|grownCap w (n+1) c 95) (w.drew.alloc<|.cells ((vs.take<|i*2).toArray++Builtin.zeroCells #[.string ⟨#[]⟩,.slice none 0 0] (n+1-i)++Builtin.zeroCells #[.string ⟨#[]⟩,.slice none 0 0] (grownCap w (n+1) c 95-(n+1))) 95):=λg=>by
  have h:=Lib.run_append_grow_zeros w 22 3 g 95 i0 _ .i64 .i64 underlying22 underlying3 hi H (some ⟨b,0,none⟩) i c (vs.take<|i*2) hold (n+1-i) (by omega) (by omega) (by omega) (by omega) (by rw[t];omega) (by rw[t,z];exact growslice_fits x L)
  rw[z]at h;rw[K];exact h
 have P:n+1<=grownCap w (n+1) c 95:=grownCap_ge w _ _ _
 have s:grownCap w (n+1) c 95<=9223372036854775807:=by
  have:=grownCap_le_maxLen w (n+1) c 95 (by unfold maxLen;omega)
  unfold maxLen at this;omega
 generalize grownCap w (n+1) c 95=G at p P s
 obtain⟨Z,hZ,hZl,hZe⟩:∃Z,EI Z/\Z.length=(G-i)*2/\(vs.take<|i*2).toArray++Builtin.zeroCells #[.string ⟨#[]⟩,.slice none 0 0] (n+1-i)++Builtin.zeroCells #[.string ⟨#[]⟩,.slice none 0 0] (G-(n+1))=(vs.take (i*2)++Z).toArray:=
  ⟨(
   Builtin.zeroCells #[.string ⟨#[]⟩,.slice none 0 0] (n+1-i)).toList++(Builtin.zeroCells #[.string ⟨#[]⟩,.slice none 0 0]<|G-(n+1)).toList,λv f=>by
   rcases jN.1 f with h|h
   ·exact(EJ _).1 v h
   ·exact(EJ _).1 v h,by rw[kv,(EJ _).2,(EJ _).2];omega,by
   apply va;simp⟩
 rw[hZe]at p;have a:=sC.alloc (w:=w) (A:=(vs.take (i*2)++Z).toArray);generalize w.drew.alloc (.cells (vs.take (i*2)++Z).toArray 95)=W1 at p a
 have U:(vs.take (i*2)++Z).length=2*G:=by rw[kv,jF,hZl];omega
 have r:∀(W:World),W.heap=W1.heap->∀g,(Builtin.copy_ #[22,22] g #[.slice (some ⟨w.heap.size,i*2,none⟩) (n+1-i)<|G-i,.slice (some ⟨vb,0,none⟩) 1 c1]).run prog W = .ok (goInt 1) (W.setRow w.heap.size (vs.take (i*2)++[k,u]++Z.drop 2).toArray):=λW M g=>by
  have hm:Nat.min 1 (n+1-i)=1:=sv (by omega)
  have h:=QP W 22 22 g 95 w.heap.size (i*2) (n+1-i) (G-i) ⟨vb,0,none⟩ 1 c1 ⟨vs.take (i*2)++Z⟩ 95 [k,u] underlying22 QQ (by rw[M];exact a.1) (by rw[hm];rfl)
   (λj v l=>by
    rw[Addr.add_lit,mE,cell_of (show W.heap[vb]? = some (.cells ⟨[k,u]⟩ 95 (0,0))by rw[M];exact a.2.2.1 vb _ f)]
    exact l) (by show i*2+2<=(vs.take (i*2)++Z).length;omega) (λv f=>by simp at f;rcases f with rfl|rfl;exact h1;exact h2)
  rw[hm]at h;rw[h];have Y:(vs.take (i*2)++Z).take (i*2)=vs.take (i*2):=by rw[sx (by rw[jF];omega),List.take_take,Nat.min_self]
  have X:(vs.take (i*2)++Z).drop (i*2+2)=Z.drop 2:=by rw[List.drop_append,jF,sv<|by omega,List.drop_eq_nil_of_le (by rw[jF];omega),iK,Nat.add_sub_cancel_left]
  show Result.ok _ (W.setRow _ ((vs.take (i*2)++Z).take (i*2)++[k,u]++(vs.take (i*2)++Z).drop (i*2+2)).toArray)=_
  rw[Y,X];rfl
 have y:Nat.min (n-i) (n-i)=n-i:=sv<|fS _
 let d:=(vs.drop<|i*2).take<|(n-i)*2
 have q:d.length=(n-i)*2:=by simp[d,I];omega
 have o:∀(W V:World),V.heap=W1.heap->W.heap=(V.setRow w.heap.size (vs.take (i*2)++[k,u]++Z.drop 2).toArray).heap->∀g,(Builtin.copy_ #[22,22] g #[.slice (some ⟨w.heap.size,(i+1)*2,none⟩) (n-i)<|G-(i+1),.slice (some ⟨b,i*2,none⟩) (n-i)<|c-i]).run prog W =
  .ok (goInt ((n-i:Nat):Int)) (W.setRow w.heap.size (vs.take (i*2)++[k,u]++d++Z.drop (2+(n-i)*2)).toArray):=λW V hV M g=>by
  have O:=(a.set (B:=(vs.take (i*2)++[k,u]++Z.drop 2).toArray) hV (W:={V with os:=W1.os,output:=W1.output}) rfl rfl)
  have h:=QP W 22 22 g 95 w.heap.size ((i+1)*2) (n-i) (G-(i+1)) ⟨b,i*2,none⟩ (n-i) (c-i) ⟨vs.take (i*2)++[k,u]++Z.drop 2⟩ 95 d underlying22 QQ (by rw[M];exact O.1) (by rw[q,y])
   (λj v l=>by
    rw[Addr.add_lit,cell_of (show W.heap[b]? = some (.cells ⟨vs⟩ 95 (0,0))by rw[M];exact O.2.2.1 b _ T)]
    simp only[d,ix,jl]at l;split at l
    ·exact l
    ·cases l) (by show(i+1)*2+d.length<=(vs.take (i*2)++[k,u]++Z.drop 2).length;simp[q,hZl];omega) (λv f=>Q v<|lE<|mI f)
  rw[y]at h;rw[h];have J:(vs.take (i*2)++[k,u]).length=(i+1)*2:=by rw[kv,jF];simp;omega
  have Y:(vs.take (i*2)++[k,u]++Z.drop 2).take ((i+1)*2)=vs.take (i*2)++[k,u]:=by rw[<-J,List.take_left]
  have X:(vs.take (i*2)++[k,u]++Z.drop 2).drop ((i+1)*2+d.length)=Z.drop (2+(n-i)*2):=by rw[<-J,<-xz,xF,xz,q]
  show Result.ok _ (W.setRow _ ((vs.take (i*2)++[k,u]++Z.drop 2).take ((i+1)*2)++d++(vs.take (i*2)++[k,u]++Z.drop 2).drop ((i+1)*2+d.length)).toArray)=_
  rw[Y,X]
 have m:∀(W V:World),V.heap=W1.heap->V.os=W1.os->V.output=W1.output->W.heap=(V.setRow w.heap.size (vs.take (i*2)++[k,u]++Z.drop 2).toArray).heap->W.os=V.os->W.output=V.output->
  sC w.heap.size (vs.take (i*2)++[k,u]++d++Z.drop (2+(n-i)*2)).toArray w (W.setRow w.heap.size (vs.take (i*2)++[k,u]++d++Z.drop (2+(n-i)*2)).toArray):=λW V a1 a2 a3 a4 a5 a6=>
  (a.set (B:=(vs.take (i*2)++[k,u]++Z.drop 2).toArray) a1 a2 a3).set a4 a5 a6
 have E:EI (Z.drop<|2+(n-i)*2)/\(Z.drop<|2+(n-i)*2).length=(G-(n+1))*2:=⟨λv f=>hZ v<|lE f,by rw[od,hZl];omega⟩
 refine Calls.mono (R:=λe S=>e = .returned (.slice (some ⟨w.heap.size,0,none⟩) (n+1) G)/\sC w.heap.size (vs.take (i*2)++[k,u]++d++Z.drop (2+(n-i)*2)).toArray w S) ?_ λe S ⟨g1,g2⟩=>⟨G,_,g1,P,s,E.1,E.2,g2⟩
 clear E;generalize (vs.take (i*2)++[k,u]++Z.drop 2).toArray=A2 at r o m
 generalize w.heap.size=N at *
 have hw1:IntKind.i64.wrap ((i:Int)+1)=(i:Int)+1:=by rw[IntKind.wrap_i64];omega
 have hb1:(0:Int)<=(i:Int)+1:=by omega
 have hinl:i<=n:=by omega
 have htn:((i:Int)+1).toNat=i+1:=by omega
 have t:¬ ((i:Int)=(n:Int)):=by omega
 have hz3:(c:Int)<(n:Int)+1:=by omega
 have hGi:¬ (G=i):=by omega
 have hGim:¬ (G=i+1):=by omega
 have hci:¬ (c=i):=by omega
 have hb3:(i:Int)<=(n:Int):=by omega
 generalize (vs.take (i*2)++[k,u]++d++Z.drop (2+(n-i)*2)).toArray=A3 at o m ⊢
 clear T I f Q h1 h2 hi H F hold K z hZ hZl hZe a U q y
 go_enter func36,Tryz.ntmps36
 go_wp2_with (first
  |(at_builtin;refine Lib.wpList_append_run _ rfl _ _ _ _ rfl _ _ rfl rfl _ _ (p _) ?_)
  |(at_builtin;refine wpList_copy_runI _ rfl _ _ 22 22 rfl _ _ rfl rfl (r _ rfl _) ?_))
 go_region_law (refine step_copy_runI rfl _ _ 22 22 rfl (.slice (some ⟨N,(i+1)*2,none⟩) (n-i)<|G-(i+1)) (.slice (some ⟨b,i*2,none⟩) (n-i)<|c-i) (by simp[Act.eval,Act.put]) (by simp[Act.eval,Act.put]) (o (W1.setRow N A2).drew W1 rfl rfl _) ?_)
 go_wp2
 go_ret
 exact⟨rfl,m _ W1 rfl rfl rfl rfl rfl rfl⟩
def AD{v:Value}(h:pd v=true):v.oneCell'=true:=by cases v<;>first|rfl|cases h
def ZA{Z:List Value}(h:EI Z):∀v∈Z,pd v=true:=λv a=>by rcases h v a with rfl|rfl<;>rfl
structure RowsIn(M:Mem)(cap:Nat)(R:List Row)(vs:List Value):Prop where
 len:vs.length=2*cap
 le:R.length<=cap
 jv:∀v∈vs,pd v=true
 key:∀i r,R[i]? = some r->vs[i*2]? = some (.string ⟨⟨r.Key⟩⟩)
 rj:∀i r,R[i]? = some r->∃u,vs[i*2+1]? = some u/\cY M u (ai 4 eu r.aR)
def RowsIn.mono{M M':Mem}(c:M.le M'){cap:Nat}{R:List Row}{vs:List Value}(h:RowsIn M cap R vs):RowsIn M' cap R vs:=
 ⟨h.len,h.le,h.jv,h.key,λi r d=>let ⟨u,b,a⟩:=h.rj i r d;⟨u,b,a.mono c⟩⟩
def RowsIn.insert{M:Mem}{cap cap' i:Nat}{R:List Row}{vs rest:List Value}{r:Row}{u:Value}(h:RowsIn M cap R vs)(hi:i<=R.length)(f:pd u=true)(l:cY M u<|ai 4 eu r.aR)
 (Lz:∀v∈rest,pd v=true) (n:rest.length=(cap'-(R.length+1))*2) (o:R.length+1<=cap'):
 RowsIn M cap' (R.take i++r::R.drop i) (vs.take (i*2)++[.string ⟨⟨r.Key⟩⟩,u]++(vs.drop<|i*2).take ((R.length-i)*2)++rest):=by
 have hlen:=h.len;have g:=h.le;have e:(vs.take<|i*2).length=i*2:=by rw[jF];omega
 have hd:((vs.drop<|i*2).take<|(R.length-i)*2).length=(R.length-i)*2:=by rw[jF,od];omega
 have c:∀j,j<(R.length+1)*2->(vs.take (i*2)++[.string ⟨⟨r.Key⟩⟩,u]++(vs.drop<|i*2).take ((R.length-i)*2)++rest)[j]? = if j<i*2 then vs[j]? else if j<i*2+2 then[.string ⟨⟨r.Key⟩⟩,u][j-i*2]? else vs[j-2]? := λj a=>by
  rw[eO,eO];by_cases b:j<i*2
  ·rw[eI b,iw<|by omega,ix,eI b]
  ·rw[de b,jE<|by omega,e]
   by_cases h2:j<i*2+2
   ·rw[eI h2,iw (by simp;omega)]
   ·rw[de h2,jE (by simp;omega),iw (by rw[hd];simp;omega),ix,eI (by simp;omega),jl]
    congr 1
    simp;omega
 have d:∀j q,(R.take i++r::R.drop i)[j]? = some q->j<R.length+1/\((j<i/\R[j]? = some q)\/(j=i/\q=r)\/(i<j/\R[j-1]? = some q)):=λj q a=>by
  have k:=(eR.1 a).1;rw[kv,jF,mX,od,sv hi]at k;refine⟨by omega,?_⟩
  by_cases b:j<i
  ·rw[iw (by rw[jF];omega),ix,eI b]at a
   exact .inl ⟨b,a⟩
  ·rw[jE (by rw[jF];omega),jF,sv hi]at a
   by_cases h2:j=i
   ·subst h2;rw[tL]at a;cases a;exact .inr<|.inl ⟨rfl,rfl⟩
   ·obtain⟨m,hm⟩:∃m,j-i=m+1:=⟨j-i-1,by omega⟩
    rw[hm,kW,jl]at a;refine .inr<|.inr ⟨by omega,?_⟩
    rw[show j-1=i+m by omega];exact a
 refine⟨by rw[kv,kv,kv,e,hd,n];simp;omega,by rw[kv,jF,mX,od];omega,λv hv=>?_,λj q a=>?_,λj q a=>?_⟩
 ·rcases jN.1 hv with hv|hv
  ·rcases jN.1 hv with hv|hv
   ·rcases jN.1 hv with hv|hv
    ·exact h.jv v<|mI hv
    ·simp at hv;rcases hv with rfl|rfl;rfl;exact f
   ·exact h.jv v<|lE<|mI hv
  ·exact Lz v hv
 ·obtain⟨b,h2|⟨rfl,rfl⟩|h2⟩:=d j q a
  ·rw[c _<|by omega,eI<|by omega];exact h.key j q h2.2
  ·rw[c _<|by omega,de<|by omega,eI<|by omega,tL];rfl
  ·rw[c _<|by omega,de<|by omega,de<|by omega,show j*2-2=(j-1)*2 by omega];exact h.key _ q h2.2
 ·obtain⟨b,h2|⟨rfl,rfl⟩|h2⟩:=d j q a
  ·rw[c _<|by omega,eI<|by omega];exact h.rj j q h2.2
  ·rw[c _<|by omega,de<|by omega,eI<|by omega,Nat.add_sub_cancel_left];exact⟨u,rfl,l⟩
  ·rw[c _<|by omega,de<|by omega,de<|by omega,show j*2+1-2=(j-1)*2+1 by omega];exact h.rj _ q h2.2
def aty(b:Nat)(w w':World):Prop:=(∀(x:Nat) (a:Obj),x≠b->w.heap[x]? = some a->w'.heap[x]? = some a)/\w'.os=w.os/\w'.output=w.output
def atz{M:Mem}{w:World}{b vb c c1 i:Nat}{R:List Row}{vs:List Value}{r:Row}{u:Value}(k:w.heap[b]? = some (.cells ⟨vs⟩ 95 (0,0)))(dK:RowsIn M c R vs)(y:c<=2^63-1)(hi:i<=R.length)
 (g:(R.length+1)*40<=140737488355328) (d:w.heap[vb]? = some (.cells ⟨[.string ⟨⟨r.Key⟩⟩,u]⟩ 95 (0,0))) (F:vb≠b) (f:pd u=true) (B:cY M u<|ai 4 eu r.aR):
 Calls prog 36 #[.slice (some ⟨b,0,none⟩) R.length c,.int .i64 i,.slice (some ⟨vb,0,none⟩) 1 c1] w λe j=>∃z J l,e = .returned (.slice (some ⟨z,0,none⟩) (R.length+1) J)/\
  j.heap[z]? = some (.cells ⟨l⟩ 95 (0,0))/\RowsIn M J (R.take i++r::R.drop i) l/\J<=2^63-1/\(z=b\/z=w.heap.size)/\aty b w j:=by
 have hlen:=dK.len;have m:=dK.le;have T:b<w.heap.size:=(fy.1 k).1;have p:∀v∈vs,v.oneCell'=true:=λv d=>AD<|dK.jv v d
 by_cases n:i<R.length
 ·by_cases a:R.length+1<=c
  ·refine(atw w b R.length c i vb c1 vs (.string ⟨⟨r.Key⟩⟩) u k hlen n a y p d F rfl<|AD f).mono ?_
   rintro e j ⟨rfl,I,O,L,K⟩
   exact⟨b,c,_,rfl,I,dK.insert hi f B (λv d=>dK.jv v<|lE d) (by rw[od];omega) a,y,.inl rfl,λx t E h=>(O x E).trans h,L,K⟩
  ·refine(atx w b R.length c i vb c1 vs (.string ⟨⟨r.Key⟩⟩) u k hlen n m (by omega) g p d rfl<|AD f).mono ?_
   rintro e j ⟨G,Z,rfl,Y,X,W,U,I,O,L,K,aO⟩
   exact⟨_,G,_,rfl,I,dK.insert hi f B (ZA W) U Y,X,.inr rfl,λx t _ h=>L x t h,K,aO⟩
 ·obtain rfl:i=R.length:=by omega
  have N:w.cell? ⟨vb,0,none⟩=some (.string ⟨⟨r.Key⟩⟩):=cell_of d 0;have s:w.cell? ⟨vb,0+1,none⟩=some u:=cell_of d 1;have Q:(vs.drop<|R.length*2).take ((R.length-R.length)*2)=[]:=by rw[tL];rfl
  by_cases a:R.length+1<=c
  ·refine(atu w b R.length c vb 0 c1 vs (.string ⟨⟨r.Key⟩⟩) u k hlen a y N s rfl<|AD f).mono ?_
   rintro e j ⟨rfl,rfl⟩
   have q:=dK.insert (cap':=c) (rest:=vs.drop<|R.length*2+2) hi f B (λv d=>dK.jv v<|lE d) (by rw[od];omega) a
   rw[Q,gJ]at q;exact⟨b,c,_,rfl,setRow_heap w b ⟨vs⟩ _ 95 (0,0) k,q,y,.inl rfl,λx t E h=>(setRow_other w b x _ E).trans h,rfl,rfl⟩
  ·refine(atv w b R.length c vb 0 c1 vs (.string ⟨⟨r.Key⟩⟩) u k hlen m (by omega) g N s rfl<|AD f).mono ?_
   rintro e j ⟨rfl,rfl⟩
   have H:R.length+1<=grownCap w (R.length+1) c 95:=grownCap_ge w _ _ _
   have o:grownCap w (R.length+1) c 95<=9223372036854775807:=by
    have:=grownCap_le_maxLen w (R.length+1) c 95 (by unfold maxLen;omega)
    unfold maxLen at this;omega
   have q:=dK.insert (cap':=grownCap w (R.length+1) c 95) (rest:=(Builtin.zeroCells #[.string ⟨#[]⟩,.slice none 0 0]<|grownCap w (R.length+1) c 95-(R.length+1)).toList) hi f B (ZA (EJ _).1) (EJ _).2 H
   rw[Q,gJ]at q
   have S:(vs.take (R.length*2)++[.string ⟨⟨r.Key⟩⟩,u]).toArray++Builtin.zeroCells #[.string ⟨#[]⟩,.slice none 0 0] (grownCap w (R.length+1) c 95-(R.length+1)) =
    ⟨vs.take (R.length*2)++[.string ⟨⟨r.Key⟩⟩,u]++(Builtin.zeroCells #[.string ⟨#[]⟩,.slice none 0 0]<|grownCap w (R.length+1) c 95-(R.length+1)).toList⟩:=by
    apply va;simp
   rw[S];have P:=sC.alloc (w:=w) (A:=⟨vs.take (R.length*2)++[.string ⟨⟨r.Key⟩⟩,u]++(Builtin.zeroCells #[.string ⟨#[]⟩,.slice none 0 0]<|grownCap w (R.length+1) c 95-(R.length+1)).toList⟩)
   exact⟨_,_,_,rfl,P.1,q,o,.inr rfl,λx t _ h=>P.2.2.1 x t h,rfl,rfl⟩
open T
set_option maxRecDepth 20000
def xJ(M:Mem)(N b:Nat)(w:World):Mem:=λa o=>if a<N then M a o else if a=b then none else w.cell? ⟨a,o,none⟩
abbrev ma(b n c:Nat):Value:=.slice (some ⟨b,0,none⟩) n c
abbrev mF(b o:Nat):Value:=.pointer (some ⟨b,o,none⟩)
abbrev f7(d:D):aS:=⟨d,none⟩
def atA(n:Nat):EI (madeCells #[.string ⟨#[]⟩,.slice none 0 0]<|n*2).toList/\(madeCells #[.string ⟨#[]⟩,.slice none 0 0]<|n*2).toList.length=n*2:=by
 constructor
 ·intro v b;simp only[madeCells,Array.toList_map,jk]at b;obtain⟨a,_,rfl⟩:=b;have h:a % 2=0\/a % 2=1:=by omega
  rcases h with h|h
  ·exact .inl (by simp[h])
  ·exact .inr (by simp[h])
 ·simp[madeCells]
def vU(s:aq)(u:Value)(i:Int):aA:=
 {
  env:=[(1,aJ 0 0),(2,aJ 1 0),(3,f7<|.ex u .any),(11,al 2 bm s.Rows),(12,ab s.Rows.length),(13,ab i)],
  H:=[(0,[ab s.bu,ab s.bi,al 2 bm s.Rows]),(1,[ab 0,ab 0,al 2 bm []])],aD:=2}
def e9{l:List (Nat×aS)}{H:List (Nat×List aS)}{n:Nat}(h:((l.all λx=>x.2.own.isNone)&&(H.all λx=>x.2.all λe=>e.own.isNone))=true):l2 {env:=l,H:=H,aD:=n}:=by
 simp only[cb,gK,ud]at h;intro q e a;cases q with
 |slot s=>exact h.1 (s,e) (nT a)
 |cell r i=>
  simp only[aA.at]at a;cases af:look H r with
  |none=>rw[af]at a;cases a
  |some b=>rw[af]at a;exact h.2 (r,b) (nT af) e (hA a)
def isSp:D->Bool
 |.cn _ _ _=>true
 |_=>false
def mb{l:List (Nat×aS)}{H:List (Nat×List aS)}{n:Nat}(h:((l.all λx=>!isSp x.2.d)&&(H.all λx=>x.2.all λe=>!isSp e.d))=true):ze {env:=l,H:=H,aD:=n}:=by
 simp only[cb,gK,hh]at h;intro q e a r o u hd
 have:isSp e.d=false:=by
  cases q with
  |slot s=>exact h.1 (s,e) (nT a)
  |cell r i=>
   simp only[aA.at]at a;cases af:look H r with
   |none=>rw[af]at a;cases a
   |some b=>rw[af]at a;exact h.2 (r,b) (nT af) e<|hA a
 rw[hd]at this;cases this
def aib(M:Mem)(w:World):Ctx:={s_:=M,F:=λx=>w.heap[x]?,hE:=λ_=>none,gz:=(w.os,w.output),ds:=[]}
def atB{M:Mem}{w:World}{v:Value}{x:V}{t0:Array Value}(m:t0.getD 0 undef=v)(k:cY M v x)(j:∀b o u,M b o=some u->w.cell? ⟨b,o,none⟩=some u)(t:ta prog<|λx=>w.heap[x]?):
 bh prog (aib M w) M (λ_=>none) {env:=[(0,f7<|.v x)],H:=[],aD:=0} t0 w:=by
 have g:=e9 (l:=[(0,f7<|.v x)]) (H:=[]) (n:=0) rfl
 constructor
 ·intro l e a;cases l with
  |slot q=>
   simp only[aA.at,du]at a;split at a
   ·rename_i s;subst s;cases a;show cg _ _ (t0.getD 0 undef) _
    rw[m];exact .v _ _ k
   ·cases a
  |cell r i=>cases a
 ·intro l e T a c;rw[g l e a]at c;cases c
 ·intro l y e B T E b a c;rw[g l e a]at c;cases c
 ·intro l e T b r h a c f d;cases d
 ·intro r h d;cases d
 ·intro r z b h p d;cases d
 ·intro r b f;cases f
 ·exact j
 ·exact Mem.le_refl _
 ·exact λb A e=>⟨e,λ_=>rfl⟩
 ·intro r b e;cases e
 ·exact t
 ·rfl
def RowsIn.put{M:Mem}{cap i:Nat}{R R':List Row}{vs:List Value}{r:Row}{u:Value}(h:RowsIn M cap R vs)(m:R'.length<=cap)(hi:i<cap)(hne:∀j q,j≠i->R'[j]? = some q->R[j]? = some q)(d:∀q,R'[i]? = some q->q=r)
 (e:pd u=true) (l:cY M u<|ai 4 eu r.aR):RowsIn M cap R' (vs.take (i*2)++[.string ⟨⟨r.Key⟩⟩,u]++vs.drop (i*2+2)):=by
 have hlen:=h.len;have c:=yx (vs:=vs) (us:=[.string ⟨⟨r.Key⟩⟩,u]) (off:=i*2) (by simp;omega)
 simp only[mX,yp]at c;refine⟨by simp;omega,m,λv hv=>?_,λj q b=>?_,λj q b=>?_⟩
 ·rcases jN.1 hv with hv|hv
  ·rcases jN.1 hv with hv|hv
   ·exact h.jv v<|mI hv
   ·simp at hv;rcases hv with rfl|rfl;rfl;exact e
  ·exact h.jv v<|lE hv
 ·rw[c];by_cases a:j=i
  ·subst a;rw[eI<|by omega,d q b];simp
  ·rw[de<|by omega];exact h.key j q<|hne j q a b
 ·by_cases a:j=i
  ·subst a;rw[d q b];exact⟨u,by rw[c,eI<|by omega];simp,l⟩
  ·let⟨f,k,g⟩:=h.rj j q<|hne j q a b
   exact⟨f,by rw[c,de<|by omega];exact k,g⟩
def AE{M:Mem}{β:Nat->Option Nat}{v u:Value}{x:V}(h:cg M β v<|.ex u x):v=u:=by cases h;rfl
def aic{P:Program}{w w':World}{a:Act}{o:Oper}{t:TypeId}{x y:Operand}{b v:Value}(e:o.op = .store t x y)(d:a.eval x=b)(c:a.eval y=v)(h:(Instr.storeAt t b v).run P w = .ok () w'):(execOp a.eval o).run P w = .ok .skip w':=by
 simp only[execOp,e,d,c];simp[h]
def aid{id:Nat}{X Y:Act->World->Prop}{Q:Exit->Act->World->Prop}{a:Act}{w:World}(h:Q .normal a w):Exit.then X (Exit.then Y (Exit.inBlock id Q)) (.exit id) a w:=by
 show(if id=id then _ else _)
 rw[eI rfl];exact h
def QR{M:Mem}{u:Value}{k n:Nat}{get:Nat->V}(h:cY M u<|.bP k n get):pd u=true:=by
 rcases u1 (M:=M) (β:=λ_=>none) (.v _ _ h) with⟨h1|⟨a,h1⟩,_⟩|h1
 ·subst h1;rfl
 ·subst h1;rfl
 ·obtain⟨b,c,d,val,rfl,_⟩:=h1;rfl
set_option maxHeartbeats 1000000 in
def atC{M:Mem}{w:World}{v:Value}{s:aq}(hv:cY M v<|Uy s)(tc:∀b o u,M b o=some u->w.cell? ⟨b,o,none⟩=some u)(ZB:ta prog<|λx=>w.heap[x]?)(cU:zl s.Rows=true):
 Calls prog 34 #[v] w λe w'=>∃b I,e = .returned (.agg ⟨[.int .i64 s.bu,.int .i64 s.bi,.slice (some ⟨b,0,none⟩) s.Rows.length s.Rows.length]⟩)/\w.heap.size<=b/\w'.heap[b]? = some (.cells ⟨I⟩ 95 (0,0))/\
  RowsIn (xJ M w.heap.size b w') s.Rows.length s.Rows I/\(∀(x:Nat) (f:Obj),w.heap[x]? = some f->w'.heap[x]? = some f)/\(w'.os,w'.output)=(w.os,w.output):=by
 refine calls_of_wp func34 rfl ?_;obtain⟨t0,AF⟩:∃t0,#[v]++Array.replicate (Tryz.f34.ntmps-(#[v]:Array Value).size) undef=t0:=⟨_,rfl⟩;rw[AF];have atD:t0.size=34:=by rw[<-AF];simp[Tryz.ntmps34]
 have gD:=atB (t0:=t0) (w:=w) (by rw[<-AF];simp[fi]) hv tc ZB
 clear AF;obtain⟨co,AG⟩:∃co,co=aib M w:=⟨_,rfl⟩;rw[<-AG]at gD;have Z:∀r b,co.hE r=some b->False:=by subst AG;intro r b e;cases e
 show Code.wp _ _ _ ⟨t0,[]⟩ w
 rw[show[]=co.ds by subst AG;rfl]
 -- jX aC4 box, jX aC5
 refine wp_seq (ae0 eL gD atD (λr b e=>(Z r b e).elim) [] (ps:=[])
  {env:=[(1,aJ 0 0),(2,aJ 1 0)],H:=[(0,[ab s.bu,ab s.bi,al 2 bm s.Rows]),(1,[ab 0,ab 0,al 2 bm []])],aD:=2}
  (rZ 2) (by kernel_rfl) all_nil (by kernel_rfl) λt1 l1 nr o7 hz1 h1=>?_)
 refine wp_seq (Us eL 3 (by decide) h1 hz1 (λr b e=>(Z r b e).elim) [] (ps:=[])
  {env:=[(1,aJ 0 0),(2,aJ 1 0),(8,ab s.Rows.length)],H:=[(0,[ab s.bu,ab s.bi,al 2 bm s.Rows]),(1,[ab 0,ab 0,al 2 bm []])],aD:=2}
  (fS 2) (by kernel_rfl) all_nil (by kernel_rfl) λt2 c M2 e6 L h2=>?_)
 show wpOps _ _ _ [3,4] _ _
 -- jX new array
 have hn:t2.getD 8 undef = .int .i64 s.Rows.length:=jC<|h2.dp (.slot 8) _ rfl
 simp only[zl,cb,gK]at cU
 let⟨JM,JN⟩:=cU
 have hroom:=BW JM
 let⟨i0,hi,rR,EL,FW⟩:=info_parts JL
 have pS:(Instr.makeSlice 22 (.int .i64 s.Rows.length)<|.int .i64 s.Rows.length).run prog c = .ok (ma c.heap.size s.Rows.length s.Rows.length) (c.alloc<|.cells (madeCells #[.string ⟨#[]⟩,.slice none 0 0]<|s.Rows.length*2) 95):=by
  have:=run_make (P:=prog) c 22 95 i0 _ underlying22 hi rR .i64 .i64 s.Rows.length s.Rows.length (by omega) (wV _) (by rw[FW];omega) (by omega)
  rw[EL]at this;exact this
 refine Ci rfl rfl (v:=.slice (some ⟨c.heap.size,0,none⟩) s.Rows.length s.Rows.length) (w':=c.alloc<|.cells (madeCells #[.string ⟨#[]⟩,.slice none 0 0]<|s.Rows.length*2) 95) (by simp[execOp,Act.eval,hn,pS]) ?_
 refine Ci rfl rfl (v:=.slice (some ⟨c.heap.size,0,none⟩) s.Rows.length s.Rows.length) (w':=c.alloc<|.cells (madeCells #[.string ⟨#[]⟩,.slice none 0 0]<|s.Rows.length*2) 95) (by simp[execOp,Act.eval,Act.put,fi,L]) ?_
 have QS:co.F=λx=>w.heap[x]? := by subst AG;rfl
 have aC6:w.heap.size<=c.heap.size:=by
  rcases yn c.heap.size w.heap.size with O|BS
  ·have X:=(h2.frame c.heap.size _ (by rw[QS];exact kt O)).1
   have:=(fy.1 X).1
   omega
  ·exact BS
 obtain⟨b,hb⟩:∃b,b=c.heap.size:=⟨_,rfl⟩;have pe:∀o,M2 b o=none:=λo=>by rw[hb];exact h2.BO o
 have o4:co.F b=none:=by rw[QS];exact xG (by omega)
 have lx:∀r cs,look [(0,[ab s.bu,ab s.bi,al 2 bm s.Rows]),(1,[ab 0,ab 0,al 2 bm []])] r=some cs->e6 r≠some b:=λr cs y e=>by
  let⟨bj,_,_,g1,g2,_⟩:=h2.box r cs y
  rw[e]at g1;cases g1;have:=(fy.1 g2).1
  omega
 rw[<-hb];have ZC:=sC.alloc (w:=c) (A:=madeCells #[.string ⟨#[]⟩,.slice none 0 0]<|s.Rows.length*2)
 have atE:c.alloc (.cells (madeCells #[.string ⟨#[]⟩,.slice none 0 0]<|s.Rows.length*2) 95)={c with heap:=c.heap.push (.cells (madeCells #[.string ⟨#[]⟩,.slice none 0 0]<|s.Rows.length*2) 95)}:=rfl
 have JO:(c.alloc<|.cells (madeCells #[.string ⟨#[]⟩,.slice none 0 0]<|s.Rows.length*2) 95).heap[b]? = some (.cells ⟨(madeCells #[.string ⟨#[]⟩,.slice none 0 0]<|s.Rows.length*2).toList⟩ 95 (0,0)):=by rw[hb];exact ZC.1
 have hold:∀(x:Nat) (f:Obj),x≠b->c.heap[x]? = some f->(c.alloc<|.cells (madeCells #[.string ⟨#[]⟩,.slice none 0 0]<|s.Rows.length*2) 95).heap[x]? = some f:=λx f _ m=>ZC.2.2.1 x f m
 have X:=h2.Cj pe o4 lx (e9 rfl) hold rfl
 let⟨pT,W⟩:=atA s.Rows.length
 generalize (madeCells #[.string ⟨#[]⟩,.slice none 0 0]<|s.Rows.length*2).toList=ZD at JO pT W
 generalize c.alloc _=aif at X JO hold ⊢
 obtain⟨u,hu⟩:∃u,u=Value.slice (some ⟨b,0,none⟩) s.Rows.length s.Rows.length:=⟨_,rfl⟩;rw[<-hu];have lR:u.oneCell'=true:=by rw[hu];rfl
 have ay:=(X.put (t:=9) (v:=u) (e:=f7<|.ex u .any) (by omega) (.ex u .any (.any u lR) lR)<|λT R=>by cases R).put (t:=3) (v:=u) (e:=f7<|.ex u .any) (by simp;omega) (.ex u .any (.any u lR) lR) (λT R=>by cases R)
 have K:((t2.setIfInBounds 9 u).setIfInBounds 3 u).size=34:=by simpa using L
 show Code.wp _ _ _ ⟨(t2.setIfInBounds 9 u).setIfInBounds 3 u,co.ds⟩ _
 generalize (t2.setIfInBounds 9 u).setIfInBounds 3 u=t3 at ay K ⊢
 have atF:RowsIn M2 s.Rows.length (s.Rows.take 0) ZD:=⟨by omega,by simp,ZA pT,(λi r y=>by simp at y),λi r y=>by simp at y⟩
 clear pT W hold atE ZC pS X hn;refine wp_seq<|wp_seq<|qW eL ay K ⟨JO,pe,o4,lx⟩ (e9 rfl) [] (ps:=[]) (vU s u 0) (e9 rfl) (mb rfl) (fS 2) (by kernel_rfl) all_nil (by kernel_rfl) λt4 aC7 atG atH ZE atI aO QT=>?_
 have atJ:=atF.mono atI
 refine wp_block (wp_loop (λa w'=>∃M β I i,a.tmps.size=34/\a.defers=co.ds/\i<=s.Rows.length/\bh prog co M β (vU s u (i:Nat)) a.tmps w'/\iJ co M β (vU s u (i:Nat)) w' b I 95/\RowsIn M s.Rows.length (s.Rows.take i) I)
  (λa _=>s.Rows.length-(match a.tmps.getD 13 undef with|.int _ j=>j.toNat|_=>0)) ⟨atG,atH,ZD,0,ZE,rfl,rZ _,aO,QT,atJ⟩ ?_)
 rintro ⟨vV,JP⟩ atK ⟨atL,atM,fZ,i,sD,qk,atN,ha,QU,JQ⟩
 have sD:vV.size=34:=sD;have qk:JP=co.ds:=qk;subst qk;have atO:vV.getD 13 undef = .int .i64 (i:Nat):=jC<|ha.dp (.slot 13) _ rfl
 refine wp_seq (qW eL ha sD QU (e9 rfl) [] (ps:=[])
  {env:=[(1,aJ 0 0),(2,aJ 1 0),(3,f7<|.ex u .any),(11,al 2 bm s.Rows),(12,ab s.Rows.length),(13,ab (i:Nat)),(14,dh<|decide<|(i:Int)<s.Rows.length)],H:=(vU s u 0).H,aD:=2}
  (e9 rfl) (mb rfl) (fS 2) (by kernel_rfl) all_nil (by kernel_rfl) λZF atP ZG atQ JR QV bV f=>?_)
 have atR:ZF.getD 14 undef = .bool (decide<|(i:Int)<s.Rows.length):=rT<|bV.dp (.slot 14) _ rfl
 refine wp_seq<|wp_cond_split (t:=decide<|(i:Int)<s.Rows.length) atR (λQ=>?_)<|λQ=>?_
 ·have Q:=ky Q;refine wp_skip ?_;have O:i<s.Rows.length:=by omega
  obtain⟨r,y⟩:∃r,s.Rows.getD i default=r:=⟨_,rfl⟩;have QW:s.Rows[i]? = some r:=by rw[<-y,ie,ed O];rfl
  have hin:aP (i:Int) s.Rows.length=true:=adk ⟨by omega,by omega⟩
  refine wp_seq<|wp_block<|wp_seq ?_
  refine qW eL bV JR f (e9 rfl) [.raw] (ps:=[aP (i:Int) s.Rows.length=true])
   {env:=[(1,aJ 0 0),(2,aJ 1 0),(3,f7<|.ex u .any),(11,al 2 bm s.Rows),(12,ab s.Rows.length),(13,ab (i:Nat)),(4,ab (i:Nat)),(5,aJ 2 0)],H:=(vU s u 0).H++[(2,[aU<|(s.Rows.getD i default).Key,al 4 eu (s.Rows.getD i default).aR])],aD:=3}
   (e9 rfl) (mb rfl) (Nat.le_succ 2) (by kernel_rfl) (all_cons hin all_nil) (by kernel_rfl) λatS atT atU atV ZH ZI hc AH=>?_
  rw[y]at hc AH
  have N:P3 0 r.aR=some ([]++r.aR):=by
   have B_:room (([]:List Br).length+r.aR.length) 40=true:=by
    have:=JN r<|hA QW
    simpa using this
   unfold P3 ao;rw[B_];rfl
  refine aeW eL w4 8 (by kernel_rfl) (by decide) hc ZH AH (e9 rfl) [(6,[aW (ahV N) []])]
   {env:=[(1,aJ 0 0),(2,aJ 1 0),(3,f7<|.ex u .any),(11,al 2 bm s.Rows),(12,ab s.Rows.length),(13,ab (i:Nat)),(18,f7<|.ex u .any),(19,ab (i:Nat)),(25,f7<|.v<|bm ⟨r.Key,[]++r.aR⟩)],H:=(vU s u 0).H++[(2,[aU r.Key,al 4 eu r.aR])],aD:=3}
   (e9 rfl) (mb rfl) (fS 3) (by kernel_rfl) (all_cons (ahV N) all_nil) (by kernel_rfl) λB g aig atW QX ZJ hd p=>?_
  show wpOps _ _ _ [8,9] _ _
  have QY:B.getD 18 undef=u:=AE<|hd.dp (.slot 18) _ rfl
  have atX:B.getD 19 undef = .int .i64 (i:Nat):=jC<|hd.dp (.slot 19) _ rfl
  have Y:=Sy<|hd.dp (.slot 25) _ rfl
  let⟨us,Y,BP,aih,JT⟩:=Y
  obtain⟨dZ,d,rfl⟩:∃dZ d,us=[dZ,d]:=by
   match us,BP with
   |[dZ,d],_=>exact⟨dZ,d,rfl⟩
  have u3:=np (β:=λ_=>none)<|.v _ _<|JT 0 _ _ rfl rfl
  have nq:=JT 1 _ _ rfl rfl;subst u3;have Y:B.getD 25 undef = .agg ⟨[.string ⟨⟨r.Key⟩⟩,d]⟩:=Y
  let⟨dN⟩:=et eL (t:=22) rfl
  let⟨qd⟩:=et eL (t:=95) rfl
  refine Ci rfl rfl (v:=.pointer<|some ⟨b,i*2,none⟩) (w':=g) ?_ ?_
  ·have EM:=SC (w:=g) dN rfl qd (k:=.i64) (j:=(i:Nat)) (b:=b) (off:=0) (n:=s.Rows.length) (cap:=s.Rows.length) (by omega) (by omega)
   simp[execOp,Act.eval,QY,atX,hu,EM]
  have JU:=JQ.mono<|Mem.le_trans QV<|Mem.le_trans ZI ZJ
  have atY:∀hI∈(Value.agg ⟨[.string ⟨⟨r.Key⟩⟩,d]⟩).cells.toList,hI.oneCell'=true:=λhI oE=>aih hI oE
  have c8:=FV (w:=g) qd p.heap (v:=.agg ⟨[.string ⟨⟨r.Key⟩⟩,d]⟩) (off:=i*2) rfl atY (by show i*2+2<=_;have:=JU.len;omega)
  have vc:(Value.agg ⟨[.string ⟨⟨r.Key⟩⟩,d]⟩).cells.toList=[.string ⟨⟨r.Key⟩⟩,d]:=rfl;rw[vc]at c8;obtain⟨l,JV⟩:∃l,l=fZ.take (i*2)++[.string ⟨⟨r.Key⟩⟩,d]++fZ.drop (i*2+2):=⟨_,rfl⟩;have c8:(Instr.storeAt 95 (mF b<|i*2)<|.agg ⟨[.string ⟨⟨r.Key⟩⟩,d]⟩).run prog g = .ok () (g.setRow b ⟨l⟩):=by rw[JV];exact c8
  have QZ:RowsIn aig s.Rows.length (s.Rows.take<|i+1) l:=by
   rw[JV];have:=JU.put (i:=i) (R':=s.Rows.take<|i+1) (r:=⟨r.Key,[]++r.aR⟩) (u:=d) (by simp;omega) O (λj q hj J=>?_) (λq J=>?_) (QR nq) nq
   ·exact this
   ·rw[ix]at J ⊢;split at J
    ·rw[eI<|by omega];exact J
    ·cases J
   ·rw[ix,eI<|by omega,QW]at J
    cases J;rfl
  have ZK:(g.setRow b ⟨l⟩).heap[b]? = some (.cells ⟨l⟩ 95 (0,0)):=setRow_heap g b _ _ 95 (0,0) p.heap;have pQ:=hd.Cj (w':=g.setRow b ⟨l⟩) p.mem p.sc p.box (e9 rfl) (λx f m hw=>(setRow_other g b x _ m).trans hw) rfl
  have he:=pQ.put (t:=26) (v:=.pointer<|some ⟨b,i*2,none⟩) (e:=f7<|.ex (mF b<|i*2) .any) (by omega) (.ex _ .any (.any _ rfl) rfl) (λT R=>by cases R)
  have ZL:(B.setIfInBounds 26<|mF b<|i*2).size=34:=by simpa using QX
  refine ae1 rfl rfl (w':=g.setRow b ⟨l⟩) ?_ ?_
  ·have m3:(Act.put ⟨B,co.ds⟩ (some 26)<|mF b<|i*2).eval (.tmp 26) = .pointer (some ⟨b,i*2,none⟩):=by simp[Act.eval,Act.put,fi,QX]
   have qM:(Act.put ⟨B,co.ds⟩ (some 26)<|mF b<|i*2).eval (.tmp 25) = .agg ⟨[.string ⟨⟨r.Key⟩⟩,d]⟩:=by rw[<-Y];simp[Act.eval,Act.put,fi]
   exact aic rfl m3 qM c8
  ·show Code.wp _ _ _ ⟨B.setIfInBounds 26<|mF b<|i*2,co.ds⟩ _
   refine qW eL he ZL ⟨ZK,p.mem,p.sc,p.box⟩ (e9 rfl) [] (ps:=[])
    {vU s u (IntKind.i64.wrap<|(i:Int)+1)with H:=(vU s u 0).H++[(2,[aU r.Key,al 4 eu r.aR])],aD:=3}
    (e9 rfl) (mb rfl) (fS 3) (by kernel_rfl) all_nil (by kernel_rfl) λxL wf JW Q0 sF JX z of=>?_
   rw[show IntKind.i64.wrap ((i:Int)+1)=((i+1:Nat):Int)by rw[IntKind.wrap_i64];omega]at z of
   let⟨xM,hg,pt⟩:=z.Ms (s:=vU s u ((i+1:Nat):Int)) of (e9 rfl) (e9 rfl) (by kernel_rfl)<|λr b e=>(Z r b e).elim
   have atZ:xL.getD 13 undef = .int .i64 ((i+1:Nat):Int):=jC<|hg.dp (.slot 13) _ rfl
   refine⟨⟨JW,xM,l,i+1,sF,rfl,O,hg,pt,QZ.mono JX⟩,?_⟩
   ·show _-(match xL.getD 13 undef with|.int _ j=>j.toNat|_=>0)<_-(match vV.getD 13 undef with|.int _ j=>j.toNat|_=>0)
    rw[atO,atZ];show s.Rows.length-(i+1)<s.Rows.length-i
    omega
 ·have Q:=oU Q;have rO:i=s.Rows.length:=by omega
  subst rO;refine wp_exit ?_;refine aid ?_
  refine wp_seq (qW eL bV JR f (e9 rfl) [] (ps:=[])
   {env:=[(2,aJ 1 0)],H:=[(1,[ab s.bu,ab s.bi,f7<|.ex u .any])],aD:=2}
   (e9 rfl) (mb rfl) (fS 2) (by kernel_rfl) all_nil (by kernel_rfl) λxL wf JW Q0 sF JX z of=>?_)
  refine wp_ret ?_
  let⟨U,at0,ku,M',β',ZM,gC⟩:=Gp (fn:=Tryz.f34) (E:=0) (o:=.ret (.agg [.v<|.int .i64 s.bu,.v<|.int .i64 s.bi,.ex u .any]) none) (H':=[]) eL (λr b e=>(Z r b e).elim) z (by kernel_rfl)
  cases ZM;refine⟨by rw[AG];rfl,U,at0,b,fZ,?_,?_,of.heap,?_,?_,?_⟩
  ·have hG:=gC.dp (.slot 0) _ rfl;have hG:cg M' β' U (.agg [.v<|.int .i64 s.bu,.v<|.int .i64 s.bi,.ex u .any]):=hG
   cases hG with
   |agg I cs hn h1 h=>
    match I,hn with
    |[at1,aC8,aC9],_=>
     have e1:=jC<|h 0 _ _ rfl rfl
     have e2:=jC<|h 1 _ _ rfl rfl
     have e3:=AE<|h 2 _ _ rfl rfl
     subst e1 e2 e3;rw[hu]
  ·omega
  ·have AI:=JQ.mono<|Mem.le_trans QV JX
   rw[rH]at AI;refine AI.mono λbc o v e=>?_
   unfold xJ;by_cases m:bc<w.heap.size
   ·rw[eI m];have bG:=(z.frame bc _ (by rw[QS];exact kt m)).2 o
    rw[show co.s_=M by rw[AG];rfl]at bG
    rw[<-bG];exact e
   ·rw[de m];by_cases S:bc=b
    ·subst S;rw[of.mem]at e;cases e
    ·rw[de S];exact z.mem _ _ _ e
  ·exact λx f m=>(z.frame x f (by rw[QS];exact m)).1
  ·have:=z.gz
   rw[show co.gz=(w.os,w.output)by rw[AG];rfl]at this
   exact this
def at2(w:World)(k:ByteArray)(u:Value)(o:pd u=true):(Instr.buildSlice 22 1 #[(0,.agg ⟨[.string k,u]⟩)]).run prog w = .ok (.slice (some ⟨w.heap.size,0,none⟩) 1 1) {w with heap:=w.heap.push (.cells ⟨[.string k,u]⟩ 95 (0,0))}:=by
 let⟨j⟩:=et eL (t:=22) rfl
 let⟨c⟩:=et eL (t:=95) rfl
 let⟨s,p,e,n,m⟩:=info_parts JL
 have r:c.z = .agg #[.string ⟨#[]⟩,.slice none 0 0]:=by
  have h:=c.dQ;have g:=c.hi;rw[p]at g;cases g;rw[e]at h;exact(ju h).symm
 have x:(u.cells:Array Value) = #[u]:=by cases u<;>first|rfl|cases o
 simp only[Instr.buildSlice,Sem.run_bind,j.run_underlying,qG j rfl,Result.andThen_ok,c.run_sizeOf];simp[c.FR,r,newRow]
 have f:∀d:Array Value,d.size=2->Instr.fill (λi=>some (i*2,2)) d [(0,Value.agg ⟨[.string k,u]⟩)]=some ⟨[.string k,u]⟩:=λd q=>by
  let⟨l⟩:=d
  match l,q with
  |[a,b],_=>simp[Instr.fill,Value.cells]
 rw[f _<|by simp]
 rfl
def RowsIn.rep{M:Mem}{cap b:Nat}{R:List Row}{vs:List Value}(h:RowsIn M cap R vs)(s:∀o,M b o=none):cY (nx M b vs) (.slice (some ⟨b,0,none⟩) R.length cap) (ai 2 bm R):=by
 have hlen:=h.len;have l:=h.le;have q:∀i,i<R.length->∃r,R[i]? = some r/\R.getD i default=r:=λi a=>⟨R[i],ed a,by rw[ie,ed a];rfl⟩
 have g:∀i j,i<R.length->j<2->∃v,vs[i*2+j]? = some v/\vs.getD (i*2+j) undef=v:=λi j a k=>by
  have n:i*2+j<vs.length:=by omega
  exact⟨vs[i*2+j],ed n,by rw[ie,ed n];rfl⟩
 refine .bP b 0 2 R.length cap _ (λi j=>vs.getD (i*2+j) undef) l (λi a=>rfl) (λi j a k=>?_) (λi j a k=>?_)<|λi j c a e=>?_
 ·let⟨v,d,f⟩:=g i j a k
  show(if b=b then vs[0+i*2+j]? else _)=some (vs.getD (i*2+j) undef)
  rw[eI rfl,f,mE,d]
 ·let⟨v,d,f⟩:=g i j a k
  show(vs.getD (i*2+j) undef).oneCell'=true
  rw[f];exact AD<|h.jv v<|hA d
 ·let⟨r,p,hd⟩:=q i a
  simp only[hd]at e
  match j,e with
  | 0,e=>
   cases e
   let⟨v,d,f⟩:=g i 0 a (by omega)
   have m:=h.key i r p;rw[sa]at d;rw[m]at d;cases d;show cY _ (vs.getD (i*2+0) undef) _
   rw[f];exact .str _
  | 1,e=>
   cases e
   let⟨v,d,f⟩:=g i 1 a (by omega)
   let⟨u,m,t⟩:=h.rj i r p
   rw[m]at d;cases d;show cY _ (vs.getD (i*2+1) undef) _
   rw[f];exact t.mono<|zg s
  |j+2,e=>cases e
def RowsIn.at4{M:Mem}{cap i:Nat}{R:List Row}{vs:List Value}{r:Row}{V:List Br}{u:Value}(h:RowsIn M cap R vs)(hi:R[i]? = some r)(f:pd u=true)(m:cY M u<|ai 4 eu V):
 RowsIn M cap (R.set i ⟨r.Key,V⟩) (vs.take (i*2+1)++[u]++vs.drop (i*2+2)):=by
 have hlen:=h.len;have d:=h.le;have e:=(eR.1 hi).1;have c:=yx (vs:=vs) (us:=[u]) (off:=i*2+1) (by simp;omega)
 simp only[mX,yp]at c;refine⟨by simp;omega,by simpa using d,λv hv=>?_,λj q a=>?_,λj q a=>?_⟩
 ·rcases jN.1 hv with hv|hv
  ·rcases jN.1 hv with hv|hv
   ·exact h.jv v<|mI hv
   ·simp at hv;subst hv;exact f
  ·exact h.jv v<|lE hv
 ·rw[c,de<|by omega]
  rw[List.getElem?_set]at a;by_cases b:i=j
  ·subst b;rw[eI rfl,eI e]at a;cases a;exact h.key i r hi
  ·rw[de b]at a;exact h.key j q a
 ·rw[List.getElem?_set]at a;by_cases b:i=j
  ·subst b;rw[eI rfl,eI e]at a;cases a;exact⟨u,by rw[c,eI<|by omega];simp,m⟩
  ·rw[de b]at a
   let⟨g,l,k⟩:=h.rj j q a
   exact⟨g,by rw[c,de<|by omega];exact l,k⟩
set_option maxRecDepth 20000
def nF(s:aq)(a:Int)(W:List aQ)(u:Value)(i:Int):aA:=
 {
  env:=[(1,ab a),(3,aJ 0 0),(6,aJ 1 0),(8,aJ 2 0),(37,al 4 cc W),(38,ab W.length),(39,ab i)],
  H:=[(0,[ab s.bu,ab s.bi,f7<|.v .any]),(1,[f7<|.v .any,f7<|.v .any,f7<|.v .any]),(2,[ab s.bu,ab a,f7<|.ex u .any])],aD:=3}
def jP(s:aq)(a:Int)(u:Value)(x:V)(p:aQ)(H2:List<|Nat×List aS):List (Nat×List aS):=
 (0,[ab s.bu,ab s.bi,f7<|.v .any])::(1,[f7<|.v .any,f7<|.v .any,f7<|.v .any])::(2,[ab s.bu,ab a,f7<|.ex u x])::(3,[aU p.Key,ab p.aY.Cc,ab p.aY.N,aU p.aY.S])::H2
def i'(s:aq)(a:Int)(W:List aQ)(u:Value)(i:Int)(l:List<|Nat×aS)(x:V)(p:aQ)(H2:List<|Nat×List aS)(k:Nat):aA:=
 {env:=(nF s a W u i).env++(10,aJ 3 0)::l,H:=jP s a u x p H2,aD:=k}
def at5{s:aq}{a:Int}{u:Value}{y:V}{p:aQ}{H2:List (Nat×List aS)}{r i:Nat}{e:aS}(h:(look (jP s a u y p H2) r).bind (·[i]?)=some e):
 (r=2/\i=2/\e=f7 (.ex u y))\/∀x,(look (jP s a u x p H2) r).bind (·[i]?)=some e:=by
 unfold jP at h ⊢;by_cases b:r=2
 ·subst b
  match i,h with
  | 0,h=>exact .inr λ_=>h
  | 1,h=>exact .inr λ_=>h
  | 2,h=>cases h;exact .inl ⟨rfl,rfl,rfl⟩
  |i+3,h=>cases h
 ·refine .inr λx=>?_
  rw[<-h];simp only[du,de<|Ne.symm b]
def aik{s:aq}{a:Int}{W:List aQ}{u:Value}{b:Int}{l:List (Nat×aS)}{y:V}{p:aQ}{H2:List (Nat×List aS)}{k:Nat}{q:Loc}{e:aS}(h:(i' s a W u b l y p H2 k).at q=some e):
 (q = .cell 2 2/\e=f7 (.ex u y))\/∀x,(i' s a W u b l x p H2 k).at q=some e:=by
 cases q with
 |slot t=>exact .inr λ_=>h
 |cell r i=>
  have f:(look (jP s a u y p H2) r).bind (·[i]?)=some e:=by
   simp only[aA.at]at h;cases af:look (jP s a u y p H2) r with
   |none=>rw[show(i' s a W u b l y p H2 k).H=jP s a u y p H2 from rfl,af]at h;cases h
   |some d=>rw[show(i' s a W u b l y p H2 k).H=jP s a u y p H2 from rfl,af]at h;exact h
  rcases at5 f with⟨rfl,rfl,h1⟩|h1
  ·exact .inl ⟨rfl,h1⟩
  ·refine .inr λx=>?_
   have c:=h1 x;simp only[aA.at];cases af:look (jP s a u x p H2) r with
   |none=>rw[af]at c;cases c
   |some d=>rw[show(i' s a W u b l x p H2 k).H=jP s a u x p H2 from rfl,af];rw[af]at c;exact c
def Q1{s:aq}{a:Int}{u:Value}{x y:V}{p:aQ}{H2:List (Nat×List aS)}:∀r cs,look (jP s a u y p H2) r=some cs->∃c,look (jP s a u x p H2) r=some c/\c.length=cs.length:=λr cs b=>by
 unfold jP at b ⊢;by_cases d:r=2
 ·subst d;cases b;exact⟨_,rfl,rfl⟩
 ·refine⟨cs,?_,rfl⟩
  rw[<-b];simp only[du,de<|Ne.symm d]
def ZN{K:Ctx}{M:Mem}{β:Nat->Option Nat}{c:Array Value}{w:World}{b cap:Nat}{vs:List Value}{R:List Row}{s:aq}{a:Int}{W:List aQ}{u:Value}{d:Int}{l:List (Nat×aS)}{p:aQ}{H2:List (Nat×List aS)}{k:Nat}
 (h:bh prog K M β (i' s a W u d l .any p H2 k) c w) (o:iJ K M β (i' s a W u d l .any p H2 k) w b vs 95) (j:l2<|i' s a W u d l .any p H2 k) (g:ze<|i' s a W u d l .any p H2 k) (m:RowsIn M cap R vs) (f:u = .slice (some ⟨b,0,none⟩) R.length cap):
 Mr prog K M β (i' s a W u d l .any p H2 k) (i' s a W u d l (ai 2 bm R) p H2 k) c w b vs:=by
 refine⟨rfl,λq e n=>?_,Q1⟩
 rcases aik n with⟨rfl,rfl⟩|h1
 ·have i:=AE<|h.dp (.cell 2 2) (f7<|.ex u .any) rfl
  refine⟨rfl,nofun,?_⟩
  rw[i];have:=m.rep o.mem
  rw[<-f]at this;exact .ex _ _ this (by rw[f];rfl)
 ·exact⟨j q e<|h1 .any,g q e<|h1 .any,(h.dp q e<|h1 .any).mono<|zg o.mem⟩
def xN(t:Nat)(e:aS):Bool:=e.own.isNone&&(!isSp e.d&&(Uk e.d||(Nat.beq t 37||Nat.beq t 14)))
def at6{d:D}(h:isSp d=false):∀r o u,d ≠ .cn r o u:=by
 rintro r o u rfl
 cases h
def ZO{K:Ctx}{M2:Mem}{w:Nat->Option Nat}{A:Array Value}{E:World}{b:Nat}{s:aq}{a:Int}{W:List aQ}{u:Value}{j:Int}{l:List (Nat×aS)}{x:V}{p:aQ}{H2:List (Nat×List aS)}{k:Nat}
 (h2:bh prog K M2 w (i' s a W u j l x p H2 k) A E) (O:∀o v,M2 b o=some v->pd v=true) (T:(l.all λq=>xN q.1 q.2 && !Nat.beq q.1 37)=true) (L:∀e,look l 14=some e->∃y,e=al 4 eu y) (S:(H2.all λq=>q.2.all λe=>xN 0 e)=true) (P:u.oneCell'=true):
 ∀q e,(i' s a W u j l .any p H2 k).at q=some e->e.own=none/\(∀r o u,e.d ≠ .cn r o u)/\cg (ji M2 b) w (ch A E w q) e.d:=by
 intro q e M
 have eQ:∀e,xN 0 e=true->(i' s a W u j l x p H2 k).at q=some e->e.own=none/\(∀r o u,e.d ≠ .cn r o u)/\cg (ji M2 b) w (ch A E w q) e.d:=λe z M=>by
  simp only[xN,cb,mu,ud,hh]at z;refine⟨z.1,at6 z.2.1,apC (h2.dp q e M) ?_⟩
  rcases z.2.2 with ah|ah|ah
  ·exact ah
  ·cases ah
  ·cases ah
 rcases aik M with⟨rfl,rfl⟩|h1
 ·have ah:=AE<|h2.dp (.cell 2 2) (f7<|.ex u x) rfl
  exact⟨rfl,nofun,by rw[ah];exact .ex _ _ (.any _ P) P⟩
 ·have g:=h1 x;cases q with
  |slot t=>
   have f:look ((nF s a W u j).env++(10,aJ 3 0)::l) t=some e:=g;simp only[nF,gk,iK,du]at f;split at f
   ·cases f;exact eQ _ rfl g
   split at f
   ·cases f;exact eQ _ rfl g
   split at f
   ·cases f;exact eQ _ rfl g
   split at f
   ·cases f;exact eQ _ rfl g
   split at f
   ·cases f;refine⟨rfl,nofun,.v _ _<|aeR (nn<|h2.dp _ _ g) (λa=>⟨1,.i64,a.aY.Cc,by decide,rfl⟩) (λa c n=>?_) O<|Mem.le_refl _⟩
    simp only[cc,V.cells,gh,nj,ri]at n;rcases n with rfl|rfl|rfl|rfl<;>rfl
   split at f
   ·cases f;exact eQ _ rfl g
   split at f
   ·cases f;exact eQ _ rfl g
   split at f
   ·cases f;exact eQ _ rfl g
   have B:=gK.1 T _<|nT f
   simp only[cb,hh]at B;by_cases Q:t=14
   ·subst Q;obtain⟨y,rfl⟩:=L e f;refine⟨rfl,nofun,.v _ _<|aeR (nn<|h2.dp _ _ g) (λa=>⟨0,.i64,a.br,by decide,rfl⟩) (λa c n=>?_) O<|Mem.le_refl _⟩
    simp only[eu,V.cells,gh,nj,ri]at n;rcases n with rfl|rfl|rfl|rfl<;>rfl
   ·refine eQ _ ?_ g;have J:t≠37:=λe=>by have:=B.2;rw[e]at this;cases this
    have F:Nat.beq t 37=false:=by cases hb:Nat.beq t 37 with|false=>rfl|true=>exact absurd (Nat.eq_of_beq_eq_true hb) J
    have R:Nat.beq t 14=false:=by cases hb:Nat.beq t 14 with|false=>rfl|true=>exact absurd (Nat.eq_of_beq_eq_true hb) Q
    have N:=B.1;unfold xN at N ⊢;rw[F,R]at N;exact N
  |cell r i=>
   refine eQ e ?_ g
   have X:∃h,look (jP s a u x p H2) r=some h/\h[i]? = some e:=by
    simp only[aA.at]at g;cases af:look (jP s a u x p H2) r with
    |none=>rw[show(i' s a W u j l x p H2 k).H=jP s a u x p H2 from rfl,af]at g;cases g
    |some h=>rw[show(i' s a W u j l x p H2 k).H=jP s a u x p H2 from rfl,af]at g;exact⟨h,rfl,g⟩
   have m:=h1 .any
   have I:∃h,look (jP s a u .any p H2) r=some h/\h[i]? = some e:=by
    simp only[aA.at]at m;cases af:look (jP s a u .any p H2) r with
    |none=>rw[show(i' s a W u j l .any p H2 k).H=jP s a u .any p H2 from rfl,af]at m;cases m
    |some h=>rw[show(i' s a W u j l .any p H2 k).H=jP s a u .any p H2 from rfl,af]at m;exact⟨h,rfl,m⟩
   let⟨h,ah,U⟩:=I
   have aT:((jP s a u .any p H2).all λq=>q.2.all λe=>xN 0 e)=true:=by
    have F:((jP s a u .any p H2).all λq=>q.2.all λe=>xN 0 e)=(H2.all λq=>q.2.all λe=>xN 0 e):=rfl
    rw[F];exact S
   exact gK.1 (gK.1 aT _<|nT ah) e (hA U)
def aim {P : Program} {w : World} {a : Act} {o : Oper} {c : Call} {fn : FuncId} {fd : Func} (h : o.op = .call c) (f : c.callee = .value (.func fn)) (i : P.funcs[fn]? = some fd) (b : fd.body.isSome = true) (e : fd.name ≠ "runtime.NumGoroutine") :
 (execOp a.eval o).run P w = .ok (.enter fn ⟨c.args.toList.map a.eval⟩) w:=by
 have d:fd.body≠none:=by intro g;rw[g]at b;cases b
 simp[execOp,h,resolve,f,Act.eval,Deferred.ofValue,invoke,callFunc,i,d,e];apply va;simp
def aua{P:Program}{w w':World}{a:Act}{o:Oper}{t:TypeId}{m:Nat}{x:Operand}{v r:Value}(c:o.op = .buildSlice t m #[(0,x)])(b:a.eval x=v)(h:(Instr.buildSlice t m #[(0,v)]).run P w = .ok r w'):(execOp a.eval o).run P w = .ok (.value r) w':=by
 simp[execOp,c,b,h]
def aub{P:Program}{w w':World}{a:Act}{o:Oper}{t:TypeId}{x y:Operand}{v b r:Value}(e:o.op = .indexAddr t x y)(c:a.eval x=v)(d:a.eval y=b)(h:(Instr.indexAt t v b).run P w = .ok r w'):(execOp a.eval o).run P w = .ok (.value r) w':=by
 simp[execOp,e,c,d,h]
def auc{P:Program}{w w':World}{a:Act}{o:Oper}{t:TypeId}{x:Operand}{f:Nat}{v r:Value}(c:o.op = .fieldAddr t x f)(b:a.eval x=v)(h:(Instr.fieldAt t v f).run P w = .ok r w'):(execOp a.eval o).run P w = .ok (.value r) w':=by
 simp[execOp,c,b,h]
def Q2{a:Act}{t s:Nat}{v:Value}(h:t≠s):(a.put (some t) v).eval (.tmp s)=a.eval (.tmp s):=by
 simp[Act.eval,Act.put,fi,oH h]
def put_eq{a:Act}{t:Nat}{v:Value}(h:t<a.tmps.size):(a.put (some t) v).eval (.tmp t)=v:=by
 simp[Act.eval,Act.put,fi,h]
def Q3{M:Mem}{β:Nat->Option Nat}{v:Value}{d:D}(h:cg M β v d)(hd:∃x,d = .v x/\x.isAgg=false):cg M β v (.v .any):=by
 obtain⟨x,rfl,a⟩:=hd;refine .v _ _<|.any _ ?_
 cases h with
 |v _ _ h=>cases h<;>first |rfl |(cases a;done) |assumption
def aud{K:Ctx}{M:Mem}{β:Nat->Option Nat}{st st':aA}{w:World}{b:Nat}{vs:List Value}{T:TypeId}(o:iJ K M β st w b vs T)(d:∀r cs,look st'.H r=some cs->∃a,look st.H r=some a/\a.length=cs.length):iJ K M β st' w b vs T:=
 ⟨o.heap,o.mem,o.sc,λr cs f=>let ⟨e,c,_⟩:=d r cs f;o.box r e c⟩
def shape{H H':List (Nat×List aS)}(h:H.map (λx=>(x.1,x.2.length))=H'.map (λx=>(x.1,x.2.length))):∀r cs,look H' r=some cs->∃c,look H r=some c/\c.length=cs.length:=by
 induction H' generalizing H with
 |nil=>intro r cs a;cases a
 |cons y H' e=>
  cases H with
  |nil=>cases h
  |cons x H=>
   let⟨g,j⟩:=x
   let⟨f,i⟩:=y
   simp only[kz,wY,ll]at h;intro r cs a;rw[du]at a ⊢;obtain⟨⟨rfl,d⟩,h⟩:=h;split at a
   ·rename_i b;rw[eI b];cases a;exact⟨_,rfl,d⟩
   ·rename_i b;rw[de b];exact e h r cs a
set_option maxRecDepth 20000
abbrev vW(a b:bJ):Bool:=decide (a.Cc=b.Cc)&&(decide (a.N=b.N)&&(decide (a.S=b.S)&&true))
abbrev sG(n:Nat):=w6 (Ea n) (p7 n)
abbrev n6(a:Int)(p:aQ):List (Nat×List aS):=[(4,[ab a,ab p.aY.Cc,ab p.aY.N,aU p.aY.S])]
abbrev aT(s:aq):List (Nat×List aS):=[(0,[ab s.bu,ab s.bi,al 2 bm s.Rows]),(1,[ab 0,ab 0,al 2 bm []])]
set_option maxHeartbeats 2000000 in
theorem ath{n:Nat}{s:aq}{at_:Int}{writes:List aQ}{r:aq×Int}(h:xu n s at_ writes=some r):gn Tryz.prog 9 [.v (.agg [.int .i64 s.bu,.int .i64 s.bi,ai 2 bm s.Rows]),bg at_,cZ 4 cc writes] [] [] (aM (.cw [.v (.agg [.int .i64 r.1.bu,.int .i64 r.1.bi,ai 2 bm r.1.Rows]),bg r.2])) []:=by
 refine(aN (F:=xu n s at_ writes) (out:=λr=>aM (.cw [.v (.agg [.int .i64 r.1.bu,.int .i64 r.1.bi,ai 2 bm r.1.Rows]),bg r.2])) (H2:=λ_=>[]) Tryz.func9 rfl ?_).of h
 clear h r
 intro r
 refine G (bw (GR λh=>?_))
 unfold xu at h
 obtain⟨r1,im,h⟩:=bind_some h
 obtain⟨r2,eH,h⟩:∃r2,((!r1)=false→gn Tryz.prog 33 [cZ 4 cc writes] [] [] (aM (bX r2)) [])∧(bif (bif !r1 then true else !r2)then some ((⟨0,0,[]⟩:aq),1) else
  bif decide (at_≤s.bi)||decide (1099511627776<at_)then some ((⟨0,0,[]⟩:aq),16) else
  ao (zl s.Rows)<|ao (bF writes.length)<|Option.bind (sG n at_ s.bi writes s.Rows) λR=>some ((⟨s.bu,at_,R⟩:aq),0))=some r:=by
  cases r1 with
  |false=>exact⟨false,nofun,h⟩
  |true=>
   obtain⟨r2,iV,h⟩:=bind_some h
   exact⟨r2,λ_=>atg.of iV,h⟩
 refine zi (bb [aW (Jc.of im) [],dM eH] (ad eH (ad (Jc.of im) ar)) (aV (a' (aV (GR λh=>?_))))) h
 obtain⟨cU,h⟩:=mx h
 obtain⟨aio,h⟩:=mx h
 have aio:=adn aio
 obtain⟨ue,aue,h⟩:=bind_some h
 cases h
 intro K dJ a w hs
 obtain⟨vV,JP⟩:=a
 obtain⟨_,qk,sD,M,β,h0⟩:=hs
 have qk:JP=K.ds:=qk
 have sD:vV.size=112:=sD
 subst qk
 have u':∀r b,K.hE r=some b→False:=λr b e=>absurd (dJ r b e) (Nat.not_lt_zero r)
 have wG:∀(k:Nat) r b,K.hE r=some b→r<k:=λk r b e=>(u' r b e).elim
 obtain⟨aC',aO⟩:=h0.k3 (s:={env:=[(1,ab at_),(2,al 4 cc writes),(3,aJ 0 0),(6,aJ 1 0)],H:=(aT s),aD:=2}) (by kernel_rfl) (wG 2)
 clear h0
 -- jX copy
 refine wp_seq (Us eL 1 (by decide) aO sD (wG 2) [] (ps:=[])
  {
   env:=[(1,ab at_),(2,al 4 cc writes),(3,aJ 0 0),(6,aJ 1 0),(33,f7 (.v (Uy s)))],
   H:=(aT s),aD:=2}
  (Nat.le_refl 2) (by kernel_rfl) all_nil (by kernel_rfl) λt1 l1 nr o7 hz1 h1=>?_)
 have rV:=nn (h1.dp (.slot 33) _ rfl)
 have hcl:=atC rV h1.mem (h1.il.mono λb aC e=>(h1.frame b aC e).1) cU
 refine aeT rfl rfl (f:=34) (args := #[t1.getD 33 undef]) (aim (c:=⟨.value (.func 34),#[.tmp 33],#[24]⟩) rfl rfl Tryz.func34 rfl (of_decide_eq_false rfl)) hcl λe eU bU=>?_
 obtain⟨b,vs,rfl,hb,hvs,dK,hold,L9⟩:=bU
 refine⟨_,rfl,?_⟩
 have ZP:∀x o v,nr x o=some v→x<l1.heap.size:=λx o v e=>lt_of_cell (h1.mem x o v e)
 have lx:∀r cs x,look (aT s) r=some cs→o7 r=some x→x<l1.heap.size∧∀o,nr x o=none:=λr cs x af e=>by
  obtain⟨bj,_,_,g1,g2,_,g3,_⟩:=h1.box r cs af
  rw [e]at g1
  cases g1
  exact⟨(Array.getElem?_eq_some_iff.1 g2).1,g3⟩
 have pe:∀o,nr b o=none:=λo=>by
  cases e:nr b o with
  |none=>rfl
  |some v=>have:=ZP b o v e;omega
 have ZQ:∀x aC,K.F x=some aC→x<l1.heap.size:=λx aC e=>(Array.getElem?_eq_some_iff.1 (h1.frame x aC e).1).1
 have o4:K.F b=none:=by
  cases e:K.F b with
  |none=>rfl
  |some aC=>have:=ZQ b aC e;omega
 have h2:=h1.Cj (w':=eU) pe o4 (λr cs af e=>by have:=(lx r cs b af e).1;omega) (e9 rfl) (λx aC _ hx=>hold x aC hx) L9
 have Q4:∀x o,x<l1.heap.size→xJ nr l1.heap.size b eU x o=nr x o:=λx o hx=>by unfold xJ;rw [if_pos hx]
 have ah:=h2.aeU (M':=xJ nr l1.heap.size b eU) (λx o v e=>by rw [Q4 x o (ZP x o v e)];exact e) (λx o v e=>by
  unfold xJ at e
  split at e
  ·exact h2.mem x o v e
  ·split at e
   ·cases e
   ·exact e) (λx aC e o=>Q4 x o (ZQ x aC e)) (λr cs x af e o=>by rw [Q4 x o (lx r cs x af e).1];exact(lx r cs x af e).2 o) (e9 rfl)
 obtain⟨JY,ZR⟩:∃JY,JY=xJ nr l1.heap.size b eU:=⟨_,rfl⟩
 rw [←ZR]at ah dK
 have aip:∀o,JY b o=none:=λo=>by rw [ZR];unfold xJ;rw [if_neg (by omega),if_pos rfl]
 clear hcl ZP pe h2 Q4 ZR
 obtain⟨u,hu⟩:∃u,u=Value.slice (some ⟨b,0,none⟩) s.Rows.length s.Rows.length:=⟨_,rfl⟩
 rw [←hu]
 have lR:u.oneCell'=true:=by rw [hu];rfl
 have hG:cg JY o7 (.agg ⟨[.int .i64 s.bu,.int .i64 s.bi,u]⟩) (.agg [.v (.int .i64 s.bu),.v (.int .i64 s.bi),.ex u .any]):=by
  refine .agg _ _ rfl (λv hv=>?_) (λi v c hv hc=>?_)
  ·simp at hv;rcases hv with rfl|rfl|rfl;rfl;rfl;exact lR
  ·match i,hv,hc with
   | 0,hv,hc=>cases hv;cases hc;exact .v _ _ (.int _ _)
   | 1,hv,hc=>cases hv;cases hc;exact .v _ _ (.int _ _)
   | 2,hv,hc=>cases hv;cases hc;exact .ex _ _ (.any _ lR) lR
   |i+3,hv,hc=>cases hv
 have ay:=ah.put (t:=34) (e:=f7 (.agg [.v (.int .i64 s.bu),.v (.int .i64 s.bi),.ex u .any])) (by rw [hz1];decide) hG (λT av=>by cases av)
 have ZE:(t1.setIfInBounds 34 (.agg ⟨[.int .i64 s.bu,.int .i64 s.bi,u]⟩)).size=112:=by simpa using hz1
 have QT:iJ K JY o7 {env:=[(1,ab at_)],H:=(aT s),aD:=2} eU b vs 95:=
  ⟨hvs,aip,o4,λr cs af e=>by have:=(lx r cs b af e).1;omega⟩
 refine ae2 eL 2 ay ZE ⟨hvs,aip,o4,QT.box⟩ (e9 rfl) [] (ps:=[])
  {
   env:=[(1,ab at_),(2,al 4 cc writes),(3,aJ 0 0),(6,aJ 1 0),(8,aJ 2 0)],
   H:=[(0,[ab s.bu,ab s.bi,al 2 bm s.Rows]),(1,[ab 0,ab 0,al 2 bm []]),(2,[ab s.bu,ab s.bi,f7 (.ex u .any)])],aD:=3}
  (e9 rfl) (mb rfl) (Nat.le_succ 2) (by kernel_rfl) all_nil (by kernel_rfl) λt6 aC_ aDa aDb auf aug bG aiq=>?_
 refine wp_seq (qW eL bG auf aiq (e9 rfl) [] (ps:=[])
  {
   env:=[(1,ab at_),(2,al 4 cc writes),(3,aJ 0 0),(6,aJ 1 0),(8,aJ 2 0)],
   H:=[(0,[ab s.bu,ab s.bi,al 2 bm s.Rows]),(1,[ab 0,ab 0,al 2 bm []]),(2,[ab s.bu,ab at_,f7 (.ex u .any)])],aD:=3}
  (e9 rfl) (mb rfl) (Nat.le_refl 3) (by kernel_rfl) all_nil (by kernel_rfl) λt7 aDc aDd aDe auh aui cG air=>?_)
 refine wp_seq (wp_seq (qW eL cG auh air (e9 rfl) [] (ps:=[])
  {
   env:=[(1,ab at_),(3,aJ 0 0),(6,aJ 1 0),(8,aJ 2 0),(37,al 4 cc writes),(38,ab writes.length),(39,ab 0)],
   H:=[(0,[ab s.bu,ab s.bi,al 2 bm s.Rows]),(1,[ab 0,ab 0,al 2 bm []]),(2,[ab s.bu,ab at_,f7 (.ex u .any)])],aD:=3}
  (e9 rfl) (mb rfl) (Nat.le_refl 3) (by kernel_rfl) all_nil (by kernel_rfl) λt8 aDf auj auk aul aum dk ais=>?_))
 have ZS:∀r cs,look (nF s at_ writes u 0).H r=some cs→∃hJ,look [(0,[ab s.bu,ab s.bi,al 2 bm s.Rows]),(1,[ab 0,ab 0,al 2 bm []]),(2,[ab s.bu,ab at_,f7 (.ex u .any)])] r=some hJ∧hJ.length=cs.length:=shape rfl
 have g8:=dk.dp
 have ea:=dk.d_ (st':=nF s at_ writes u 0) rfl (aA.all ⟨⟨rfl,nofun,g8 (.slot 1) _ rfl⟩,⟨rfl,nofun,g8 (.slot 3) _ rfl⟩,⟨rfl,nofun,g8 (.slot 6) _ rfl⟩,⟨rfl,nofun,g8 (.slot 8) _ rfl⟩,⟨rfl,nofun,g8 (.slot 37) _ rfl⟩,⟨rfl,nofun,g8 (.slot 38) _ rfl⟩,⟨rfl,nofun,g8 (.slot 39) _ rfl⟩,trivial⟩
  ⟨⟨⟨rfl,nofun,g8 (.cell 0 0) _ rfl⟩,⟨rfl,nofun,g8 (.cell 0 1) _ rfl⟩,⟨rfl,nofun,Q3 (g8 (.cell 0 2) _ rfl) ⟨_,rfl,rfl⟩⟩,trivial⟩,⟨⟨rfl,nofun,Q3 (g8 (.cell 1 0) _ rfl) ⟨_,rfl,rfl⟩⟩,⟨rfl,nofun,Q3 (g8 (.cell 1 1) _ rfl) ⟨_,rfl,rfl⟩⟩,⟨rfl,nofun,Q3 (g8 (.cell 1 2) _ rfl) ⟨_,rfl,rfl⟩⟩,trivial⟩,⟨⟨rfl,nofun,g8 (.cell 2 0) _ rfl⟩,⟨rfl,nofun,g8 (.cell 2 1) _ rfl⟩,⟨rfl,nofun,g8 (.cell 2 2) _ rfl⟩,trivial⟩,trivial⟩) ZS
 have ait:=aud ais ZS
 have aiu:=dK.mono (Mem.le_trans aug (Mem.le_trans aui aum))
 have hcap:s.Rows.length≤9223372036854775807:=by
  simp only [zl,Bool.and_eq_true]at cU
  have:=BW cU.1
  omega
 clear dk g8 cG bG ay ah h1 ZS ais air aiq QT dK hG rV hold L9 lx ZQ
 refine wp_block (wp_loop (λa w'=>∃M β vs b u cap R i,a.tmps.size=112∧a.defers=K.ds∧i≤writes.length∧u = .slice (some ⟨b,0,none⟩) (R:List Row).length cap∧cap≤9223372036854775807∧bh Tryz.prog K M β (nF s at_ writes u (i:Nat)) a.tmps w'∧
  iJ K M β (nF s at_ writes u (i:Nat)) w' b vs 95∧RowsIn M cap R vs∧sG n at_ s.bi (writes.drop i) R=some ue)
  (λa _=>writes.length-(match a.tmps.getD 39 undef with|.int _ j=>j.toNat|_=>0)) ⟨auj,auk,vs,b,u,_,s.Rows,0,aul,rfl,Nat.zero_le _,hu,hcap,ea,ait,aiu,aue⟩ ?_)
 clear ea ait aiu hcap hu lR
 rintro ⟨vV,JP⟩ atK ⟨atL,atM,fZ,b,u,cap,R,i,sD,qk,atN,hu,hcap,ha,QU,JQ,ix⟩
 have sD:vV.size=112:=sD
 have qk:JP=K.ds:=qk
 subst qk
 have lR:u.oneCell'=true:=by rw [hu];rfl
 have aun:vV.getD 39 undef = .int .i64 (i:Nat):=jC (ha.dp (.slot 39) _ rfl)
 refine wp_seq (qW eL ha sD QU (e9 rfl) [] (ps:=[])
  {nF s at_ writes u (i:Nat)with env:=(nF s at_ writes u (i:Nat)).env++[(40,dh (decide (((i:Nat):Int)<writes.length)))]}
  (e9 rfl) (mb rfl) (Nat.le_refl 3) (by kernel_rfl) all_nil (by kernel_rfl) λZF atP ZG atQ JR QV hb aC=>?_)
 have auo:ZF.getD 40 undef = .bool (decide (((i:Nat):Int)<writes.length)):=rT (hb.dp (.slot 40) _ rfl)
 have ZT:=JQ.mono QV
 refine wp_seq (wp_cond_split (t:=decide (((i:Nat):Int)<writes.length)) auo (λaz=>?_) (λaz=>?_))
 ·have az:=of_decide_eq_true az
  refine wp_skip ?_
  have b1:i<writes.length:=by omega
  refine wp_seq (wp_mono (Q:=λe a w'=>e = .normal∧∃M β vs b u cap R,a.tmps.size=112∧a.defers=K.ds∧u = .slice (some ⟨b,0,none⟩) (R:List Row).length cap∧cap≤9223372036854775807∧bh Tryz.prog K M β (nF s at_ writes u (i:Nat)) a.tmps w'∧
   iJ K M β (nF s at_ writes u (i:Nat)) w' b vs 95∧RowsIn M cap R vs∧sG n at_ s.bi (writes.drop (i+1)) R=some ue) (wp_block ?_) ?_)
  ·obtain⟨p,hp⟩:∃p,writes.getD i default=p:=⟨_,rfl⟩
   have aup:writes.drop i=p::writes.drop (i+1):=by rw [List.drop_eq_getElem_cons b1,←hp,List.getD_eq_getElem?_getD,List.getElem?_eq_getElem b1];rfl
   rw [aup]at ix
   have hin:aP ((i:Nat):Int) writes.length=true:=adk ⟨by omega,by omega⟩
   refine wp_seq (qW eL hb JR aC (e9 rfl) [.raw] (ps:=[aP ((i:Nat):Int) writes.length=true])
    (i' s at_ writes u (i:Nat) [] .any (writes.getD i default) [] 4)
    (e9 rfl) (mb rfl) (Nat.le_succ 3) (by kernel_rfl) (all_cons hin all_nil) (by kernel_rfl) λatS atT atU atV ZH ZI hc AH=>?_)
   rw [hp]at hc AH
   have Q5:=ZT.mono ZI
   clear ha QU hb aC JQ ZT
   -- jX search
   obtain⟨⟨kk,ok⟩,h4,ix⟩:=bind_some ix
   have nS:∀(M2:Mem),(∀o,M2 b o=fZ[o]?)→∀o v,M2 b o=some v→pd v=true:=λM2 h o v e=>by
    rw [h o]at e
    exact Q5.jv v (List.mem_of_getElem? e)
   refine wp_seq (aeZ eL hc ZH AH (e9 rfl) (ZN hc AH (e9 rfl) (mb rfl) Q5 hu) [aW (ahU.of h4) []]
    (i' s at_ writes u (i:Nat) [(11,ab kk),(12,dh ok)] (ai 2 bm R) p [] 4)
    (i' s at_ writes u (i:Nat) [(11,ab kk),(12,dh ok)] .any p [] 4)
    (Nat.le_refl 4) rfl (by kernel_rfl) (all_cons (ahU.of h4) all_nil) (by kernel_rfl) (λM2 e6 lA eU h2 hb _=>ZO h2 (nS M2 hb) rfl nofun rfl lR) Q1 λxK wd aig atW QX ZJ hd sE=>?_)
   have JU:=Q5.mono ZJ
   refine wp_seq (qW eL hd QX sE (e9 rfl) [] (ps:=[])
    (i' s at_ writes u (i:Nat) [(11,ab kk),(12,dh ok),(13,aJ 4 0)] .any p (n6 at_ p) 5)
    (e9 rfl) (mb rfl) (Nat.le_succ 4) (by kernel_rfl) all_nil (by kernel_rfl) λcH aDg aDh aDi ZL auq he aiv=>?_)
   have QZ:=JU.mono auq
   refine wp_block (wp_seq (qW eL he ZL aiv (e9 rfl) [] (ps:=[])
    (i' s at_ writes u (i:Nat) [(11,ab kk),(12,dh ok),(13,aJ 4 0),(55,dh (bif !ok then !decide (p.aY.Cc=0)else false))] .any p (n6 at_ p) 5)
    (e9 rfl) (mb rfl) (Nat.le_refl 5) (by kernel_rfl) all_nil (by kernel_rfl) λxL wf JW Q0 sF JX aB of=>?_))
   have AI:=QZ.mono JX
   have aur:xL.getD 55 undef = .bool (bif !ok then !decide (p.aY.Cc=0)else false):=rT (aB.dp (.slot 55) _ rfl)
   clear hc AH hd sE he aiv Q5 JU QZ nS
   refine wp_cond_split (t:=bif !ok then !decide (p.aY.Cc=0)else false) aur (λaz=>?_) (λaz=>?_)
   ·cases ok with
    |true=>cases az
    |false=>
    have hk:p.aY.Cc≠0:=by simpa using az
    have ix:(bif decide (p.aY.Cc=0)then sG n at_ s.bi (writes.drop (i+1)) R
     else ao (hB kk R.length)<|ao (room (R.length+1) 40)<|sG n at_ s.bi (writes.drop (i+1)) (R.take kk.toNat++⟨p.Key,[⟨at_,p.aY⟩]⟩::R.drop kk.toNat))=some ue:=ix
    rw [decide_eq_false hk]at ix
    obtain⟨aiw,ix⟩:=mx ix
    obtain⟨hroom,ix⟩:=mx ix
    have aiw:=u_ aiw
    have hroom:=BW hroom
    obtain⟨fL,rfl⟩:∃fL:Nat,kk=fL:=⟨kk.toNat,by omega⟩
    rw [Int.toNat_natCast]at ix
    refine apL eL 8 (by decide) aB sF of (e9 rfl) [.val (ai 4 eu [⟨at_,p.aY⟩])]
     (i' s at_ writes u (i:Nat) [(65,f7 (.ex u .any)),(66,ab (fL:Nat)),(71,f7 (.v (bm ⟨p.Key,[⟨at_,p.aY⟩]⟩)))] .any p (n6 at_ p) 5)
     (e9 rfl) (mb rfl) (Nat.le_refl 5) (by kernel_rfl) (all_cons (eK (k:=4) (e:=eu) [⟨at_,p.aY⟩]) all_nil) (by kernel_rfl) λnG k7 AJ xM vX JZ hg pt=>?_
    show wpOps _ _ _ [8,9,10,11] _ _
    have J0:=AI.mono JZ
    have aus:nG.getD 65 undef=u:=AE (hg.dp (.slot 65) _ rfl)
    have aut:nG.getD 66 undef = .int .i64 (fL:Nat):=jC (hg.dp (.slot 66) _ rfl)
    obtain⟨us,ZU,BP,aih,JT⟩:=Sy (hg.dp (.slot 71) _ rfl)
    obtain⟨dZ,dF,rfl⟩:∃dZ dF,us=[dZ,dF]:=by
     match us,BP with
     |[dZ,dF],_=>exact⟨dZ,dF,rfl⟩
    have u3:=np (β:=λ_=>none) (.v _ _ (JT 0 _ _ rfl rfl))
    have nq:=JT 1 _ _ rfl rfl
    subst u3
    have ZU:nG.getD 71 undef = .agg ⟨[.string ⟨⟨p.Key⟩⟩,dF]⟩:=ZU
    -- jX slice of one row
    have mw:=at2 k7 ⟨⟨p.Key⟩⟩ dF (QR nq)
    refine Ci rfl rfl (v:=.slice (some ⟨k7.heap.size,0,none⟩) 1 1) (w':={k7 with heap:=k7.heap.push (.cells ⟨[.string ⟨⟨p.Key⟩⟩,dF]⟩ 95 (0,0))}) (aua rfl ZU mw) ?_
    obtain⟨vb,ZV⟩:∃vb,vb=k7.heap.size:=⟨_,rfl⟩
    have auu:∀o,AJ vb o=none:=λo=>by rw [ZV];exact hg.BO o
    have ge:∀(x:Nat) aC,K.F x=some aC→x<k7.heap.size:=λx aC e=>(Array.getElem?_eq_some_iff.1 (hg.frame x aC e).1).1
    have aix:∀(r:Nat) cs x,look (jP s at_ u .any p (n6 at_ p)) r=some cs→xM r=some x→x<k7.heap.size:=λr cs x af e=>by
     obtain⟨bj,_,_,g1,g2,_⟩:=hg.box r cs af
     rw [e]at g1
     cases g1
     exact(Array.getElem?_eq_some_iff.1 g2).1
    have aiy:∀x,k7.heap.size≤x→K.F x=none:=λx hx=>by
     cases e:K.F x with
     |none=>rfl
     |some aC=>have:=ge x aC e;omega
    have hbl:b<k7.heap.size:=(Array.getElem?_eq_some_iff.1 pt.heap).1
    have ZW:∀(x:Nat) (aC:Obj),k7.heap[x]? = some aC→(k7.heap.push (.cells ⟨[.string ⟨⟨p.Key⟩⟩,dF]⟩ 95 (0,0)))[x]? = some aC:=λx aC hx=>by
     have b1:=(Array.getElem?_eq_some_iff.1 hx).1
     rw [Array.getElem?_push_lt b1,←hx];exact(Array.getElem?_eq_getElem b1).symm
    have aiz:(k7.heap.push (.cells ⟨[.string ⟨⟨p.Key⟩⟩,dF]⟩ 95 (0,0)))[vb]? = some (.cells ⟨[.string ⟨⟨p.Key⟩⟩,dF]⟩ 95 (0,0)):=by rw [ZV];simp
    have bf:=hg.Cj (b:=vb) (w':={k7 with heap:=k7.heap.push (.cells ⟨[.string ⟨⟨p.Key⟩⟩,dF]⟩ 95 (0,0))}) auu (aiy vb (by omega)) (λr cs af e=>by have:=aix r cs vb af e;omega) (e9 rfl) (λx aC _ hx=>ZW x aC hx) rfl
    rw [←ZV]
    have ca:(k7.heap.push (.cells ⟨[.string ⟨⟨p.Key⟩⟩,dF]⟩ 95 (0,0)))[b]? = some (.cells ⟨fZ⟩ 95 (0,0)):=ZW b _ pt.heap
    have db:(k7.heap.push (.cells ⟨[.string ⟨⟨p.Key⟩⟩,dF]⟩ 95 (0,0))).size=k7.heap.size+1:=by simp
    have aiA:∀r cs,look (jP s at_ u .any p (n6 at_ p)) r=some cs→xM r≠some b:=pt.box
    have pe:=pt.mem
    have o4:=pt.sc
    obtain⟨xO,ZX⟩:∃xO:World,xO={k7 with heap:=k7.heap.push (.cells ⟨[.string ⟨⟨p.Key⟩⟩,dF]⟩ 95 (0,0))}:=⟨_,rfl⟩
    have aiB:xO.heap=k7.heap.push (.cells ⟨[.string ⟨⟨p.Key⟩⟩,dF]⟩ 95 (0,0)):=by rw [ZX]
    rw [←ZX]at bf ⊢
    rw [←aiB]at aiz ca db
    clear ZW ZX aiB mw
    have auv:=atz (M:=AJ) (w:=xO) (b:=b) (vb:=vb) (c:=cap) (c1:=1) (i:=fL) (R:=R) (vs:=fZ) (r:=⟨p.Key,[⟨at_,p.aY⟩]⟩) (u:=dF) ca J0 hcap (by omega) hroom aiz (by omega) (QR nq) nq
    refine aeT rfl rfl (f:=36) (args := #[.slice (some ⟨b,0,none⟩) R.length cap,.int .i64 fL,.slice (some ⟨vb,0,none⟩) 1 1]) ?_ auv λe eU bU=>?_
    ·have cG:∀(a:Act) o,o.op = .call ⟨.value (.func 36),#[.tmp 65,.tmp 66,.tmp 72],#[22,3,22]⟩→(execOp a.eval o).run Tryz.prog xO = .ok (.enter 36 ⟨[a.eval (.tmp 65),a.eval (.tmp 66),a.eval (.tmp 72)]⟩) xO:=λa o an=>aim an rfl Tryz.func36 rfl (of_decide_eq_false rfl)
     have m3:(Act.put ⟨nG,K.ds⟩ (some 72) (ma vb 1 1)).eval (.tmp 65)=u:=(Q2 (by decide)).trans aus
     have qM:(Act.put ⟨nG,K.ds⟩ (some 72) (ma vb 1 1)).eval (.tmp 66) = .int .i64 (fL:Nat):=(Q2 (by decide)).trans aut
     have auw:(Act.put ⟨nG,K.ds⟩ (some 72) (ma vb 1 1)).eval (.tmp 72) = .slice (some ⟨vb,0,none⟩) 1 1:=put_eq (by show 72<nG.size;rw [vX];decide)
     refine(cG _ _ rfl).trans ?_
     show Result.ok (Next.enter 36 ⟨[(Act.put ⟨nG,K.ds⟩ (some 72) (ma vb 1 1)).eval (.tmp 65),(Act.put ⟨nG,K.ds⟩ (some 72) (ma vb 1 1)).eval (.tmp 66),(Act.put ⟨nG,K.ds⟩ (some 72) (ma vb 1 1)).eval (.tmp 72)]⟩) xO=_
     rw [m3,qM,auw,hu]
    ·obtain⟨bc,cap',vs',rfl,bV,ZY,Lm,o5,aux,auy,auz⟩:=bU
     refine⟨_,rfl,?_⟩
     show wpOps _ _ _ [10,11] (Act.put (Act.put ⟨nG,K.ds⟩ (some 72) (ma vb 1 1)) (some 73) (ma bc (R.length+1) cap')) _
     have Ln:(R.take fL++⟨p.Key,[⟨at_,p.aY⟩]⟩::R.drop fL).length=R.length+1:=by simp;omega
     obtain⟨hI,oE⟩:∃hI,hI=ma bc (R.length+1) cap':=⟨_,rfl⟩
     rw [←oE]
     have aiC:hI.oneCell'=true:=by rw [oE];rfl
     have rR:=bf.Cj (w':=eU) pe o4 aiA (e9 rfl) (λx aC hx hw=>aux x aC hx hw) (by rw [auy,auz])
     have auA:∀o,AJ bc o=none:=λo=>by
      rcases o5 with rfl|rfl
      ·exact pe o
      ·exact bf.BO o
     have auB:K.F bc=none:=by
      rcases o5 with rfl|rfl
      ·exact o4
      ·exact aiy _ (by omega)
     have auC:∀r cs,look (jP s at_ u .any p (n6 at_ p)) r=some cs→xM r≠some bc:=λr cs af e=>by
      rcases o5 with rfl|rfl
      ·exact aiA r cs af e
      ·have:=aix r cs _ af e;omega
     have EL:=(rR.put (t:=72) (v:=.slice (some ⟨vb,0,none⟩) 1 1) (e:=f7 (.ex (ma vb 1 1) .any)) (by rw [vX];decide) (.ex _ _ (.any _ rfl) rfl) (λT av=>by cases av)).put (t:=73) (v:=hI) (e:=f7 (.ex hI .any)) (by simp;rw [vX];decide) (.ex _ _ (.any _ aiC) aiC) (λT av=>by cases av)
     have auD:((nG.setIfInBounds 72 (ma vb 1 1)).setIfInBounds 73 hI).size=112:=by simpa using vX
     refine ae2 eL 10 EL auD ⟨bV,auA,auB,auC⟩ (e9 rfl) [] (ps:=[]) {nF s at_ writes hI (i:Nat)with aD:=5}
      (e9 rfl) (mb rfl) (Nat.le_refl 5) (by kernel_rfl) all_nil (by kernel_rfl) λrk oO J1 auE AK ZZ hj k2=>?_
     obtain⟨J2,kH,xP⟩:=hj.Ms (s:=nF s at_ writes hI (i:Nat)) k2 (e9 rfl) (e9 rfl) (by kernel_rfl) (wG 3)
     exact⟨rfl,J1,J2,vs',bc,hI,cap',_,AK,rfl,by rw [Ln,oE],Lm,kH,xP,ZY.mono ZZ,ix⟩
   · -- jX value ac8 SR
    obtain⟨v,pv,fJ,auF⟩:∃v:bJ,(ok=true→aP kk R.length=true∧p7 n (R.getD kk.toNat default) s.bi=some v)∧
     ((bif ok then !(vW v p.aY)else false)=false→sG n at_ s.bi (writes.drop (i+1)) R=some ue)∧
     ((
      bif ok then !(vW v p.aY)else false)=true→ok=true∧room ((R.getD kk.toNat default).aR.length+1) 40=true∧
      sG n at_ s.bi (writes.drop (i+1)) (R.set kk.toNat ⟨(R.getD kk.toNat default).Key,(R.getD kk.toNat default).aR++[⟨at_,p.aY⟩]⟩)=some ue):=by
     cases ok with
     |false=>
      have hk:decide (p.aY.Cc=0)=true:=by simpa using az
      have ix:(bif decide (p.aY.Cc=0)then sG n at_ s.bi (writes.drop (i+1)) R
       else ao (hB kk R.length)<|ao (room (R.length+1) 40)<|sG n at_ s.bi (writes.drop (i+1)) (R.take kk.toNat++⟨p.Key,[⟨at_,p.aY⟩]⟩::R.drop kk.toNat))=some ue:=ix
      rw [hk]at ix
      exact⟨default,nofun,λ_=>ix,nofun⟩
     |true=>
      have ix:(ao (aP kk R.length)<|Option.bind (p7 n (R.getD kk.toNat default) s.bi) λv=>
       bif vW v p.aY then sG n at_ s.bi (writes.drop (i+1)) R
       else ao (room ((R.getD kk.toNat default).aR.length+1) 40)<|sG n at_ s.bi (writes.drop (i+1)) (R.set kk.toNat ⟨(R.getD kk.toNat default).Key,(R.getD kk.toNat default).aR++[⟨at_,p.aY⟩]⟩))=some ue:=ix
      obtain⟨hin2,ix⟩:=mx ix
      obtain⟨v,hv,ix⟩:=bind_some ix
      refine⟨v,λ_=>⟨hin2,hv⟩,λh=>?_,λh=>?_⟩
      ·have h:(!(vW v p.aY))=false:=h
       rw [Bool.not_eq_false']at h
       rw [h]at ix
       exact ix
      ·have h:(!(vW v p.aY))=true:=h
       rw [Bool.not_eq_true']at h
       rw [h]at ix
       obtain⟨h1,h2⟩:=mx ix
       exact⟨rfl,h1,h2⟩
    have nS:∀(M2:Mem),(∀o,M2 b o=fZ[o]?)→∀o v,M2 b o=some v→pd v=true:=λM2 h o v e=>by
     rw [h o]at e
     exact AI.jv v (List.mem_of_getElem? e)
    refine wp_seq (apK eL w4 aB sF of (e9 rfl) (ZN aB of (e9 rfl) (mb rfl) AI hu) [(5,[.raw]),(9,[dM λc=>aEc.of (pv c).2])]
     (i' s at_ writes u (i:Nat) [(11,ab kk),(13,aJ 4 0),(75,dh (bif ok then !(vW v p.aY)else false))] (ai 2 bm R) p (n6 at_ p) 5)
     (i' s at_ writes u (i:Nat) [(11,ab kk),(13,aJ 4 0),(75,dh (bif ok then !(vW v p.aY)else false))] .any p (n6 at_ p) 5)
     (Nat.le_refl 5) rfl (by kernel_rfl) (all_cons (λc=>aEc.of (pv c).2) (all_cons (λc=>(pv c).1) all_nil)) (by kernel_rfl) (λM2 e6 lA eU h2 hb _=>ZO h2 (nS M2 hb) rfl nofun rfl lR) Q1 λnG k7 AJ xM vX JZ hg pt=>?_)
    have J0:=AI.mono JZ
    have auG:nG.getD 75 undef = .bool (bif ok then !(vW v p.aY)else false):=rT (hg.dp (.slot 75) _ rfl)
    refine wp_cond_split (t:=bif ok then !(vW v p.aY)else false) auG (λhc=>?_) (λhc=>?_)
    ·obtain⟨rfl,hroom,ix⟩:=auF hc
     have hin2:=(pv rfl).1
     have aDj:=Td hin2
     obtain⟨fL,rfl⟩:∃fL:Nat,kk=fL:=⟨kk.toNat,by omega⟩
     have GE:fL<R.length:=by omega
     rw [Int.toNat_natCast]at ix hroom
     obtain⟨r,af⟩:∃r,R.getD fL default=r:=⟨_,rfl⟩
     have QW:R[fL]? = some r:=by rw [←af,List.getD_eq_getElem?_getD,List.getElem?_eq_getElem GE];rfl
     refine wp_seq (aeZ eL hg vX pt (e9 rfl) (ZN hg pt (e9 rfl) (mb rfl) J0 hu) [.raw]
      (i' s at_ writes u (i:Nat) [(11,ab (fL:Nat)),(13,aJ 4 0),(14,al 4 eu (R.getD fL default).aR)] (ai 2 bm R) p (n6 at_ p) 5)
      (i' s at_ writes u (i:Nat) [(11,ab (fL:Nat)),(13,aJ 4 0),(14,al 4 eu (R.getD fL default).aR)] .any p (n6 at_ p) 5)
      (Nat.le_refl 5) rfl (by kernel_rfl) (all_cons hin2 all_nil) (by kernel_rfl) (λM2 e6 lA eU h2 hb _=>ZO h2 (nS M2 hb) rfl (λe he=>⟨_,(Option.some.inj he).symm⟩) rfl lR) Q1 λaDk xO aDl aDm auH auI bf aiD=>?_)
     have auJ:=J0.mono auI
     rw [af]at ix hroom bf aiD
     refine aeW eL w4 12 (by kernel_rfl) (by decide) bf auH aiD (e9 rfl) [(10,[.val (ai 4 eu [⟨at_,p.aY⟩])]),(11,[.val (ai 4 eu (r.aR++[⟨at_,p.aY⟩]))])]
      (i' s at_ writes u (i:Nat) [(97,f7 (.ex u .any)),(98,ab (fL:Nat)),(107,al 4 eu (r.aR++[⟨at_,p.aY⟩]))] .any p (n6 at_ p) 5)
      (e9 rfl) (mb rfl) (Nat.le_refl 5) (by kernel_rfl) (all_cons (gp (k:=4) (e:=eu) r.aR [⟨at_,p.aY⟩]) (all_cons hroom (all_cons (eK (k:=4) (e:=eu) [⟨at_,p.aY⟩]) (all_cons (rfl:((r.aR.length:Nat):Int)=((r.aR.length:Nat):Int)) (all_cons (afk r.aR.length) all_nil))))) (by kernel_rfl) λrk oO J1 auE AK ZZ hj k2=>?_
     show wpOps _ _ _ [12,13,14] _ _
     have auK:rk.getD 97 undef=u:=AE (hj.dp (.slot 97) _ rfl)
     have auL:rk.getD 98 undef = .int .i64 (fL:Nat):=jC (hj.dp (.slot 98) _ rfl)
     have hv:=nn (hj.dp (.slot 107) _ rfl)
     obtain⟨x,aiE⟩:∃x,rk.getD 107 undef=x:=⟨_,rfl⟩
     have hv:cY J1 (rk.getD 107 undef) (ai 4 eu (r.aR++[⟨at_,p.aY⟩])):=hv
     rw [aiE]at hv
     have Z0:=auJ.mono ZZ
     have Z1:=QR hv
     obtain⟨dN⟩:=et eL (t:=22) rfl
     obtain⟨qd⟩:=et eL (t:=95) rfl
     obtain⟨zW⟩:=et eL (t:=93) rfl
     have EM:=SC (w:=oO) dN rfl qd (k:=.i64) (j:=(fL:Nat)) (b:=b) (off:=0) (n:=R.length) (cap:=cap) (by omega) (by omega)
     rw [←hu]at EM
     have EM:(Instr.indexAt 22 u (.int .i64 (fL:Nat))).run Tryz.prog oO = .ok (mF b (fL*2)) oO:=by rw [EM];simp
     refine Ci rfl rfl (v:=.pointer (some ⟨b,fL*2,none⟩)) (w':=oO) (aub rfl auK auL EM) ?_
     show wpOps _ _ _ [13,14] (Act.put ⟨rk,K.ds⟩ (some 108) (mF b (fL*2))) _
     have AL:=SB (w:=oO) qd rfl (f:=1) (o1:=1) (ft:=93) (sz:=1) rfl (by decide) b (fL*2)
     refine Ci rfl rfl (v:=.pointer (some ⟨b,fL*2+1,none⟩)) (w':=oO) (auc rfl (put_eq (by show 108<rk.size;rw [AK];decide)) AL) ?_
     show wpOps _ _ _ [14] (Act.put (Act.put ⟨rk,K.ds⟩ (some 108) (mF b (fL*2))) (some 109) (mF b (fL*2+1))) _
     have gH:=Z0.len
     have aDn:=Z0.le
     have Z2:x.cells = #[x]:=by cases x<;>first|rfl|cases Z1
     have c8:=FV (w:=oO) zW k2.heap (v:=x) (off:=fL*2+1) (by rw [Z2];rfl) (λhI oE=>by
      rw [Z2]at oE
      simp at oE
      subst oE
      exact AD Z1) (by show fL*2+1+1≤_;omega)
     obtain⟨mG,JV⟩:∃mG,mG=fZ.take (fL*2+1)++[x]++fZ.drop (fL*2+2):=⟨_,rfl⟩
     have c8:(Instr.storeAt 93 (mF b (fL*2+1)) x).run Tryz.prog oO = .ok () (oO.setRow b ⟨mG⟩):=by rw [c8,Z2,JV];rfl
     have auM:RowsIn J1 cap (R.set fL ⟨r.Key,r.aR++[⟨at_,p.aY⟩]⟩) mG:=by
      rw [JV]
      exact Z0.at4 QW Z1 hv
     have ZK:(oO.setRow b ⟨mG⟩).heap[b]? = some (.cells ⟨mG⟩ 95 (0,0)):=setRow_heap oO b _ _ 95 (0,0) k2.heap
     have iq:=hj.Cj (w':=oO.setRow b ⟨mG⟩) k2.mem k2.sc k2.box (e9 rfl) (λx aC hx hw=>(setRow_other oO b x _ hx).trans hw) rfl
     have aiF:=(iq.put (t:=108) (v:=.pointer (some ⟨b,fL*2,none⟩)) (e:=f7 (.ex (mF b (fL*2)) .any)) (by rw [AK];decide) (.ex _ .any (.any _ rfl) rfl) (λT av=>by cases av)).put (t:=109) (v:=.pointer (some ⟨b,fL*2+1,none⟩)) (e:=f7 (.ex (mF b (fL*2+1)) .any)) (by simp;rw [AK];decide) (.ex _ .any (.any _ rfl) rfl) (λT av=>by cases av)
     have auN:((rk.setIfInBounds 108 (mF b (fL*2))).setIfInBounds 109 (mF b (fL*2+1))).size=112:=by simpa using AK
     have m3:(Act.put (Act.put ⟨rk,K.ds⟩ (some 108) (mF b (fL*2))) (some 109) (mF b (fL*2+1))).eval (.tmp 109) = .pointer (some ⟨b,fL*2+1,none⟩):=put_eq (by show 109<(rk.setIfInBounds 108 _).size;simp;rw [AK];decide)
     have qM:(Act.put (Act.put ⟨rk,K.ds⟩ (some 108) (mF b (fL*2))) (some 109) (mF b (fL*2+1))).eval (.tmp 107)=x:=(Q2 (by decide)).trans ((Q2 (by decide)).trans aiE)
     refine ae1 rfl rfl (w':=oO.setRow b ⟨mG⟩) (aic rfl m3 qM c8) ?_
     obtain⟨J2,kH,xP⟩:=aiF.Ms (s:=nF s at_ writes u (i:Nat)) ⟨ZK,k2.mem,k2.sc,k2.box⟩ (e9 rfl) (e9 rfl) (by kernel_rfl) (wG 3)
     exact⟨rfl,J1,J2,mG,b,u,cap,_,auN,rfl,by rw [List.length_set];exact hu,hcap,kH,xP,auM,ix⟩
    ·refine wp_skip ?_
     obtain⟨J2,kH,xP⟩:=hg.Ms (s:=nF s at_ writes u (i:Nat)) pt (e9 rfl) (e9 rfl) (by kernel_rfl) (wG 3)
     exact⟨rfl,AJ,J2,fZ,b,u,cap,_,vX,rfl,hu,hcap,kH,xP,J0,fJ hc⟩
  ·rintro e ⟨xL,auO⟩ wf ⟨rfl,M',β',vs',bc,hI,cap',R',sF,Z3,oE,Lm,aB,of,ZY,auP⟩
   have sF:xL.size=112:=sF
   have Z3:auO=K.ds:=Z3
   subst Z3
   refine qW eL aB sF of (e9 rfl) [] (ps:=[]) (nF s at_ writes hI (IntKind.i64.wrap (((i:Nat):Int)+1)))
    (e9 rfl) (mb rfl) (Nat.le_refl 3) (by kernel_rfl) all_nil (by kernel_rfl) λnG k7 AJ xM vX JZ hg pt=>?_
   rw [show IntKind.i64.wrap (((i:Nat):Int)+1)=((i+1:Nat):Int)by rw [IntKind.wrap_i64];omega]at hg pt
   have auQ:nG.getD 39 undef = .int .i64 ((i+1:Nat):Int):=jC (hg.dp (.slot 39) _ rfl)
   refine⟨⟨AJ,xM,vs',bc,hI,cap',R',i+1,vX,rfl,b1,oE,Lm,hg,pt,ZY.mono JZ,auP⟩,?_⟩
   show _-(match nG.getD 39 undef with|.int _ j=>j.toNat|_=>0)<_-(match vV.getD 39 undef with|.int _ j=>j.toNat|_=>0)
   rw [aun,auQ]
   show writes.length-(i+1)<writes.length-i
   omega
 ·have az:=of_decide_eq_false az
  obtain rfl:i=writes.length:=by omega
  refine wp_exit ?_
  refine aid ?_
  rw [List.drop_length]at ix
  cases ix
  have hle:ZG.le (nx ZG b fZ):=zg aC.mem
  have hx:=hb.aeU hle (λbc o v e=>by
   unfold nx at e
   split at e
   ·rename_i hx;subst hx;rw [cell_of aC.heap];exact e
   ·exact hb.mem _ _ _ e) (λx obj e o=>by
   unfold nx
   rw [if_neg]
   rintro rfl
   rw [aC.sc]at e;cases e) (λr cs x af e o=>by
   obtain⟨bj,_,_,g1,_,_,g3,_⟩:=hb.box r cs af
   rw [e]at g1
   cases g1
   unfold nx
   rw [if_neg (λhx:x=b=>aC.box r cs af (by rw [←hx];exact e))]
   exact g3 o) (e9 rfl)
  have f':=ZT.rep aC.mem
  rw [←hu]at f'
  have g:=hx.dp
  have dT:∀r cs,look [(1,[f7 (.v .any),f7 (.v .any),f7 (.v .any)]),(2,[ab s.bu,ab at_,al 2 bm ue])] r=some cs→∃hJ,look (nF s at_ writes u (writes.length:Nat)).H r=some hJ∧hJ.length=cs.length:=λr cs af=>by
   rw [du]at af
   split at af
   ·rename_i h1;subst h1;cases af;exact⟨_,rfl,rfl⟩
   ·rw [du]at af
    split at af
    ·rename_i h1;subst h1;cases af;exact⟨_,rfl,rfl⟩
    ·cases af
  have aiG:=AE (g (.cell 2 2) _ rfl)
  have b9:=hx.d_ (st':={env:=[(6,aJ 1 0),(8,aJ 2 0)],H:=[(1,[f7 (.v .any),f7 (.v .any),f7 (.v .any)]),(2,[ab s.bu,ab at_,al 2 bm ue])],aD:=3}) rfl
   (aA.all ⟨⟨rfl,nofun,g (.slot 6) _ rfl⟩,⟨rfl,nofun,g (.slot 8) _ rfl⟩,trivial⟩ ⟨⟨⟨rfl,nofun,g (.cell 1 0) _ rfl⟩,⟨rfl,nofun,g (.cell 1 1) _ rfl⟩,⟨rfl,nofun,g (.cell 1 2) _ rfl⟩,trivial⟩,⟨⟨rfl,nofun,g (.cell 2 0) _ rfl⟩,⟨rfl,nofun,g (.cell 2 1) _ rfl⟩,⟨rfl,nofun,by rw [show(2:Nat)=0+1+1 from rfl]at aiG;rw [aiG];exact .v _ _ f'⟩,trivial⟩,trivial⟩) dT
  refine wp_seq (ae0 eL b9 JR (wG 3) [] (ps:=[])
   {env:=[(6,aJ 1 0),(7,ab 0)],H:=[(1,[ab s.bu,ab at_,al 2 bm ue])],aD:=3}
   (Nat.le_refl 3) (by kernel_rfl) all_nil (by kernel_rfl) λxL wf JW Q0 sF aB=>?_)
  refine wp_ret ?_
  exact⟨.ret,_,⟨rfl,rfl,sF,JW,Q0,aB⟩,ad3 (by kernel_rfl)⟩
end Go.Ab.Y

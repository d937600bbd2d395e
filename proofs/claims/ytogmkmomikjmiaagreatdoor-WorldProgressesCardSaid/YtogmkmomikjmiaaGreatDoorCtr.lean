/- For every n and every engine, WorldProgresses returns true: part Ctr of the proof. -/
import Derived.Test.YtogmkmomikjmiaaGreatDoorProg
import Derived.Test.YtogmkmomikjmiaaGreatDoorShlf
set_option linter.all false
namespace Go.Ab.Y
open Go Go.Ab Go.Proofs
abbrev e_str(x:List UInt8):V:=.str x
structure Write where
 At:Int
 Data:List UInt8
instance:Inhabited Write:=⟨⟨0,[]⟩⟩
def enc_Write(x:Write):V:=.agg [.int .i64 x.At,.str x.Data]
structure Disk where
 Sectors:List (List UInt8)
 Pending:List Write
 Fuse:Int
 Ops:Int
 Dead:Bool
instance:Inhabited Disk:=⟨⟨[],[],0,0,false⟩⟩
def tt:TT:=[
 (3,⟨.int .i64,1,8,[.int .i64 0],[]⟩),
 (4,⟨.bool,1,1,[.bool false],[]⟩),
 (5,⟨.int .u8,1,1,[.int .u8 0],[]⟩),
 (9,⟨.str,1,16,[.str ([]:List UInt8)],[]⟩),
 (25,⟨.slc 9,1,24,[encL 1 e_str ([]:List (List UInt8))],[]⟩),
 (71,⟨.slc 183,1,24,[encL 2 enc_Write ([]:List Write)],[]⟩),
 (73,⟨.strct [(0,25,1),(1,71,1),(2,3,1),(3,3,1),(4,4,1)],5,72,[encL 1 e_str ([]:List (List UInt8)),encL 2 enc_Write ([]:List Write),.int .i64 0,.int .i64 0,.bool false],[]⟩),
 (183,⟨.strct [(0,3,1),(1,9,1)],2,24,[.int .i64 0,.str ([]:List UInt8)],[]⟩),
 (277,⟨.int .u32,1,4,[.int .u32 0],[]⟩)]
theorem tt_ok:TTok Tryz.prog tt=true:=by kernel_rfl
end Go.Ab.Y
namespace Go.Ab.Y
open Go Go.Ab Go.Proofs
set_option linter.unusedVariables false
def F_disk_Valid_j2(n:Nat):Option Bool:=
 some true
def F_disk_Valid_b3(n:Nat)(d:Disk)(k3:Int→Option Bool)(v9:Int):Option Bool:=
 bif (decide (v9<((d.Pending.length:Nat):Int))) then(
  ass (inB v9 d.Pending.length)<|
  bif (bif (bif (decide ((d.Pending.getD (v9).toNat default).At<0))then true else(decide (((d.Sectors.length:Nat):Int)≤(d.Pending.getD (v9).toNat default).At)))then true else(!decide (((((d.Pending.getD (v9).toNat default).Data).length:Nat):Int)=64))) then(
   some false)
  else(
   k3 (IntKind.i64.wrap (v9+1))))
 else(
  F_disk_Valid_j2 n)
def F_disk_Valid_l3(n:Nat)(d:Disk):Nat→Int→Option Bool
 | 0=>fun _=>none
 |m+1=>F_disk_Valid_b3 n d (F_disk_Valid_l3 n d m)
def F_disk_Valid_j1(n:Nat)(d:Disk):Option Bool:=
 F_disk_Valid_l3 n d n 0
def F_disk_Valid_b4(n:Nat)(d:Disk)(k4:Int→Option Bool)(v4:Int):Option Bool:=
 bif (decide (v4<((d.Sectors.length:Nat):Int))) then(
  ass (inB v4 d.Sectors.length)<|
  bif (!decide ((((d.Sectors.getD (v4).toNat default).length:Nat):Int)=64)) then(
   some false)
  else(
   k4 (IntKind.i64.wrap (v4+1))))
 else(
  F_disk_Valid_j1 n d)
def F_disk_Valid_l4(n:Nat)(d:Disk):Nat→Int→Option Bool
 | 0=>fun _=>none
 |m+1=>F_disk_Valid_b4 n d (F_disk_Valid_l4 n d m)
def F_disk_Valid(n:Nat)(d:Disk):Option Bool:=
 bif (bif (bif (bif (bif (bif (decide (((d.Sectors.length:Nat):Int)<16))then true else(decide (1024<((d.Sectors.length:Nat):Int))))then true else(decide (d.Fuse<0)))then true else(decide (1099511627776<d.Fuse)))then true else(decide (d.Ops<0)))then true else(decide (1099511627776<d.Ops))) then(
  some false)
 else(
  F_disk_Valid_l4 n d n 0)
def F_checksum_Update_j1(n:Nat)(v27:Int):Option Int:=
 some (xorI .u32 v27 4294967295)
def F_checksum_Update_j3(n:Nat)(k2:Int→Int→Option Int)(s:List UInt8)(v13:Int)(v24:Int):Option Int:=
 k2 (IntKind.i64.wrap (v13+1)) v24
def F_checksum_Update_j5(n:Nat)(k4:Int→Int→Option Int)(k2:Int→Int→Option Int)(s:List UInt8)(v13:Int)(v19:Int)(v21:Int):Option Int:=
 k4 (IntKind.i64.wrap (v19+1)) v21
def F_checksum_Update_b4(n:Nat)(k2:Int→Int→Option Int)(s:List UInt8)(v13:Int)(k4:Int→Int→Option Int)(v19:Int)(v20:Int):Option Int:=
 bif (decide (v19<8)) then(
  bif (decide ((andI .u32 v20 1)=1)) then(
   F_checksum_Update_j5 n k4 k2 s v13 v19 (xorI .u32 (shrI .u32 v20 1) 2197175160))
  else(
   F_checksum_Update_j5 n k4 k2 s v13 v19 (shrI .u32 v20 1)))
 else(
  F_checksum_Update_j3 n k2 s v13 v20)
def F_checksum_Update_l4(n:Nat)(k2:Int→Int→Option Int)(s:List UInt8)(v13:Int):Nat→Int→Int→Option Int
 | 0=>fun _ _=>none
 |m+1=>F_checksum_Update_b4 n k2 s v13 (F_checksum_Update_l4 n k2 s v13 m)
def F_checksum_Update_b2(n:Nat)(s:List UInt8)(k2:Int→Int→Option Int)(v13:Int)(v14:Int):Option Int:=
 bif (decide (v13<((s.length:Nat):Int))) then(
  ass (inB v13 s.length)<|
  F_checksum_Update_l4 n k2 s v13 n 0 (xorI .u32 v14 (IntKind.u32.wrap (((s.getD (v13).toNat 0).toNat:Nat):Int))))
 else(
  F_checksum_Update_j1 n v14)
def F_checksum_Update_l2(n:Nat)(s:List UInt8):Nat→Int→Int→Option Int
 | 0=>fun _ _=>none
 |m+1=>F_checksum_Update_b2 n s (F_checksum_Update_l2 n s m)
def F_checksum_Update(n:Nat)(sum:Int)(s:List UInt8):Option Int:=
 F_checksum_Update_l2 n s n 0 (xorI .u32 sum 4294967295)
end Go.Ab.Y
namespace Go.Ab.Y.T
open Go Go.Ab Go.Proofs
set_option linter.unusedVariables false
structure Con(f:FuncId)(args:List D)(ow:List (Nat×TypeId))(H:List (List Ent)){ρ:Type}(F:Option ρ)(out:ρ→Out)(H2:ρ→List (List Ent)):Prop where
 of:∀{r:ρ},F=some r→saysOf Tryz.prog f args ow H (out r) (H2 r)
def postC(E:Nat)(rs:List ResultVar){ρ:Type}(out:ρ→Out)(H2:ρ→List (List Ent))(r:ρ):AE→St→Prop:=postF tt E rs fun o H'=>o=out r∧H'=H2 r
def rs0(s st:St):Option St:=(restr (s.env.map (·.1)) (s.H.map (·.1)) s.nxt st.env st.H st.nxt).map (fit s)
noncomputable abbrev R0(N:Nat)(ops:Array Oper)(rs:List RS)(st:St):=run0 (saysC Tryz.prog) tt N ops.toList rs st
abbrev s0(l:List (Nat×Ent)):St:=⟨l,[],0⟩
abbrev eI(x:Int):Ent:=⟨.v (.int .i64 x),none⟩
abbrev eB(x:Bool):Ent:=⟨.v (.bool x),none⟩
abbrev eS(x:List UInt8):Ent:=⟨.v (.str x),none⟩
abbrev eL{α:Type}[Inhabited α](k:Nat)(e:α→V)(l:List α):Ent:=⟨.v (encL k e l),none⟩
abbrev eP(r o:Nat):Ent:=⟨.ptr r o,none⟩
abbrev eV(x:V):Ent:=⟨.v x,none⟩
abbrev vB(x:Bool):D:=.v (.bool x)
abbrev vS(x:List UInt8):D:=.v (.str x)
abbrev oR(d:D):Out:=.ret d none
abbrev Z_:=all_nil
theorem A_{p:Prop}{l:List Prop}(h:p)(hl:AllP l):AllP (p::l):=⟨h,hl⟩
def Im(q p:Prop):Prop:=p→q
section
variable {p:Prop} {N E:Nat} {st:St} {Q:AE→St→Prop} {next:St→Prop} {x y:Code} {id i j:Nat} {ops:Array Oper}
theorem bh_(h:Im (Q .normal st) p):Im (AE.inBlock i Q (.exit i) st) p:=fun z=>AE.block_hit (h z)
theorem Sq(h:Im (AWp Tryz.prog N E x (AE.then (AWp Tryz.prog N E y Q) Q) st) p):Im (AWp Tryz.prog N E (.seq x y) Q st) p:=fun z=>AWp.seq (h z)
theorem Sk(h:Im (Q .normal st) p):Im (AWp Tryz.prog N E .skip Q st) p:=fun z=>AWp.skip (h z)
theorem Ex(h:Im (Q (.exit i) st) p):Im (AWp Tryz.prog N E (.exit i) Q st) p:=fun z=>AWp.exit (h z)
theorem Rt(h:Im (Q .ret st) p):Im (AWp Tryz.prog N E .ret Q st) p:=fun z=>AWp.ret (h z)
theorem Bk(h:Im (AWp Tryz.prog N E x (AE.inBlock i Q) st) p):Im (AWp Tryz.prog N E (.block i x) Q st) p:=fun z=>AWp.block (h z)
theorem Ro(rs:List RS){ps:List Prop}(hob:AllP ps)(hQ:Im (Q .normal (stOf (R0 N ops rs st))) p)(hr:obOf (R0 N ops rs st)=some ps:=by kernel_rfl):Im (AWp Tryz.prog N E (.region id ops false) Q st) p:=fun z=>AWp.rg tt_ok rs hr hob (hQ z)
theorem Rk(hQ:Im (Q .normal (stOf (R0 N ops [] st))) p)(hr:obOf (R0 N ops [] st)=some []:=by kernel_rfl):Im (AWp Tryz.prog N E (.region id ops false) Q st) p:=Ro [] Z_ hQ hr
theorem Ho(rs:List RS){ps:List Prop}(hob:AllP ps)(hQ:Im (AWp Tryz.prog N E y Q (stOf (R0 N ops rs st))) p)(hr:obOf (R0 N ops rs st)=some ps:=by kernel_rfl):Im (AWp Tryz.prog N E (.seq (.region id ops false) y) Q st) p:=Sq (Ro (Q:=AE.then (AWp Tryz.prog N E y Q) Q) rs hob hQ hr)
theorem G(hQ:Im (AWp Tryz.prog N E y Q (stOf (R0 N ops [] st))) p)(hr:obOf (R0 N ops [] st)=some []:=by kernel_rfl):Im (AWp Tryz.prog N E (.seq (.region id ops false) y) Q st) p:=Ho [] Z_ hQ hr
section
variable {f:FuncId} {args:List D} {ow:List (Nat×TypeId)} {H H2:List (List Ent)} {out:Out}
end
theorem C{α:Type}{b:Bool}{a q:Option α}{r:α}{c:Nat}(ht:Im (AWp Tryz.prog N E x Q st) (a=some r))(hf:Im (AWp Tryz.prog N E y Q st) (q=some r))(hc:(look st.env c).map (·.d)=some (.v (.bool b)):=by kernel_rfl):Im (AWp Tryz.prog N E (.cond (.tmp c) x y) Q st) ((bif b then a else q)=some r):=fun h=>AWp.cnd h hc ht hf
theorem Sg{z:Code}(hQ:Im (AWp Tryz.prog N E y (AE.then (AWp Tryz.prog N E z Q) Q) (stOf (R0 N ops [] st))) p)(hr:obOf (R0 N ops [] st)=some []:=by kernel_rfl):Im (AWp Tryz.prog N E (.seq (.seq (.region id ops false) y) z) Q st) p:=Sq (G hQ hr)
theorem Sb(h:Im (AWp Tryz.prog N E x (AE.inBlock i (AE.then (AWp Tryz.prog N E y Q) Q)) st) p):Im (AWp Tryz.prog N E (.seq (.block i x) y) Q st) p:=Sq (Bk h)
theorem Gb(hQ:Im (AWp Tryz.prog N E x (AE.inBlock i Q) (stOf (R0 N ops [] st))) p)(hr:obOf (R0 N ops [] st)=some []:=by kernel_rfl):Im (AWp Tryz.prog N E (.seq (.region id ops false) (.block i x)) Q st) p:=G (Bk hQ) hr
theorem Cs{α:Type}{b:Bool}{a q:Option α}{r:α}{c:Nat}(ht:Im (Q .normal st) (a=some r))(hf:Im (AWp Tryz.prog N E y Q st) (q=some r))(hc:(look st.env c).map (·.d)=some (.v (.bool b)):=by kernel_rfl):Im (AWp Tryz.prog N E (.cond (.tmp c) .skip y) Q st) ((bif b then a else q)=some r):=C (Sk ht) hf hc
section
variable {ρ:Type} {a r:ρ} {out:ρ→Out} {H2:ρ→List (List Ent)} {rs:List ResultVar}
theorem Pr(hl:leave tt E rs st=some (out a,H2 a):=by kernel_rfl):Im (postC E rs out H2 r .ret st) (some a=some r):=fun h=>by
 obtain rfl:=Option.some.inj h;exact post_ret hl
theorem Rr{Q:AE→St→Prop}(hq:postC E rs out H2 r .ret st=Q .ret st:=by rfl)(hl:leave tt E rs st=some (out a,H2 a):=by kernel_rfl):Im (AWp Tryz.prog N E .ret Q st) (some a=some r):=Rt fun h=>hq ▸ Pr hl h
theorem GP{Q:AE→St→Prop}{id:Nat}{ops:Array Oper}(hq:postC E rs out H2 r .ret (stOf (R0 N ops [] st))=Q .ret (stOf (R0 N ops [] st)):=by rfl)(hl:leave tt E rs (stOf (R0 N ops [] st))=some (out a,H2 a):=by kernel_rfl)(hr:obOf (R0 N ops [] st)=some []:=by kernel_rfl):Im (AWp Tryz.prog N E (.seq (.region id ops false) .ret) Q st) (some a=some r):=G (Rr hq hl) hr
theorem Cr{Q:AE→St→Prop}{id:Nat}{ops:Array Oper}{b:Bool}{q:Option ρ}{c:Nat}{y:Code}(hf:Im (AWp Tryz.prog N E y Q st) (q=some r))(hq:postC E rs out H2 r .ret (stOf (R0 N ops [] st))=Q .ret (stOf (R0 N ops [] st)):=by rfl)(hl:leave tt E rs (stOf (R0 N ops [] st))=some (out a,H2 a):=by kernel_rfl)(hr:obOf (R0 N ops [] st)=some []:=by kernel_rfl)(hc:(look st.env c).map (·.d)=some (.v (.bool b)):=by kernel_rfl):Im (AWp Tryz.prog N E (.cond (.tmp c) (.seq (.region id ops false) .ret) y) Q st) ((bif b then some a else q)=some r):=C (GP hq hl hr) hf hc
theorem Ck{Q:AE→St→Prop}{id:Nat}{ops:Array Oper}{b:Bool}{q:Option ρ}{c:Nat}(hf:Im (Q .normal st) (q=some r))(hq:postC E rs out H2 r .ret (stOf (R0 N ops [] st))=Q .ret (stOf (R0 N ops [] st)):=by rfl)(hl:leave tt E rs (stOf (R0 N ops [] st))=some (out a,H2 a):=by kernel_rfl)(hr:obOf (R0 N ops [] st)=some []:=by kernel_rfl)(hc:(look st.env c).map (·.d)=some (.v (.bool b)):=by kernel_rfl):Im (AWp Tryz.prog N E (.cond (.tmp c) (.seq (.region id ops false) .ret) .skip) Q st) ((bif b then some a else q)=some r):=Cr (Sk hf) hq hl hr hc
end
theorem Fw{f:FuncId}{fn:Func}{c:Code}{args:List D}{ow:List (Nat×TypeId)}{H:List (List Ent)}{ρ:Type}{F:Option ρ}{out:ρ→Out}{H2:ρ→List (List Ent)}(hf:Tryz.prog.funcs[f]? = some fn)(hb:fn.body=some c)
    (h : ∀ {r : ρ}, Im (AWp Tryz.prog fn.ntmps H.length c (postC H.length fn.results.toList out H2 r) { env := envOf args ow, H := enumFrom' 0 H, nxt := H.length }) (F = some r)) (hname : decide (fn.name = "runtime.NumGoroutine") = false := by rfl) (ha : Nat.ble args.length fn.ntmps = true := by rfl) : Con f args ow H F out H2 :=
  ⟨fun h0=>says_of_wp tt_ok hf hb hname ha (h h0)⟩
section
variable {α β:Type} {F:Option α} {g:α→Option β} {r:β} {f:FuncId} {args:List D} {ow:List (Nat×TypeId)} {H:List (List Ent)} {out:α→Out} {H2:α→List (List Ent)}
theorem Aa{g:Bool}{a:Option β}(hQ:Im (AWp Tryz.prog N E y Q (stOf (R0 N ops [] st))) (a=some r))(hr:obOf (R0 N ops [] st)=some [g=true]:=by kernel_rfl):Im (AWp Tryz.prog N E (.seq (.region id ops false) y) Q st) (ass g a=some r):=fun h=>Ho [] (A_ (ass_some h).1 Z_) hQ hr (ass_some h).2
theorem Ar{g:Bool}{a:Option β}(hQ:Im (AWp Tryz.prog N E y Q (stOf (R0 N ops [.raw] st))) (a=some r))(hr:obOf (R0 N ops [.raw] st)=some [g=true]:=by kernel_rfl):Im (AWp Tryz.prog N E (.seq (.region id ops false) y) Q st) (ass g a=some r):=fun h=>Ho [.raw] (A_ (ass_some h).1 Z_) hQ hr (ass_some h).2
end
end
section
variable {α β γ δ:Type} {p:Prop}
end
section
variable {p:Prop} {ρ:Type} {r:ρ} {N E:Nat} {st:St} {Q:AE→St→Prop} {x y:Code}
theorem E0{sh:St}{f:Option ρ}(hr:rs0 (sh) st=some (sh):=by kernel_rfl):Im (rs0 (sh) st=some (sh)∧f=some r) (f=some r):=fun h=>⟨hr,h⟩
theorem K0(sh:St)(f:Option ρ)(h1:Im (AWp Tryz.prog N E x (AE.then (fun st'=>rs0 (sh) st'=some (sh)∧f=some r) Q) st) p)(h2:Im (AWp Tryz.prog N E y Q (sh)) (f=some r))(hE:Nat.ble E (sh).nxt=true:=by intros;kernel_rfl):Im (AWp Tryz.prog N E (.seq x y) Q st) p:=fun z=>
 AWp.cut _ (h1 z) fun st' ⟨hr,h⟩=>AWp.dropF _ _ _ _ hr (hE) (h2 h)
end
section
variable {p:Prop} {α:Type} {ρ:Type} {r:ρ} {N E:Nat} {st:St} {Q:AE→St→Prop} {x y:Code}
theorem E1{sh:α→St}{f:α→Option ρ}{a0:_}(hr:rs0 (sh a0) st=some (sh a0):=by kernel_rfl):Im (∃a0,rs0 (sh a0) st=some (sh a0)∧f a0=some r) (f a0=some r):=fun h=>⟨a0,hr,h⟩
theorem K1(sh:α→St)(f:α→Option ρ)(h1:Im (AWp Tryz.prog N E x (AE.then (fun st'=>∃a0,rs0 (sh a0) st'=some (sh a0)∧f a0=some r) Q) st) p)(h2:∀a0,Im (AWp Tryz.prog N E y Q (sh a0)) (f a0=some r))(hE:∀a0,Nat.ble E (sh a0).nxt=true:=by intros;kernel_rfl):Im (AWp Tryz.prog N E (.seq x y) Q st) p:=fun z=>
 AWp.cut _ (h1 z) fun st' ⟨a0,hr,h⟩=>AWp.dropF _ _ _ _ hr (hE a0) (h2 a0 h)
theorem L1(sh:α→St)(F:Nat→α→Option ρ)(B:(α→Option ρ)→α→Option ρ){n:Nat}{a0:_}(body:∀k a0,Im (AWp Tryz.prog N E x (AE.then (fun st'=>∃a0,rs0 (sh a0) st'=some (sh a0)∧k a0=some r) Q) (sh a0)) (B k a0=some r))(hi:rs0 (sh a0) st=some (sh a0):=by kernel_rfl)(hE:∀a0,Nat.ble E (sh a0).nxt=true:=by intros;kernel_rfl)(h0:∀a0,F 0 a0=none:=by intros;rfl)(hs:∀m a0,F (m+1) a0=B (F m) a0:=by intros;rfl):Im (AWp Tryz.prog N E (.loop x) Q st) (F n a0=some r):=by
 intro h
 refine AWp.loop (σ:=α) (fun m (s:α) st=>rs0 (sh s) st=some (sh s)∧F m s=some r) ?_ (n:=n) (s:=a0) ⟨hi,h⟩
 rintro m a0 st' ⟨hr,h⟩
 cases m with
 |zero=>have h2:=(h0 a0).symm.trans h;cases h2
 |succ m=>
  refine⟨m,rfl,AWp.dropF _ _ _ _ hr (hE a0) ((body (F m) a0 ((hs m a0).symm.trans h)).mono ?_)⟩
  intro ae st2 hq
  cases ae with
  |normal=>obtain⟨a0,g1,g2⟩:=hq;exact⟨a0,g1,g2⟩
  |exit i=>exact hq
  |ret=>exact hq
  |pan x=>exact hq
end
theorem tn1{Q:AE→St→Prop}{A B:St→Prop}(h:∀st,A st→B st):∀ae st,AE.then A Q ae st→AE.then B Q ae st:=fun ae st hq=>by cases ae<;>first|exact h _ hq|exact hq
section
variable {p:Prop} {α β:Type} {ρ:Type} {r:ρ} {N E:Nat} {st:St} {Q:AE→St→Prop} {x y:Code}
theorem E2{sh:α→β→St}{f:α→β→Option ρ}{a0 a1:_}(hr:rs0 (sh a0 a1) st=some (sh a0 a1):=by kernel_rfl):Im (∃a0 a1,rs0 (sh a0 a1) st=some (sh a0 a1)∧f a0 a1=some r) (f a0 a1=some r):=fun h=>⟨a0,a1,hr,h⟩
theorem L2(sh:α→β→St)(F:Nat→α→β→Option ρ)(B:(α→β→Option ρ)→α→β→Option ρ){n:Nat}{a0 a1:_}(body:∀k a0 a1,Im (AWp Tryz.prog N E x (AE.then (fun st'=>∃a0 a1,rs0 (sh a0 a1) st'=some (sh a0 a1)∧k a0 a1=some r) Q) (sh a0 a1)) (B k a0 a1=some r))(hi:rs0 (sh a0 a1) st=some (sh a0 a1):=by kernel_rfl)(hE:∀a0 a1,Nat.ble E (sh a0 a1).nxt=true:=by intros;kernel_rfl)(h0:∀a0 a1,F 0 a0 a1=none:=by intros;rfl)(hs:∀m a0 a1,F (m+1) a0 a1=B (F m) a0 a1:=by intros;rfl):Im (AWp Tryz.prog N E (.loop x) Q st) (F n a0 a1=some r):=
 L1 (fun x:α×β=>sh x.1 x.2) (fun m x=>F m x.1 x.2) (fun k x=>B (fun a0 a1=>k (a0,a1)) x.1 x.2) (a0:=(a0,a1)) (fun k x h=>(body (fun a0 a1=>k (a0,a1)) x.1 x.2 h).mono (tn1 fun _ ⟨a0,a1,g⟩=>⟨(a0,a1),g⟩)) hi (fun x=>hE x.1 x.2) (fun x=>h0 x.1 x.2) fun m x=>hs m x.1 x.2
end
section
variable {p:Prop} {α β γ:Type} {ρ:Type} {r:ρ} {N E:Nat} {st:St} {Q:AE→St→Prop} {x y:Code}
end
section
variable {p:Prop} {α β γ δ:Type} {ρ:Type} {r:ρ} {N E:Nat} {st:St} {Q:AE→St→Prop} {x y:Code}
theorem K4(sh:α→β→γ→δ→St)(f:α→β→γ→δ→Option ρ)(h1:Im (AWp Tryz.prog N E x (AE.then (fun st'=>∃a0 a1 a2 a3,rs0 (sh a0 a1 a2 a3) st'=some (sh a0 a1 a2 a3)∧f a0 a1 a2 a3=some r) Q) st) p)(h2:∀a0 a1 a2 a3,Im (AWp Tryz.prog N E y Q (sh a0 a1 a2 a3)) (f a0 a1 a2 a3=some r))(hE:∀a0 a1 a2 a3,Nat.ble E (sh a0 a1 a2 a3).nxt=true:=by intros;kernel_rfl):Im (AWp Tryz.prog N E (.seq x y) Q st) p:=
 K1 (fun x:α×β×γ×δ=>sh x.1 x.2.1 x.2.2.1 x.2.2.2) (fun x=>f x.1 x.2.1 x.2.2.1 x.2.2.2) (fun z=>(h1 z).mono (tn1 fun _ ⟨a0,a1,a2,a3,g⟩=>⟨(a0,a1,a2,a3),g⟩)) (fun x=>h2 x.1 x.2.1 x.2.2.1 x.2.2.2) fun x=>hE x.1 x.2.1 x.2.2.1 x.2.2.2
end
section
variable {p:Prop} {α β γ δ ε:Type} {ρ:Type} {r:ρ} {N E:Nat} {st:St} {Q:AE→St→Prop} {x y:Code}
theorem K5(sh:α→β→γ→δ→ε→St)(f:α→β→γ→δ→ε→Option ρ)(h1:Im (AWp Tryz.prog N E x (AE.then (fun st'=>∃a0 a1 a2 a3 a4,rs0 (sh a0 a1 a2 a3 a4) st'=some (sh a0 a1 a2 a3 a4)∧f a0 a1 a2 a3 a4=some r) Q) st) p)(h2:∀a0 a1 a2 a3 a4,Im (AWp Tryz.prog N E y Q (sh a0 a1 a2 a3 a4)) (f a0 a1 a2 a3 a4=some r))(hE:∀a0 a1 a2 a3 a4,Nat.ble E (sh a0 a1 a2 a3 a4).nxt=true:=by intros;kernel_rfl):Im (AWp Tryz.prog N E (.seq x y) Q st) p:=
 K1 (fun x:α×β×γ×δ×ε=>sh x.1 x.2.1 x.2.2.1 x.2.2.2.1 x.2.2.2.2) (fun x=>f x.1 x.2.1 x.2.2.1 x.2.2.2.1 x.2.2.2.2) (fun z=>(h1 z).mono (tn1 fun _ ⟨a0,a1,a2,a3,a4,g⟩=>⟨(a0,a1,a2,a3,a4),g⟩)) (fun x=>h2 x.1 x.2.1 x.2.2.1 x.2.2.2.1 x.2.2.2.2) fun x=>hE x.1 x.2.1 x.2.2.1 x.2.2.2.1 x.2.2.2.2
end
section
variable {p:Prop} {α β γ δ ε ζ:Type} {ρ:Type} {r:ρ} {N E:Nat} {st:St} {Q:AE→St→Prop} {x y:Code}
end
end Go.Ab.Y.T
namespace Go.Ab.Y
open Go Go.Ab Go.Proofs
set_option linter.unusedVariables false
open T
set_option maxRecDepth 20000
set_option linter.unusedVariables false
theorem c_disk_Valid{n:Nat}{d:Disk}:Con 47 [.v (.agg [encL 1 e_str d.Sectors,encL 2 enc_Write d.Pending,.int .i64 d.Fuse,.int .i64 d.Ops,.bool d.Dead])] [] [] (F_disk_Valid n d) (fun r=>oR (vB r)) (fun _=>[]):=
 Fw Tryz.func47 rfl (G (G (Sg (Ck (K0
 (⟨[(1,eP 0 0),(3,eI ((d.Sectors.length:Nat):Int))],[(0,[eL 1 e_str d.Sectors,eL 2 enc_Write d.Pending,eI d.Fuse,eI d.Ops,eB d.Dead])],1⟩)
 (F_disk_Valid_j1 n d) (Gb (L1
 (fun v4=>⟨[(1,eP 0 0),(3,eI ((d.Sectors.length:Nat):Int)),(38,eL 1 e_str d.Sectors),(39,eI ((d.Sectors.length:Nat):Int)),(40,eI v4)],[(0,[eL 1 e_str d.Sectors,eL 2 enc_Write d.Pending,eI d.Fuse,eI d.Ops,eB d.Dead])],1⟩)
 (F_disk_Valid_l4 n d) (F_disk_Valid_b4 n d) fun k4 v4=>G (Sq (Cs (Sb (Ar (G (Ck (Rk E1))))) (Ex (bh_ E0)))))) (K0 (s0 []) (F_disk_Valid_j2 n) (Gb (L1
 (fun v9=>s0 [(3,eI ((d.Sectors.length:Nat):Int)),(49,eL 2 enc_Write d.Pending),(50,eI ((d.Pending.length:Nat):Int)),(51,eI v9)]) (F_disk_Valid_l3 n d)
 (F_disk_Valid_b3 n d) fun k3 v9=>G (Sq (Cs (Sb (Ar (G (Ck (Rk E1))))) (Ex (bh_ E0)))))) GP))))))
theorem c_checksum_Update{n:Nat}{sum:Int}{s:List UInt8}:Con 504 [.v (.int .u32 sum),vS s] [] [] (F_checksum_Update n sum s) (fun r=>oR (.v (.int .u32 r))) (fun _=>[]):=
 Fw Tryz.func504 rfl (G (G (K1 (fun v27=>s0 [(5,eV (.int .u32 v27))]) (F_checksum_Update_j1 n) (Gb (L2
 (fun v13 v14=>s0 [(1,eS s),(5,eV (.int .u32 v14)),(11,eI ((s.length:Nat):Int)),(12,eI v13)]) (F_checksum_Update_l2 n s) (F_checksum_Update_b2 n s) fun k2 v13
 v14=>G (Sq (Cs (K1 (fun v24=>s0 [(1,eS s),(5,eV (.int .u32 v24)),(11,eI ((s.length:Nat):Int)),(12,eI v13)]) (F_checksum_Update_j3 n k2 s v13) (Bk (G (Aa
 (Gb (L2 (fun v19 v20=>s0 [(1,eS s),(5,eV (.int .u32 v20)),(11,eI ((s.length:Nat):Int)),(12,eI v13),(21,eI v19)]) (F_checksum_Update_l4 n k2 s v13)
 (F_checksum_Update_b4 n k2 s v13) fun k4 v19 v20=>G (Sq (Cs (K1
 (fun v21=>s0 [(1,eS s),(5,eV (.int .u32 v21)),(11,eI ((s.length:Nat):Int)),(12,eI v13),(21,eI v19)]) (F_checksum_Update_j5 n k4 k2 s v13 v19) (Bk (G (Ho []
 (A_ (rfl:shB 1=true) Z_) (G (C (Rk E1) (Sk E1)))))) fun v21=>Rk E2) (Ex (bh_ E1))))))))) fun v24=>Rk E2) (Ex (bh_ E1)))))) fun v27=>GP)))
end Go.Ab.Y
namespace Go.Ab.Y
open Go Go.Ab Go.Ab.Cm Go.Proofs
theorem wr_s{i:Nat}(h:i≤4611686018427387904):IntKind.i64.wrap ((i:Int)+1)=((i+1:Nat):Int):=by rw [IntKind.wrap_i64];omega
def goodW(n:Nat)(w:Write):Prop:=0≤w.At∧w.At<n∧w.Data.length=64
theorem dv_3(n:Nat)(d:Disk)(hl:d.Pending.length≤1024)(hw:∀w,w∈d.Pending→goodW d.Sectors.length w):∀(m k:Nat),k≤d.Pending.length→d.Pending.length<k+m→F_disk_Valid_l3 n d m (k:Int)=some true
 | 0,k,h1,h2=>by omega
 |m+1,k,h1,h2=>by
  show F_disk_Valid_b3 n d (F_disk_Valid_l3 n d m) (k:Int)=some true
  unfold F_disk_Valid_b3
  by_cases hk:k<d.Pending.length
  ·have e:d.Pending.getD k default=d.Pending[k]:=by simp [List.getD,hk]
   obtain⟨g1,g2,g3⟩:=hw _ (List.getElem_mem hk)
   rw [decide_eq_true (show(k:Int)<((d.Pending.length:Nat):Int)by omega),cond_true,ass_of (by unfold inB;simp only [Bool.and_eq_true,decide_eq_true_eq];omega),Int.toNat_natCast,e]
   rw [decide_eq_false (show¬ d.Pending[k].At<0 by omega),cond_false,decide_eq_false (show¬ ((d.Sectors.length:Nat):Int)≤d.Pending[k].At by omega),cond_false,g3,wr_s (by omega)]
   exact dv_3 n d hl hw m (k+1) hk (by omega)
  ·rw [decide_eq_false (show¬ (k:Int)<((d.Pending.length:Nat):Int)by omega)];rfl
theorem dv_4(n:Nat)(d:Disk)(hn:2000≤n)(hs:d.Sectors.length≤1024)(h64:∀s,s∈d.Sectors→s.length=64)(hl:d.Pending.length≤1024)(hw:∀w,w∈d.Pending→goodW d.Sectors.length w):∀(m k:Nat),k≤d.Sectors.length→d.Sectors.length<k+m→F_disk_Valid_l4 n d m (k:Int)=some true
 | 0,k,h1,h2=>by omega
 |m+1,k,h1,h2=>by
  show F_disk_Valid_b4 n d (F_disk_Valid_l4 n d m) (k:Int)=some true
  unfold F_disk_Valid_b4
  by_cases hk:k<d.Sectors.length
  ·have e:d.Sectors.getD k default=d.Sectors[k]:=by simp [List.getD,hk]
   have g3:=h64 _ (List.getElem_mem hk)
   rw [decide_eq_true (show(k:Int)<((d.Sectors.length:Nat):Int)by omega),cond_true,ass_of (by unfold inB;simp only [Bool.and_eq_true,decide_eq_true_eq];omega),Int.toNat_natCast,e,g3,wr_s (by omega)]
   exact dv_4 n d hn hs h64 hl hw m (k+1) hk (by omega)
  ·rw [decide_eq_false (show¬ (k:Int)<((d.Sectors.length:Nat):Int)by omega)]
   exact dv_3 n d hl hw n 0 (by omega) (by omega)
theorem dv(d:Disk)(h16:16≤d.Sectors.length)(hs:d.Sectors.length≤1024)(h64:∀s,s∈d.Sectors→s.length=64)(hl:d.Pending.length≤1024)(hw:∀w,w∈d.Pending→goodW d.Sectors.length w)(f0:0≤d.Fuse)(f1:d.Fuse≤1099511627776)(o0:0≤d.Ops)(o1:d.Ops≤1099511627776):F_disk_Valid 2000 d=some true:=by
 unfold F_disk_Valid
 rw [decide_eq_false (show¬ ((d.Sectors.length:Nat):Int)<16 by omega),cond_false,decide_eq_false (show¬ 1024<((d.Sectors.length:Nat):Int)by omega),cond_false,decide_eq_false (show¬ d.Fuse<0 by omega),cond_false,decide_eq_false (show¬ 1099511627776<d.Fuse by omega),cond_false,decide_eq_false (show¬ d.Ops<0 by omega),cond_false,decide_eq_false (show¬ 1099511627776<d.Ops by omega),cond_false]
 exact dv_4 2000 d (by omega) hs h64 hl hw 2000 0 (by omega) (by omega)
noncomputable def crcBit(c:Nat):Nat:=Bool.rec (motive:=fun _=>Nat) (Nat.div c 2) (Nat.xor (Nat.div c 2) 2197175160) (Nat.beq (Nat.mod c 2) 1)
noncomputable def crcByte(c b:Nat):Nat:=crcBit (crcBit (crcBit (crcBit (crcBit (crcBit (crcBit (crcBit (Nat.xor c b))))))))
noncomputable def crcL(l:List UInt8):Nat→Nat:=List.rec (motive:=fun _=>Nat→Nat) (fun c=>c) (fun b _ ih c=>ih (crcByte c b.toNat)) l
theorem xor32{a b:Nat}(ha:a<4294967296)(hb:b<4294967296):Nat.xor a b<4294967296:=Nat.xor_lt_two_pow (n:=32) ha hb
theorem xorI32{a b:Nat}(ha:a<4294967296)(hb:b<4294967296):xorI .u32 (a:Int) (b:Int)=((Nat.xor a b:Nat):Int):=by
 unfold xorI
 have e:(BitVec.ofInt IntKind.u32.bits (a:Int) ^^^ BitVec.ofInt IntKind.u32.bits (b:Int)).toNat=Nat.xor a b:=by
  rw [BitVec.toNat_xor]
  have ha':(BitVec.ofInt IntKind.u32.bits (a:Int)).toNat=a:=by rw [BitVec.toNat_ofInt];show((a:Int) % 4294967296).toNat=a;omega
  have hb':(BitVec.ofInt IntKind.u32.bits (b:Int)).toNat=b:=by rw [BitVec.toNat_ofInt];show((b:Int) % 4294967296).toNat=b;omega
  rw [ha',hb'];rfl
 rw [e,IntKind.wrap_u32]
 have:=xor32 ha hb
 omega
theorem andI32{a:Nat}(ha:a<4294967296):andI .u32 (a:Int) 1=((a % 2:Nat):Int):=by
 unfold andI
 have e:(BitVec.ofInt IntKind.u32.bits (a:Int) &&& BitVec.ofInt IntKind.u32.bits 1).toNat=a % 2:=by
  rw [BitVec.toNat_and]
  have ha':(BitVec.ofInt IntKind.u32.bits (a:Int)).toNat=a:=by rw [BitVec.toNat_ofInt];show((a:Int) % 4294967296).toNat=a;omega
  have hb':(BitVec.ofInt IntKind.u32.bits 1).toNat=1:=by rw [BitVec.toNat_ofInt];rfl
  rw [ha',hb',Nat.and_one_is_mod]
 rw [e,IntKind.wrap_u32]
 omega
theorem shrI32(a:Nat):shrI .u32 (a:Int) 1=((a / 2:Nat):Int):=by
 unfold shrI
 have:(2:Int) ^ min (1:Int).toNat IntKind.u32.bits=2:=by decide
 rw [this]
 rw [Int.fdiv_eq_ediv_of_nonneg _ (by omega)]
 omega
theorem crcBit_lt{c:Nat}(h:c<4294967296):crcBit c<4294967296:=by
 unfold crcBit
 have h2:Nat.div c 2<4294967296:=Nat.lt_of_le_of_lt (Nat.div_le_self c 2) h
 cases Nat.beq (Nat.mod c 2) 1 with
 |false=>exact h2
 |true=>exact xor32 h2 (by omega)
noncomputable def bits(k c:Nat):Nat:=Nat.rec (motive:=fun _=>Nat→Nat) (fun c=>c) (fun _ ih c=>ih (crcBit c)) k c
theorem cu_4(n:Nat)(k2:Int→Int→Option Int)(s:List UInt8)(v13:Nat)(h13:v13≤4611686018427387904):∀(k m c:Nat),k≤8→k<m→c<4294967296→F_checksum_Update_l4 n k2 s (v13:Int) m ((8-k:Nat):Int) (c:Int)=k2 ((v13+1:Nat):Int) ((bits k c:Nat):Int)
 |k,0,c,h0,h1,hc=>by omega
 | 0,m+1,c,h0,h1,hc=>by
  show F_checksum_Update_b4 n k2 s (v13:Int) (F_checksum_Update_l4 n k2 s (v13:Int) m) ((8:Nat):Int) (c:Int)=_
  unfold F_checksum_Update_b4 F_checksum_Update_j3
  rw [decide_eq_false (show¬ ((8:Nat):Int)<8 by omega),cond_false,wr_s h13]
  rfl
 |k+1,m+1,c,h0,h1,hc=>by
  show F_checksum_Update_b4 n k2 s (v13:Int) (F_checksum_Update_l4 n k2 s (v13:Int) m) ((8-(k+1):Nat):Int) (c:Int)=_
  unfold F_checksum_Update_b4 F_checksum_Update_j5
  rw [decide_eq_true (show((8-(k+1):Nat):Int)<8 by omega),cond_true,wr_s (by omega),show 8-(k+1)+1=8-k by omega]
  have hb:bits (k+1) c=bits k (crcBit c):=rfl
  have ih:=cu_4 n k2 s v13 h13 k m (crcBit c) (by omega) (by omega) (crcBit_lt hc)
  rw [hb,←ih,andI32 hc,shrI32]
  by_cases h2:c % 2=1
  ·have e:crcBit c=Nat.xor (c / 2) 2197175160:=by
    unfold crcBit
    rw [show Nat.beq (Nat.mod c 2) 1=true by rw [Nat.beq_eq];exact h2];rfl
   rw [decide_eq_true (show((c % 2:Nat):Int)=1 by omega),cond_true,e,←xorI32 (a:=c / 2) (b:=2197175160) (by omega) (by omega)]
   rfl
  ·have e:crcBit c=c / 2:=by
    unfold crcBit
    rw [show Nat.beq (Nat.mod c 2) 1=false by rw [Bool.eq_false_iff];intro hh;rw [Nat.beq_eq]at hh;exact h2 hh];rfl
   rw [decide_eq_false (show¬ ((c % 2:Nat):Int)=1 by omega),cond_false,e]
theorem wr_b(c:UInt8):IntKind.u32.wrap (((c.toNat:Nat):Int))=(c.toNat:Int):=by
 rw [IntKind.wrap_u32]
 have:=c.toNat_lt
 omega
theorem cu_2(n:Nat)(s:List UInt8)(hn:9≤n)(hs:s.length≤4611686018427387904):∀(m k c:Nat),k≤s.length→s.length<k+m→c<4294967296→F_checksum_Update_l2 n s m (k:Int) (c:Int)=some (((Nat.xor (crcL (s.drop k) c) 4294967295:Nat):Int))
 | 0,k,c,h1,h2,hc=>by omega
 |m+1,k,c,h1,h2,hc=>by
  show F_checksum_Update_b2 n s (F_checksum_Update_l2 n s m) (k:Int) (c:Int)=_
  unfold F_checksum_Update_b2
  by_cases hk:k<s.length
  ·have e:s.getD k 0=s[k]:=by simp [List.getD,hk]
   rw [decide_eq_true (show(k:Int)<((s.length:Nat):Int)by omega),cond_true,ass_of (by unfold inB;simp only [Bool.and_eq_true,decide_eq_true_eq];omega),Int.toNat_natCast,e,wr_b]
   have h8:s[k].toNat<4294967296:=Nat.lt_trans s[k].toNat_lt (by omega)
   rw [xorI32 hc h8]
   have hx:=xor32 hc h8
   have:=cu_4 n (F_checksum_Update_l2 n s m) s k (by omega) 8 n (Nat.xor c s[k].toNat) (by omega) (by omega) hx
   rw [show((8-8:Nat):Int)=0 by rfl]at this
   rw [this]
   have hb:bits 8 (Nat.xor c s[k].toNat)=crcByte c s[k].toNat:=rfl
   have hlt:crcByte c s[k].toNat<4294967296:=crcBit_lt (crcBit_lt (crcBit_lt (crcBit_lt (crcBit_lt (crcBit_lt (crcBit_lt (crcBit_lt hx)))))))
   rw [hb,cu_2 n s hn hs m (k+1) _ hk (by omega) hlt,List.drop_eq_getElem_cons hk]
   rfl
  ·rw [decide_eq_false (show¬ (k:Int)<((s.length:Nat):Int)by omega),cond_false,List.drop_eq_nil_of_le (by omega)]
   unfold F_checksum_Update_j1
   rw [show(4294967295:Int)=((4294967295:Nat):Int)by rfl,xorI32 hc (by omega)]
   rfl
theorem cu(sum:Nat)(s:List UInt8)(h:sum<4294967296)(hs:s.length≤100000):F_checksum_Update 100001 (sum:Int) s=some (((Nat.xor (crcL s (Nat.xor sum 4294967295)) 4294967295:Nat):Int)):=by
 unfold F_checksum_Update
 rw [show(4294967295:Int)=((4294967295:Nat):Int)by rfl,xorI32 h (by omega)]
 exact cu_2 100001 s (by omega) (by omega) 100001 0 _ (by omega) (by omega) (xor32 h (by omega))
end Go.Ab.Y
namespace Go.Ab.Y
open Go Go.Ab Go.Ab.Cm Go.Proofs
theorem has_of {f : FuncId} {fd : Func} (h : Tryz.prog.funcs[f]? = some fd) (hb : fd.body.isSome = true) (hn : decide (fd.name = "runtime.NumGoroutine") = false) : HasF Tryz.prog f := ⟨fd, h, hb, of_decide_eq_false hn⟩
theorem xcmp:XOk Tryz.prog 626 .cmp:=by
 intro a b w
 rw [run_callFunc_extern Tryz.func626 (by kernel_rfl) (by kernel_rfl) (by kernel_rfl) (e:=Extern.BytealgCompare.compare) (by kernel_rfl)]
 rw [Lib.run_compareString]
 rfl
theorem chk_388:ChkOk Tryz.prog 388 419 where
 has:=has_of Tryz.func388 rfl (by kernel_rfl)
 used:=copyCheck_used
 fresh:=copyCheck_fresh
theorem str_259:StrOk Tryz.prog 259 5 where
 has:=has_of Tryz.func259 rfl (by kernel_rfl)
 one:=cellsByte
 nil:=bstr_nil
 room:=bstr_room
 noroom:=bstr_noroom
 some':=bstr_some
theorem one_arg{args:List CV}{vs:List Value}{β:Nat→Option BI}(hl:vs.length=args.length){l:List UInt8}(ha:args=[.str l])(hr:∀(i:Nat) u c,vs[i]? = some u→args[i]? = some c→CR β u c):vs=[.string ⟨⟨l⟩⟩]:=by
 subst ha
 match vs,hl with
 |[v],_=>have h:=hr 0 v _ rfl rfl;cases h;rfl
noncomputable def gCln(args:List CV)(_:T Blk):Option CV:=match args with
 |[.str l]=>bif Nat.ble (lenR l) 281474976710656 then some (.str l)else none
 |_=>none
theorem cln_652:FnOk Tryz.prog 652 gCln where
 has:=has_of Tryz.func652 rfl (by kernel_rfl)
 run:=fun args H c h K nx β vs w hl hr _=>by
  unfold gCln at h
  split at h
  case h_2=>cases h
  rename_i l
  rw [Bool.cond_eq_ite]at h
  split at h<;>cases h
  rename_i hle
  rw [lenR_eq]at hle
  obtain rfl:=one_arg hl rfl hr
  refine(Tryz.stringslite_Clone ⟨⟨l⟩⟩ w (Nat.le_of_ble_eq_true hle)).mono ?_
  rintro e w' ⟨rfl,hb⟩
  exact⟨_,rfl,.str _,fun b ob h=>by rw [hb.block b (Array.getElem?_eq_some_iff.1 h).1];exact h,by rw [hb.os,hb.output]⟩
theorem idx_733:PurOk Tryz.prog 733 0 where
 has:=has_of Tryz.func733 rfl (by kernel_rfl)
 run:=fun args c h β vs w hl hr=>by
  unfold pureK at h
  split at h<;>try (rename_i hk;exact absurd hk (by decide))
  ·cases h
   rename_i l z _
   match vs,hl with
   |[v,u],_=>
    have h1:=hr 0 v _ rfl rfl
    have h2:=hr 1 u _ rfl rfl
    cases h1;cases h2
    refine(Tryz.stringslite_IndexByte ⟨⟨l⟩⟩ z w).mono ?_
    rintro e w' ⟨rfl,rfl⟩
    exact⟨_,rfl,.int _ _,fun b ob h=>h,rfl⟩
  ·cases h
theorem bytesWorld_oo(w:World)(e:TypeId)(t:ByteArray):((Lib.bytesWorld w e t).os,(Lib.bytesWorld w e t).output)=(w.os,w.output):=by
 rw [(Lib.bytesWorld_below w e t).os,(Lib.bytesWorld_below w e t).output]
theorem pint_732:PurOk Tryz.prog 732 2 where
 has:=has_of Tryz.func732 rfl (by kernel_rfl)
 run:=fun args c h β vs w hl hr=>by
  unfold pureK at h
  split at h<;>try (rename_i hk;exact absurd hk (by decide))
  ·rename_i l b z _
   rw [Bool.cond_eq_ite]at h
   split at h
   case isFalse=>cases h
   rename_i g
   simp only [Bool.and_eq_true,decide_eq_true_eq]at g
   obtain⟨rfl,rfl,g⟩:=g
   rw [lenR_eq]at g
   have g:=Nat.le_of_ble_eq_true g
   split at h<;>cases h
   rename_i v hp
   match vs,hl with
   |[v1,v2,v3],_=>
    have h1:=hr 0 v1 _ rfl rfl
    have h2:=hr 1 v2 _ rfl rfl
    have h3:=hr 2 v3 _ rfl rfl
    cases h1;cases h2;cases h3
    refine(Tryz.strconv_ParseInt_10_at64_ok ⟨⟨l⟩⟩ (show l.length≤9223372036854775806 by omega) v hp w).mono ?_
    rintro e w' ⟨rfl,hw⟩
    refine⟨_,rfl,.tup [_,_] _ rfl fun i v c hi hc=>?_,fun b ob h=>?_,by rcases hw with rfl|⟨t,rfl⟩;rfl;exact bytesWorld_oo _ _ _⟩
    ·match i with
     | 0=>cases hi;cases hc;exact .int _ _
     | 1=>cases hi;cases hc;exact .nili
     |i+2=>simp at hi
    ·rcases hw with rfl|⟨t,rfl⟩
     ·exact h
     ·rw [Lib.bytesWorld_at_old _ _ _ _ (Array.getElem?_eq_some_iff.1 h).1];exact h
  ·cases h
end Go.Ab.Y
namespace Go.Ab.Y
open Go Go.Ab Go.Ab.Cm Go.Proofs
noncomputable def gCrc(args:List CV)(_:T Blk):Option CV:=match args with
 |[.int .u32 s,.str l]=>bif Nat.ble (lenR l) 100000&&(decide (0≤s)&&Nat.ble s.toNat 4294967295)then some (.int .u32 (Int.ofNat (Nat.xor (crcL l (Nat.xor s.toNat 4294967295)) 4294967295)))else none
 |_=>none
theorem crc_504:FnOk Tryz.prog 504 gCrc:=by
 refine fn_of_says (has_of Tryz.func504 rfl (by kernel_rfl)) fun args H c h=>?_
 unfold gCrc at h
 split at h
 case h_2=>cases h
 rename_i s l
 rw [Bool.cond_eq_ite]at h
 split at h<;>cases h
 rename_i g
 simp only [Bool.and_eq_true,decide_eq_true_eq]at g
 obtain⟨g1,g2,g3⟩:=g
 rw [lenR_eq]at g1
 have g1:=Nat.le_of_ble_eq_true g1
 have g3:=Nat.le_of_ble_eq_true g3
 have h1:=cu s.toNat l (by omega) g1
 rw [Int.toNat_of_nonneg g2]at h1
 refine⟨[.int .u32 s,.str l],_,rfl,fun hs i c x u hc hx hr=>?_,c_checksum_Update.of h1,rfl⟩
 match i with
 | 0=>cases hc;cases hx;cases hr;exact .int _ _
 | 1=>cases hc;cases hx;cases hr;exact .str _
 |i+2=>simp at hx
noncomputable def dWr(cs:List CV):Option Write:=match cs with
 |[.int .i64 a,.str d]=>some ⟨a,d⟩
 |_=>none
theorem dec_wr{H:T Blk}:DecN H 2 dWr enc_Write:=by
 intro P K nx β w hs cs vs a hf hl h1 hr
 unfold dWr at hf
 split at hf
 case h_2=>cases hf
 cases hf
 refine⟨rfl,rfl,fun i v x hv hx=>?_⟩
 match i with
 | 0=>cases hx;have:=hr 0 v _ hv rfl;cases this;exact .int _ _
 | 1=>cases hx;have:=hr 1 v _ hv rfl;cases this;exact .str _
 |i+2=>simp [enc_Write,V.cells]at hx
noncomputable def lenIs(n:Nat)(l:List UInt8):Bool:=Nat.beq (lenR l) n
noncomputable def len64(c:CV):Bool:=match c with|.str l=>lenIs 64 l|_=>false
noncomputable def secAll(cs:T CV)(off n:Nat):Bool:=Nat.rec (motive:=fun _=>Bool) true (fun k ih=>match cs.at' (Nat.add off k) with|some c=>Bool.rec (motive:=fun _=>Bool) false ih (len64 c)|none=>false) n
noncomputable def rowAll(H:T Blk)(r off n:Nat):Bool:=match H.at' r with|some (.row _ cs _)=>secAll cs off n|_=>false
noncomputable def okWr(n:Nat)(w:Write):Bool:=decide (0≤w.At)&&(decide (w.At<n)&&lenIs 64 w.Data)
noncomputable def gDsk(args:List CV)(H:T Blk):Option CV:=match args with
 |[.agg [.slc r off n _ _ k,b,.int .i64 fu,.int .i64 op,.bool _]]=>match dList H 2 dWr b with
  |some W=>bif Nat.beq k 1&&(Nat.ble 16 n&&(Nat.ble n 1024&&(decide (0≤fu)&&(decide (fu≤1099511627776)&&(decide (0≤op)&&(decide (op≤1099511627776)&&(Nat.ble (lenR W) 1024&&(W.all (okWr n)&&rowAll H r off n))))))))then some (.bool true)else none
  |none=>none
 |_=>none
theorem lenIs_spec{n:Nat}{l:List UInt8}(h:lenIs n l=true):l.length=n:=by
 unfold lenIs at h
 rw [lenR_eq]at h
 simpa using h
theorem secAll_spec{cs:T CV}{off:Nat}:∀n,secAll cs off n=true→∀k,k<n→∃s:List UInt8,cs.at' (off+k)=some (.str s)∧s.length=64
 | 0,_,k,hk=>by omega
 |n+1,h,k,hk=>by
  have e:secAll cs off (n+1)=match cs.at' (off+n) with|some c=>Bool.rec (motive:=fun _=>Bool) false (secAll cs off n) (len64 c)|none=>false:=rfl
  rw [e]at h
  split at h
  case h_2=>cases h
  rename_i c hc
  cases hq:len64 c with
  |false=>rw [hq]at h;cases h
  |true=>
   rw [hq]at h
   by_cases hkn:k=n
   ·subst hkn
    unfold len64 at hq
    split at hq
    case h_2=>cases hq
    exact⟨_,hc,lenIs_spec hq⟩
   ·exact secAll_spec n h k (by omega)
theorem sec_read{cs:T CV}:∀(n off:Nat),(∀k,k<n→∃s:List UInt8,cs.at' (off+k)=some (.str s)∧s.length=64)→∃S:List (List UInt8),readL cs n off=some (S.map .str)∧S.length=n∧∀s,s∈S→s.length=64
 | 0,off,h=>⟨[],rfl,rfl,by simp⟩
 |n+1,off,h=>by
  obtain⟨s,h1,h2⟩:=h 0 (by omega)
  obtain⟨S,g1,g2,g3⟩:=sec_read n (off+1) (fun k hk=>by
   have:=h (k+1) (by omega)
   rw [show off+(k+1)=off+1+k by omega]at this
   exact this)
  refine⟨s::S,?_,by simp [g2],fun x hx=>?_⟩
  ·have e0:readL cs (n+1) off=Option.rec (motive:=fun _=>Option (List CV)) none (fun x=>Option.rec (motive:=fun _=>Option (List CV)) none (fun l=>some (x::l)) (readL cs n (off+1))) (cs.at' off):=rfl
   rw [e0,show cs.at' off=some (.str s)from h1,g1]
   rfl
  ·rcases List.mem_cons.1 hx with rfl|hx
   ·exact h2
   ·exact g3 x hx
theorem chop_succ{α:Type}(k:Nat)(f:List CV→Option α)(n:Nat)(cs:List CV):chop k f (n+1) cs=match f (cs.take k),chop k f n (cs.drop k) with|some a,some l=>some (a::l)|_,_=>none:=rfl
theorem sec_chop:∀(S:List (List UInt8)),chop 1 (dOne dStr) S.length (S.map .str)=some S
 |[]=>rfl
 |s::S=>by
  rw [List.length_cons,chop_succ]
  have e2:((s::S).map CV.str).drop 1=S.map .str:=rfl
  rw [e2,sec_chop S]
  rfl
theorem rowAll_spec{H:T Blk}{r off n:Nat}(h:rowAll H r off n=true):∃S:List (List UInt8),(∀c x,dList H 1 (dOne dStr) (.slc r off n c x 1)=some S)∧S.length=n∧∀s,s∈S→s.length=64:=by
 unfold rowAll at h
 split at h
 case h_2=>cases h
 rename_i m cs t hq
 obtain⟨S,g1,g2,g3⟩:=sec_read n off (secAll_spec n h)
 refine⟨S,fun c x=>?_,g2,g3⟩
 have e:dList H 1 (dOne dStr) (.slc r off n c x 1)=(cellsAt H r (Nat.mul n 1) off).bind (chop 1 (dOne dStr) n):=rfl
 rw [e,show Nat.mul n 1=n from Nat.mul_one n]
 unfold cellsAt
 rw [hq]
 show(readL cs n off).bind _=_
 rw [g1,Option.bind_some,←g2]
 exact sec_chop S
theorem dsk_47:FnOk Tryz.prog 47 gDsk:=by
 refine fn_of_says (has_of Tryz.func47 rfl (by kernel_rfl)) fun args H c h=>?_
 unfold gDsk at h
 split at h
 case h_2=>cases h
 rename_i r off n cc xx k b fu op dd
 split at h
 case h_2=>cases h
 rename_i W hW
 rw [Bool.cond_eq_ite]at h
 split at h<;>cases h
 rename_i g
 simp only [Bool.and_eq_true,decide_eq_true_eq]at g
 obtain⟨g1,g2,g3,g4,g5,g6,g7,g8,g9,g10⟩:=g
 have g1:k=1:=by simpa using g1
 subst g1
 have g2:=Nat.le_of_ble_eq_true g2
 have g3:=Nat.le_of_ble_eq_true g3
 rw [lenR_eq]at g8
 have g8:=Nat.le_of_ble_eq_true g8
 obtain⟨S,s1,s2,s3⟩:=rowAll_spec g10
 have hd:=dv ⟨S,W,fu,op,dd⟩ (by show 16≤S.length;omega) (by show S.length≤1024;omega) s3 g8 (fun w hw=>by
  have:=List.all_eq_true.1 g9 w hw
  unfold okWr at this
  simp only [Bool.and_eq_true,decide_eq_true_eq]at this
  refine⟨this.1,?_,lenIs_spec this.2.2⟩
  show w.At<(S.length:Int)
  rw [s2];exact this.2.1) g4 g5 g6 g7
 refine⟨[.agg [encL 1 e_str S,encL 2 enc_Write W,.int .i64 fu,.int .i64 op,.bool dd]],_,rfl,fun hs i c x u hc hx hr=>?_,c_disk_Valid.of hd,rfl⟩
 match i with
 |i+1=>simp at hx
 | 0=>
 cases hc;cases hx
 cases hr with
 |agg vs _ hn h1 hr=>
 refine .agg vs _ (by simpa using hn) h1 fun i v x hv hx=>?_
 match i with
 | 0=>cases hx;exact DecN.list (Dec1.one dec_str fun _=>rfl) hs _ v S (s1 cc xx) (hr 0 v _ hv rfl)
 | 1=>cases hx;exact DecN.list dec_wr hs _ v W hW (hr 1 v _ hv rfl)
 | 2=>cases hx;have:=hr 2 v _ hv rfl;cases this;exact .int _ _
 | 3=>cases hx;have:=hr 3 v _ hv rfl;cases this;exact .int _ _
 | 4=>cases hx;have:=hr 4 v _ hv rfl;cases this;exact .bool _
 |i+5=>simp at hx
end Go.Ab.Y

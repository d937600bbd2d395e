/- For every n and every engine, WorldProgresses returns true: part CmB of the proof. -/
import Derived.RangeFuncRecord
import Derived.OrdersIn
import Derived.Scope
import Derived.Recover
import Derived.Test.YtogmkmomikjmiaaGreatDoorCmA
set_option linter.all false
namespace Go.Ab.Cm
structure NR where
 n:Nat
 cs:T CV
 t:TypeId
 v:Nat→CV
noncomputable def newOf(tt:T TI)(env:T CV)(op:Op):Option NR:=
  match op with
  |.alloc t=>match tt.at' t with
    |some ti=>(mapO zcv ti.zero).map fun cs=>⟨lenR cs,putL cs 0 .e,t,fun r=>.ptr r 0⟩
    |none=>none
  |.box t x=>match evO env x,tt.at' t with
    |some v,some ti=>bif isTupC v || !Nat.beq (lenR (cellsC v)) ti.size then none else some ⟨lenR (cellsC v),putL (cellsC v) 0 .e,t,fun r=>.ptr r 0⟩
    |_,_=>none
  |.buildSlice t len parts=>match tt.at' t with
    |some {k:=.slc e,..}=>match tt.at' e,partsC env parts with
      |some ti,some ps=>bif Nat.ble (Nat.mul len ti.size) 16777216&&Nat.ble 1 ti.size then
          (fillC (fun i=>some (Nat.mul i ti.size,ti.size)) (Nat.mul len ti.size) ps .e).map fun cs=>⟨Nat.mul len ti.size,cs,e,fun r=>.slc r 0 len len true ti.size⟩
        else none
      |_,_=>none
    |_=>none
  |.makeSlice t x y=>match tt.at' t,evO env x,evO env y with
    |some {k:=.slc e,..},some (.int .i64 (.ofNat n)),some (.int .i64 (.ofNat c))=>match tt.at' e with
      |some te=>match mapO zcv te.zero with
        |some zs=>bif Nat.ble n c&&(Nat.ble 1 te.size&&(room c te.bytes&&Nat.ble c 1000000000)) then
            some ⟨Nat.mul c te.size,putL (repR zs c) 0 .e,e,fun r=>.slc r 0 n c true te.size⟩
          else none
        |none=>none
      |none=>none
    |_,_,_=>none
  |_=>none
section
variable {P:Program} {K:Ctx} {N:Nat} {β:Nat→Option BI} {s:S} {tmps:Array Value} {w:World} {o:Oper} {tt:TT} {eq:EqT}
theorem newOf_run(h:SimC P K N β s tmps w)(htt:TTok P tt=true){n:NR}(hn:newOf (mkT tt) s.env o.op=some n):
    ∃(vs:List Value) (u:Nat→Value),vs.length=n.n∧(∀v,v∈vs→v.oneCell'=true)∧(∀i c,n.cs.at' i=some c→i<n.n∧∃u,vs[i]? = some u∧CR β u c)∧
      (execOp (Act.eval ⟨tmps,[]⟩) o).run P w = .ok (.value (u w.heap.size)) {w with heap:=w.heap.push (.cells ⟨vs⟩ n.t (0,0))}∧
      ∀(β':Nat→Option BI) (r b:Nat),β' r=some ⟨b,n.n⟩→CR β' (u b) (n.v r):=by
  unfold newOf at hn
  split at hn
  case h_5=>cases hn
  · rename_i t ho
    rw [mkT_at]at hn
    split at hn
    case h_2=>cases hn
    rename_i ti hl
    obtain⟨r⟩:=tt_row htt hl
    rw [Option.map_eq_some_iff]at hn
    obtain⟨cs,hcs,rfl⟩:=hn
    obtain⟨g1,g2⟩:=mapO_get hcs
    obtain⟨h1,h2,h3⟩:=zerosFit_rep (M:=fun _ _=>none) r.zfit
    refine⟨r.z.cells.toList,fun b=>.pointer (some ⟨b,0,none⟩),by show _=lenR cs;rw [lenR_eq];omega,h2,fun i c hi=>?_,by simp [execOp,ho,Instr.alloc,r.run_zero,newVar,newRow],fun β' q b hb=>.ptr q 0 _ hb⟩
    simp only at hi
    rw [putL0_at]at hi
    have hil:i<cs.length:=(List.getElem?_eq_some_iff.1 hi).1
    have hv:r.z.cells.toList[i]? = some r.z.cells.toList[i]:=List.getElem?_eq_getElem (by omega)
    have hz:ti.zero[i]? = some ti.zero[i]:=List.getElem?_eq_getElem (by omega)
    exact⟨by simp only;rw [lenR_eq];exact hil,_,hv,zcv_rep (h3 i _ _ hv hz).2 (g2 i _ c hz hi)⟩
  · rename_i t x ho
    split at hn
    case h_2=>cases hn
    rename_i v ti hv hl
    rw [Bool.cond_eq_ite]at hn
    split at hn<;>cases hn
    rename_i hc
    simp only [Bool.or_eq_true,not_or,Bool.not_eq_true]at hc
    obtain⟨h1,h2,h3⟩:=CR.cells (evO_rep h hv) hc.1
    refine⟨((⟨tmps,[]⟩:Act).eval x).cells.toList,fun b=>.pointer (some ⟨b,0,none⟩),by show _=lenR (cellsC v);rw [lenR_eq];exact h1,h2,fun i c hi=>?_,by simp [execOp,ho,Instr.box,newVar,newRow],fun β' q b hb=>.ptr q 0 _ hb⟩
    simp only at hi
    rw [putL0_at]at hi
    have hil:i<(cellsC v).length:=(List.getElem?_eq_some_iff.1 hi).1
    have hu:((⟨tmps,[]⟩:Act).eval x).cells.toList[i]? = some ((⟨tmps,[]⟩:Act).eval x).cells.toList[i]:=List.getElem?_eq_getElem (by omega)
    exact⟨by simp only;rw [lenR_eq];exact hil,_,hu,h3 i _ c hu hi⟩
  · rename_i t len parts ho
    rw [mkT_at]at hn
    split at hn
    case h_2=>cases hn
    rename_i e sz by_ zero bl hl
    rw [mkT_at]at hn
    split at hn
    case h_2=>cases hn
    rename_i ti ps hl2 hps
    rw [Bool.cond_eq_ite]at hn
    split at hn
    case isFalse=>cases hn
    rename_i hc
    simp only [Bool.and_eq_true,Nat.ble_eq]at hc
    obtain⟨hc1,hc2⟩:=hc
    have hc1:len*ti.size≤16777216:=hc1
    rw [Option.map_eq_some_iff]at hn
    obtain⟨cs,hf,rfl⟩:=hn
    obtain⟨r⟩:=tt_row htt hl
    obtain⟨re⟩:=tt_row htt hl2
    obtain⟨h1,h2⟩:=partsC_rep h hps
    have hone:=zcells_one re (len*ti.size) hc2
    obtain⟨cells,hfill,hsz,hk⟩:=fillC_rep (cells:=(Array.range (len*ti.size)).map (re.z.cells[· % re.z.cells.size]!)) h1 h2 (by simp) ⟨hone,fun i c hi=>by rw [T.at_e]at hi;cases hi⟩ hf
    have hsz:cells.size=len*ti.size:=hsz
    have hrun:(execOp (Act.eval ⟨tmps,[]⟩) o).run P w = .ok (.value (.slice (some ⟨w.heap.size,0,none⟩) len len)) {w with heap:=w.heap.push (.cells ⟨cells.toList⟩ e (0,0))}:=by
      simp only [execOp,ho]
      refine runv _ ?_
      have hb':¬ (16777216<len*ti.size):=by omega
      have hfill':Instr.fill (fun i=>some (i*ti.size,ti.size)) ((Array.range (len*ti.size)).map (re.z.cells[· % re.z.cells.size]!)) (parts.toList.map fun(x:Nat×Operand)=>(x.1,(⟨tmps,[]⟩:Act).eval x.2))=some cells:=by rw [←Array.toList_map];exact hfill
      simp only [Instr.buildSlice,Sem.run_bind,r.run_underlying,desc_slc r rfl,Result.andThen_ok,re.run_sizeOf]
      by_cases h0:len*ti.size=0
      · have e1:∀f:Nat→Value,(Array.range 0).map f = #[]:=by intro f;simp
        rw [h0,e1]at hfill'
        simp [h0,e1,hfill',newRow]
      · simp [h0,hb',re.run_zero,hfill',newRow]
    refine⟨cells.toList,fun b=>.slice (some ⟨b,0,none⟩) len len,by simpa using hsz,hk.one,fun i c hi=>by obtain⟨u,h3,h4⟩:=hk.rep i c hi;exact⟨by have:=(List.getElem?_eq_some_iff.1 h3).1;simp at this;show i<len*ti.size;omega,u,h3,h4⟩,hrun,fun β' q b hb=>?_⟩
    exact .slc q 0 len len len ti.size true _ hb (Nat.le_refl _) (Nat.le_refl _) (fun _=>rfl) (by simp)
  · rename_i t x y ho
    rw [mkT_at]at hn
    split at hn
    case h_2=>cases hn
    rename_i e _ _ _ _ n c hl he1 he2
    obtain⟨row⟩:=tt_row htt hl
    rw [mkT_at]at hn
    split at hn
    case h_2=>cases hn
    rename_i te hle
    obtain⟨re⟩:=tt_row htt hle
    split at hn
    case h_2=>cases hn
    rename_i zs hz
    rw [Bool.cond_eq_ite]at hn
    split at hn<;>cases hn
    rename_i hc
    simp only [Bool.and_eq_true,Nat.ble_eq]at hc
    obtain⟨hnc,hsz,hroom,hc9⟩:=hc
    have e1:=cr_int (evO_rep h he1)
    have e2:=cr_int (evO_rep h he2)
    obtain⟨vs,q1,q2,q3,q4⟩:=makeSl_run (P:=P) (w:=w) (β:=β) row re rfl hz hnc hsz hroom hc9
    refine⟨vs,fun b=>.slice (some ⟨b,0,none⟩) n c,q1,q2,q3,by simp only [execOp,ho,e1,e2];exact runv _ q4,fun β' q b hb=>?_⟩
    exact .slc q 0 n c c te.size true _ hb hnc (Nat.le_refl _) (fun _=>rfl) (by show 0+c*te.size≤c*te.size;omega)
noncomputable def NR.row(n:NR):Blk:=.row n.n n.cs (Nat.add (Nat.mul 2 n.t) 2)
end
end Go.Ab.Cm
namespace Go.Ab.Cm
section
variable {P:Program} {K:Ctx} {N:Nat} {β:Nat→Option BI} {s:S} {tmps:Array Value} {w:World} {o:Oper} {tt:TT}
theorem run_slice_arr{t e:TypeId}{n:Nat}{ti te:TI}(r:Row P t ti)(hk:ti.k = .arr n e)(re:Row P e te){ad:Addr}{lo hi:Option Value}{a b:Nat}
    (hlo:lo=none∧a=0∨∃k,lo=some (.int k a)) (hhi:hi=none∧b=n∨∃k,hi=some (.int k b)) (hab:a≤b) (hbn:b≤n):
    (Instr.sliceAt t (.pointer (some ad)) lo hi none).run P w = .ok (.slice (some (if n=a then ad else ad.add (a*te.size))) (b-a) (n-a)) w:=by
  have hu:=r.run_underlying w
  rw [desc_arr r hk]at hu
  rcases hlo with⟨rfl,rfl⟩|⟨k1,rfl⟩<;>rcases hhi with⟨rfl,rfl⟩|⟨k2,rfl⟩
  · simp [Instr.sliceAt,hu,Instr.sliceBounds,re.run_sizeOf,Instr.sureAddr]
  · simp [Instr.sliceAt,hu,Instr.sliceBounds,Instr.sliceBound,asIntOf,re.run_sizeOf,hbn,Instr.sureAddr]
  · simp [Instr.sliceAt,hu,Instr.sliceBounds,Instr.sliceBound,asIntOf,re.run_sizeOf,hab,Instr.sureAddr]
  · simp [Instr.sliceAt,hu,Instr.sliceBounds,Instr.sliceBound,asIntOf,re.run_sizeOf,hbn,hab,Instr.sureAddr]
noncomputable def opSliceA(tt:T TI)(s:S)(t:TypeId)(x:Operand)(lo hi mx:Option Operand):Option CV:=
 match evO s.env x,tt.at' t with
 |some (.ptr r off),some {k:=.arr n e,..}=>match tt.at' e,mx,bnd s.env lo 0,bnd s.env hi n,s.H.at' r with
  |some ti,none,some a,some b,some (.row nr _ _)=>bif Nat.ble a b&&(Nat.ble b n&&(Nat.ble (Nat.add off (Nat.mul n ti.size)) nr&&Nat.blt a n))then some (.slc r (Nat.add off (Nat.mul a ti.size)) (Nat.sub b a) (Nat.sub n a) true ti.size)else none
  |_,_,_,_,_=>none
 |_,_=>none
theorem ok_sliceA(h:SimC P K N β s tmps w)(htt:TTok P tt=true){t:TypeId}{x:Operand}{lo hi mx:Option Operand}(ho:o.op = .slice t x lo hi mx){v:CV}(hx:opSliceA (mkT tt) s t x lo hi mx=some v):Pure P β o tmps w v:=by
 unfold opSliceA at hx
 rw [mkT_at]at hx
 split at hx
 case h_2=>cases hx
 rename_i q off n e _ _ _ _ he hl
 obtain⟨r⟩:=tt_row htt hl
 rw [mkT_at]at hx
 split at hx
 case h_2=>cases hx
 rename_i ti a b nr cs t0 hl2 ha hb hq
 obtain⟨re⟩:=tt_row htt hl2
 rw [Bool.cond_eq_ite]at hx
 split at hx<;>cases hx
 rename_i hc
 simp only [Bool.and_eq_true,Nat.ble_eq,Nat.blt_eq]at hc
 obtain⟨hab,hbn,hnr,han⟩:=hc
 have hnr:off+n*ti.size≤nr:=hnr
 have e1:=evO_rep h he
 generalize hv:(⟨tmps,[]⟩:Act).eval x=u at e1
 cases e1 with
 |ptr _ _ bi hbi=>
 obtain⟨bi',vs,T0,k1,k2,k3,k4,k5,k6,k7,k8⟩:=h.row q nr cs _ hq
 rw [hbi]at k1;cases k1
 have:=run_slice_arr (P:=P) (w:=w) r rfl re (ad:=⟨bi.b,off,none⟩) (bnd_ok h ha) (bnd_ok h hb) hab hbn
 rw [if_neg (by omega),addr_add]at this
 refine⟨_,exec_slice ho hv rfl rfl rfl this,?_⟩
 have hsub:off+a*ti.size+(n-a)*ti.size≤bi.L:=by
  rw [Nat.add_assoc,←Nat.add_mul,show a+(n-a)=n by omega];omega
 exact .slc _ _ _ _ _ _ _ bi hbi (by show b-a≤n-a;omega) (Nat.le_refl _) (fun _=>rfl) hsub
end
end Go.Ab.Cm
namespace Go.Ab.Cm
section
variable {P:Program} {K:Ctx} {N:Nat} {β:Nat→Option BI} {s:S} {tmps:Array Value} {w:World} {o:Oper} {tt:TT}
noncomputable def opCopyS(tt:T TI)(s:S)(args:Array Operand)(tys:Array TypeId):Option New:=
 match args.toList,tys.toList with
 |[a,x],t::_=>match evO s.env a,evO s.env x,tt.at' t with
  |some (.slc r off n _ _ k),some (.str l),some {k:=.slc e,..}=>match tt.at' e,s.H.at' r with
   |some {size:=sz,..},some (.row nr cs t0)=>
    bif Nat.beq k 1&&(Nat.beq sz 1&&Nat.ble (Nat.add off n) nr)then some ⟨.int .i64 (Int.ofNat (lenR (takeR n l))),s.H.put r (some (.row nr (putL (strC (takeR n l)) off cs) t0)),s.nx⟩else none
   |_,_=>none
  |_,_,_=>none
 |_,_=>none
theorem ok_copyS(h:SimC P K N β s tmps w)(htt:TTok P tt=true){c:Call}(ho:o.op = .call c)(hc:c.callee = .builtin .copy){v:New}(hx:opCopyS (mkT tt) s c.args c.argTypes=some v):Yld P K N β s o tmps w v.v v.H v.nx:=by
 unfold opCopyS at hx
 split at hx
 case h_2=>cases hx
 rename_i a x t ts ha ht
 rw [mkT_at]at hx
 split at hx
 case h_2=>cases hx
 rename_i r off n _ _ k l e _ _ _ _ he1 he2 hl
 obtain⟨row⟩:=tt_row htt hl
 rw [mkT_at]at hx
 split at hx
 case h_2=>cases hx
 rename_i k' sz b' z' bld' nr cs t0 hle hq
 obtain⟨re⟩:=tt_row htt hle
 rw [Bool.cond_eq_ite]at hx
 split at hx<;>cases hx
 rename_i hck
 simp only [Bool.and_eq_true,Nat.beq_eq,Nat.ble_eq]at hck
 obtain⟨rfl,hsz1,hfit⟩:=hck
 have hfit:off+n≤nr:=hfit
 have hu:P.underlying t=some (.slice e):=by rw [row.hd,desc_slc row rfl]
 have e1:=evO_rep h he1
 have e2:=cr_str (evO_rep h he2)
 generalize hva:(⟨tmps,[]⟩:Act).eval a=ua at e1
 cases e1 with
 |slc _ _ _ _ cap1 _ _ bi hb hn1 hc1 hx1 hL1=>
 rw [takeR_eq]
 generalize hus:(l.take n).map (fun b=>Value.int .u8 b.toNat)=us
 have hul:us.length=l.length.min n:=by rw [←hus];simp only [List.length_map,List.length_take];exact Nat.min_comm _ _
 have hun:us.length≤n:=by rw [hul];exact Nat.min_le_right _ _
 have o3:∀u,u∈us→u.oneCell'=true:=by
  intro u hu
  rw [←hus]at hu
  obtain⟨b,_,rfl⟩:=List.mem_map.1 hu
  rfl
 obtain⟨bi',vs,T0,k1,k2,k3,k4,k5,k6,k7,k8⟩:=h.row r nr cs _ hq
 rw [hb]at k1;cases k1
 have hle2:off+us.length≤vs.length:=by omega
 have hst:=run_storeCells_at P bi.b off T0 us 0 ⟨vs⟩ w k2 (by simpa using hle2) o3
 have hcells:List.take us.length (List.map (fun b=>Value.int .u8 b.toNat) l)=us:=by
  rw [hul,←List.map_take,←hus]
  congr 1
  by_cases hh:l.length≤n
  ·rw [show l.length.min n=l.length from Nat.min_eq_left hh,List.take_length,List.take_of_length_le hh]
  ·rw [show l.length.min n=n from Nat.min_eq_right (by omega)]
 have hrun:∀ty cs,(builtin .copy ⟨t::ts⟩ ty cs #[.slice (some ⟨bi.b,off,none⟩) n cap1,.string ⟨⟨l⟩⟩]).run P w = .ok (.value (.int .i64 us.length)) (w.setRow bi.b (vs.take off++us++vs.drop (off+us.length)).toArray):=by
  intro ty cs
  have hsz:=re.run_sizeOf (w:=w)
  have hls:(⟨⟨l⟩⟩:ByteArray).size=l.length:=rfl
  have hmn:l.length.min n=us.length:=hul.symm
  simp only [builtin,Builtin.copy_]
  simp [run_underlying hu,Builtin.lenOf,Builtin.firstCells,hls,hmn,hsz,hcells,hst,goInt,Result.andThen]
 have hlen:Int.ofNat (lenR (l.take n))=(us.length:Int):=by rw [lenR_eq,←hus];simp
 rw [hlen]
 refine⟨_,_,β,exec_bltin ho hc ha ht hva e2 hrun,.refl _ _,?_,.int _ _⟩
 refine h.setRow hq hb k2 (vs':=vs.take off++us++vs.drop (off+us.length)) (by rw [splice_len hle2];exact k3) (splice_one k6 o3) (fun i c hi=>?_) k4 (.inr ⟨rfl,Nat.le_refl _⟩)
  (setRow_heap w bi.b _ _ T0 (0,0) k2) (fun b' hne=>setRow_other w bi.b b' _ hne) rfl
 rw [putL_at]at hi
 rw [splice_get hle2]
 have o2:(strC (l.take n)).length=us.length:=by rw [strC_eq,←hus];simp
 rw [o2]at hi
 by_cases hin:off≤i∧i<off+us.length
 ·rw [if_pos hin]at hi
  rw [if_pos (by omega)]
  refine⟨by omega,us[i-off]'(by omega),List.getElem?_eq_getElem (by omega),?_⟩
  rw [strC_eq,List.getElem?_map,Option.map_eq_some_iff]at hi
  obtain⟨b,hbq,rfl⟩:=hi
  have:us[i-off]'(by omega) = .int .u8 b.toNat:=by
   have h1:us[i-off]? = some (.int .u8 b.toNat):=by rw [←hus,List.getElem?_map,hbq];rfl
   exact(List.getElem?_eq_some_iff.1 h1).2
  rw [this]
  exact .int _ _
 ·rw [if_neg hin]at hi
  rw [if_neg (by omega)]
  exact k7 i c hi
end
end Go.Ab.Cm
namespace Go.Ab.Cm
noncomputable def sPtr(c:CV):Option (Nat×Nat):=CV.rec (motive_1:=fun _=>Option (Nat×Nat)) (motive_2:=fun _=>Option (Nat×Nat)) (fun _ _=>none) (fun _=>none) (fun _=>none) (fun x0 x1=>some (x0,x1)) none (fun _ _ _ _ _ _=>none) none none (fun _ _=>none) (fun _ _=>none) (fun _ _ _=>none) none (fun _ _ _=>none) (fun _ _ _=>none) (fun _=>none) none (fun _=>none) none (fun _=>none) none none (fun _ _ _ _=>none) c
noncomputable def sInt(c:CV):Option (IntKind×Int):=CV.rec (motive_1:=fun _=>Option (IntKind×Int)) (motive_2:=fun _=>Option (IntKind×Int)) (fun x0 x1=>some (x0,x1)) (fun _=>none) (fun _=>none) (fun _ _=>none) none (fun _ _ _ _ _ _=>none) none none (fun _ _=>none) (fun _ _=>none) (fun _ _ _=>none) none (fun _ _ _=>none) (fun _ _ _=>none) (fun _=>none) none (fun _=>none) none (fun _=>none) none none (fun _ _ _ _=>none) c
noncomputable def sBoo(c:CV):Option (Bool):=CV.rec (motive_1:=fun _=>Option (Bool)) (motive_2:=fun _=>Option (Bool)) (fun _ _=>none) (fun x0=>some x0) (fun _=>none) (fun _ _=>none) none (fun _ _ _ _ _ _=>none) none none (fun _ _=>none) (fun _ _=>none) (fun _ _ _=>none) none (fun _ _ _=>none) (fun _ _ _=>none) (fun _=>none) none (fun _=>none) none (fun _=>none) none none (fun _ _ _ _=>none) c
noncomputable def sStr(c:CV):Option (List UInt8):=CV.rec (motive_1:=fun _=>Option (List UInt8)) (motive_2:=fun _=>Option (List UInt8)) (fun _ _=>none) (fun _=>none) (fun x0=>some x0) (fun _ _=>none) none (fun _ _ _ _ _ _=>none) none none (fun _ _=>none) (fun _ _=>none) (fun _ _ _=>none) none (fun _ _ _=>none) (fun _ _ _=>none) (fun _=>none) none (fun _=>none) none (fun _=>none) none none (fun _ _ _ _=>none) c
noncomputable def sAgg(c:CV):Option (List CV):=CV.rec (motive_1:=fun _=>Option (List CV)) (motive_2:=fun _=>Option (List CV)) (fun _ _=>none) (fun _=>none) (fun _=>none) (fun _ _=>none) none (fun _ _ _ _ _ _=>none) none none (fun x0 _=>some x0) (fun _ _=>none) (fun _ _ _=>none) none (fun _ _ _=>none) (fun _ _ _=>none) (fun _=>none) none (fun _=>none) none (fun _=>none) none none (fun _ _ _ _=>none) c
noncomputable def sTup(c:CV):Option (List CV):=CV.rec (motive_1:=fun _=>Option (List CV)) (motive_2:=fun _=>Option (List CV)) (fun _ _=>none) (fun _=>none) (fun _=>none) (fun _ _=>none) none (fun _ _ _ _ _ _=>none) none none (fun _ _=>none) (fun x0 _=>some x0) (fun _ _ _=>none) none (fun _ _ _=>none) (fun _ _ _=>none) (fun _=>none) none (fun _=>none) none (fun _=>none) none none (fun _ _ _ _=>none) c
noncomputable def oB{α γ:Type}(o:Option α)(k:α→Option γ):Option γ:=Option.rec (motive:=fun _=>Option γ) none k o
noncomputable def sRow(x:Blk):Option (Nat×T CV×Nat):=Blk.rec (motive:=fun _=>Option (Nat×T CV×Nat)) (fun n cs t=>some (n,cs,t)) (fun _ _=>none) (fun _ _ _ _=>none) (fun _ _=>none) (fun _ _ _ _ _ _ _=>none) x
noncomputable def aggR(k:TK):Bool:=TK.rec (motive:=fun _=>Bool) (fun _=>false) false false (fun _=>true) (fun _=>false) (fun _ _=>true) false false false false k
noncomputable def sStc(k:TK):Option (List (Nat×TypeId×Nat)):=TK.rec (motive:=fun _=>Option (List (Nat×TypeId×Nat))) (fun _=>none) none none (fun fs=>some fs) (fun _=>none) (fun _ _=>none) none none none none k
theorem aggR_eq(k:TK):aggR k=k.isAgg:=by cases k<;>rfl
noncomputable def ldR(ti:TI)(cs:T CV)(off:Nat):Option CV:=Bool.rec (motive:=fun _=>Option CV) (cs.at' off) (Bool.rec (motive:=fun _=>Option CV) none (oB (readL cs ti.size off) fun l=>some (.agg l)) (Nat.ble 1 ti.size)) (aggR ti.k)
noncomputable def opLoadF(tt:T TI)(s:S)(t:TypeId)(a:Operand):Option CV:=
 oB (oB (evO s.env a) sPtr) fun p=>oB (tt.at' t) fun ti=>oB (oB (s.H.at' p.1) sRow) fun x=>ldR ti x.2.1 p.2
theorem opLoadF_eq(tt:T TI)(s:S)(t:TypeId)(a:Operand):opLoadF tt s t a=opLoad tt s t a:=by
 unfold opLoadF opLoad
 cases evO s.env a with
 |none=>rfl
 |some c=>
  cases c<;>try (cases tt.at' t<;>rfl)
  rename_i r off
  cases tt.at' t with
  |none=>rfl
  |some ti=>
   show oB (oB (s.H.at' r) sRow) (fun x=>ldR ti x.2.1 off)=match s.H.at' r with
    |some (.row _ cs _)=>bif ti.k.isAgg then(bif Nat.ble 1 ti.size then(readL cs ti.size off).map .agg else none)else cs.at' off
    |_=>none
   cases s.H.at' r with
   |none=>rfl
   |some b=>
    cases b<;>try rfl
    rename_i n cs t0
    show ldR ti cs off=_
    unfold ldR
    rw [aggR_eq]
    cases ti.k.isAgg with
    |false=>rfl
    |true=>cases Nat.ble 1 ti.size with
     |false=>rfl
     |true=>show oB (readL cs ti.size off) (fun l=>some (CV.agg l))=(readL cs ti.size off).map CV.agg;cases readL cs ti.size off<;>rfl
noncomputable def cellsR(c:CV):List CV:=Option.rec (motive:=fun _=>List CV) [c] (fun l=>l) (sAgg c)
theorem cellsR_eq(c:CV):cellsR c=cellsC c:=by cases c<;>rfl
noncomputable def tupR(c:CV):Bool:=CV.rec (motive_1:=fun _=>Bool) (motive_2:=fun _=>Bool) (fun _ _=>false) (fun _=>false) (fun _=>false) (fun _ _=>false) false (fun _ _ _ _ _ _=>false) false false (fun _ _=>false) (fun _ _=>true) (fun _ _ _=>false) false (fun _ _ _=>false) (fun _ _ _=>false) (fun _=>false) false (fun _=>false) false (fun _=>false) true false (fun _ _ _ _=>false) c
theorem tupR_eq(c:CV):tupR c=isTupC c:=by cases c<;>rfl
noncomputable def stR(H:T Blk)(r off:Nat)(v:CV)(ti:TI)(x:Nat×T CV×Nat):Option (T Blk):=
 Bool.rec (motive:=fun _=>Option (T Blk)) (some (H.put r (some (.row x.1 (putL (cellsR v) off x.2.1) x.2.2)))) none (tupR v || !(Nat.beq (lenR (cellsR v)) ti.size&&Nat.ble (Nat.add off ti.size) x.1))
noncomputable def opStoreF(tt:T TI)(s:S)(t:TypeId)(a x:Operand):Option (T Blk):=
 oB (oB (evO s.env a) sPtr) fun p=>oB (evO s.env x) fun v=>oB (tt.at' t) fun ti=>oB (oB (s.H.at' p.1) sRow) fun y=>stR s.H p.1 p.2 v ti y
theorem opStoreF_eq(tt:T TI)(s:S)(t:TypeId)(a x:Operand):opStoreF tt s t a x=opStore tt s t a x:=by
 unfold opStoreF opStore
 cases evO s.env a with
 |none=>rfl
 |some c=>
  cases c<;>try (cases evO s.env x<;>cases tt.at' t<;>rfl)
  rename_i r off
  cases evO s.env x with
  |none=>rfl
  |some v=>cases tt.at' t with
   |none=>rfl
   |some ti=>
    show oB (oB (s.H.at' r) sRow) (fun y=>stR s.H r off v ti y)=match s.H.at' r with
     |some (.row n cs t0)=>bif isTupC v || !(Nat.beq (lenR (cellsC v)) ti.size&&Nat.ble (Nat.add off ti.size) n)then none else some (s.H.put r (some (.row n (putL (cellsC v) off cs) t0)))
     |_=>none
    cases s.H.at' r with
    |none=>rfl
    |some b=>
     cases b<;>try rfl
     rename_i n cs t0
     show stR s.H r off v ti (n,cs,t0)=_
     unfold stR
     rw [cellsR_eq,tupR_eq]
     show(Bool.rec (motive:=fun _=>Option (T Blk)) (some (s.H.put r (some (.row n (putL (cellsC v) off cs) t0)))) none (isTupC v || !(Nat.beq (lenR (cellsC v)) ti.size&&Nat.ble (Nat.add off ti.size) n)))=bif isTupC v || !(Nat.beq (lenR (cellsC v)) ti.size&&Nat.ble (Nat.add off ti.size) n)then none else some (s.H.put r (some (.row n (putL (cellsC v) off cs) t0)))
     cases isTupC v || !(Nat.beq (lenR (cellsC v)) ti.size&&Nat.ble (Nat.add off ti.size) n)<;>rfl
noncomputable def opFieldAddrF(tt:T TI)(env:T CV)(t:TypeId)(x:Operand)(f:Nat):Option CV:=
 oB (oB (evO env x) sPtr) fun p=>oB (tt.at' t) fun ti=>oB (oB (sStc ti.k) fun fs=>nth fs f) fun q=>Bool.rec (motive:=fun _=>Option CV) none (some (.ptr p.1 (Nat.add p.2 q.1))) (Nat.ble 1 q.2.2)
theorem opFieldAddrF_eq(tt:T TI)(env:T CV)(t:TypeId)(x:Operand)(f:Nat):opFieldAddrF tt env t x f=opFieldAddr tt env t x f:=by
 unfold opFieldAddrF opFieldAddr
 cases evO env x with
 |none=>rfl
 |some c=>
  cases c<;>try (cases tt.at' t<;>rfl)
  rename_i r off
  cases tt.at' t with
  |none=>rfl
  |some ti=>
   obtain⟨k,sz,by',z,bl⟩:=ti
   cases k<;>try rfl
   rename_i fs
   show oB (nth fs f) (fun q=>Bool.rec (motive:=fun _=>Option CV) none (some (.ptr r (Nat.add off q.1))) (Nat.ble 1 q.2.2))=match nth fs f with
    |some (o1,_,sz)=>bif Nat.ble 1 sz then some (.ptr r (Nat.add off o1))else none
    |none=>none
   cases nth fs f with
   |none=>rfl
   |some q=>
    obtain⟨o1,ft,z⟩:=q
    show(Bool.rec (motive:=fun _=>Option CV) none (some (.ptr r (Nat.add off o1))) (Nat.ble 1 z))=bif Nat.ble 1 z then some (CV.ptr r (Nat.add off o1))else none
    cases Nat.ble 1 z<;>rfl
noncomputable def opExtF(env:T CV)(x:Operand)(i:Nat):Option CV:=oB (oB (evO env x) sTup) fun cs=>nth cs i
theorem opExtF_eq(env:T CV)(x:Operand)(i:Nat):opExtF env x i=opExt env x i:=by
 unfold opExtF opExt
 cases evO env x with
 |none=>rfl
 |some c=>cases c<;>rfl
noncomputable def fastNR(op:BinOp)(a b:Nat):Option CV:=BinOp.rec (motive:=fun _=>Nat→Nat→Option CV) (fun a b=>Bool.rec (motive:=fun _=>Option CV) none (some (.int .i64 (.ofNat (Nat.add a b)))) (Nat.ble (Nat.add a b) 9223372036854775807)) (fun a b=>Bool.rec (motive:=fun _=>Option CV) none (Bool.rec (motive:=fun _=>Option CV) none (some (.int .i64 (.ofNat (Nat.sub a b)))) (Nat.ble a 9223372036854775807)) (Nat.ble b a)) (fun _ _=>none) (fun _ _=>none) (fun _ _=>none) (fun _ _=>none) (fun _ _=>none) (fun _ _=>none) (fun _ _=>none) (fun _ _=>none) (fun _ _=>none) (fun a b=>some (.bool (Nat.beq a b))) (fun a b=>some (.bool (Bool.rec (motive:=fun _=>Bool) true false (Nat.beq a b)))) (fun a b=>some (.bool (Nat.ble (Nat.succ a) b))) (fun a b=>some (.bool (Nat.ble a b))) (fun a b=>some (.bool (Nat.ble (Nat.succ b) a))) (fun a b=>some (.bool (Nat.ble b a))) op a b
theorem fastNR_eq(op:BinOp)(a b:Nat):fastNR op a b=fastN op a b:=by cases op<;>rfl
noncomputable def fastSR(op:BinOp)(a b:List UInt8):Option CV:=BinOp.rec (motive:=fun _=>List UInt8→List UInt8→Option CV) (fun a b=>Bool.rec (motive:=fun _=>Option CV) none (some (.str (appR a b))) (Nat.ble (Nat.add (lenR a) (lenR b)) 4611686018427387904)) (fun _ _=>none) (fun _ _=>none) (fun _ _=>none) (fun _ _=>none) (fun _ _=>none) (fun _ _=>none) (fun _ _=>none) (fun _ _=>none) (fun _ _=>none) (fun _ _=>none) (fun a b=>some (.bool (eqL eqU a b))) (fun a b=>some (.bool (Bool.rec (motive:=fun _=>Bool) true false (eqL eqU a b)))) (fun _ _=>none) (fun _ _=>none) (fun _ _=>none) (fun _ _=>none) op a b
theorem fastSR_eq(op:BinOp)(a b:List UInt8):fastSR op a b=fastS op a b:=by cases op<;>rfl
noncomputable def is64(k:IntKind):Bool:=IntKind.rec (motive:=fun _=>Bool) false false false true false false false false k
noncomputable def natI(n:Int):Option Nat:=Int.rec (motive:=fun _=>Option Nat) (fun k=>some k) (fun _=>none) n
noncomputable def fastK(op:BinOp)(k k':IntKind)(x y:Int):Option CV:=Bool.rec (motive:=fun _=>Option CV) none (Bool.rec (motive:=fun _=>Option CV) none (oB (natI x) fun m=>oB (natI y) fun n=>fastNR op m n) (is64 k')) (is64 k)
theorem fastK_eq(op:BinOp)(k k':IntKind)(x y:Int):fastK op k k' x y=fastI op k k' x y:=by
 cases k<;>try rfl
 cases k'<;>try rfl
 cases x<;>try rfl
 cases y<;>try rfl
 exact fastNR_eq _ _ _
theorem oB_some{α γ:Type}{o:Option α}{k:α→Option γ}{c:γ}(h:oB o k=some c):∃a,o=some a∧k a=some c:=by
 cases o with
 |none=>cases h
 |some a=>exact⟨a,rfl,h⟩
theorem sInt_some{c:CV}{p:IntKind×Int}(h:sInt c=some p):c = .int p.1 p.2:=by cases c<;>cases h;rfl
theorem sStr_some{c:CV}{l:List UInt8}(h:sStr c=some l):c = .str l:=by cases c<;>cases h;rfl
noncomputable def binI(op:BinOp)(a b:CV):Option CV:=oB (sInt a) fun p=>oB (sInt b) fun q=>fastK op p.1 q.1 p.2 q.2
noncomputable def binT(op:BinOp)(a b:CV):Option CV:=oB (sStr a) fun p=>oB (sStr b) fun q=>fastSR op p q
noncomputable def opBinF(eq:EqT)(tt:T TI)(env:T CV)(op:BinOp)(t:TypeId)(x y:Operand):Option CV:=
 orE (oB (evO env x) fun a=>oB (evO env y) fun b=>orE (binI op a b) (binT op a b)) (orE (opEq eq env op t x y) (opBin tt env op t x y))
theorem opBinF_eq(eq:EqT)(tt:T TI)(env:T CV)(op:BinOp)(t:TypeId)(x y:Operand):opBinF eq tt env op t x y=orE (opEq eq env op t x y) (opBin tt env op t x y):=by
 unfold opBinF
 cases h:oB (evO env x) fun a=>oB (evO env y) fun b=>orE (binI op a b) (binT op a b) with
 |none=>rfl
 |some c=>
  obtain⟨a,hx,h⟩:=oB_some h
  obtain⟨b,hy,h⟩:=oB_some h
  show some c=_
  rcases orE_some h with h|h
  ·obtain⟨p,h1,h⟩:=oB_some h
   obtain⟨q,h2,h⟩:=oB_some h
   rw [sInt_some h1]at hx
   rw [sInt_some h2]at hy
   rw [fastK_eq]at h
   have e1:opEq eq env op t x y=none:=by unfold opEq;rw [hx,hy]
   have e2:opBin tt env op t x y=some c:=by unfold opBin;rw [hx,hy];simp only [h]
   rw [e1,e2];rfl
  ·obtain⟨p,h1,h⟩:=oB_some h
   obtain⟨q,h2,h⟩:=oB_some h
   rw [sStr_some h1]at hx
   rw [sStr_some h2]at hy
   rw [fastSR_eq]at h
   have e1:opEq eq env op t x y=none:=by unfold opEq;rw [hx,hy]
   have e2:opBin tt env op t x y=some c:=by unfold opBin;rw [hx,hy];simp only [h]
   rw [e1,e2];rfl
end Go.Ab.Cm
namespace Go.Ab.Cm
inductive OR where
 |val (v:CV) (H:T Blk) (nx:Nat)
 |skp (H:T Blk)
 |bad
noncomputable def pv(s:S)(v:Option CV):OR:=Option.rec (motive:=fun _=>OR) .bad (fun v=>.val v s.H s.nx) v
noncomputable def nv(v:Option New):OR:=Option.rec (motive:=fun _=>OR) .bad (fun n=>.val n.v n.H n.nx) v
noncomputable def sv(v:Option (T Blk)):OR:=Option.rec (motive:=fun _=>OR) .bad (fun H=>.skp H) v
noncomputable def simple(tt:T TI)(s:S)(op:Op):OR:=
 match op with
 |.move x=>pv s (evO s.env x)
 |.assign x=>pv s (evO s.env x)
 |.pick c a b=>pv s (opPick s.env c a b)
 |.alloc t=>nv (opAlloc tt s t)
 |.box t x=>nv (opBox tt s t x)
 |.load t a=>pv s (opLoad tt s t a)
 |.store t a x=>sv (opStore tt s t a x)
 |.nilCheck x=>pv s (opNilC s.env x)
 |.binOp op t x y _=>pv s (opBin tt s.env op t x y)
 |.unOp op _ x=>pv s (opUn s.env op x)
 |.convert a b x=>pv s (orE (opConv tt s.env a b x) (opConvB tt s a b x))
 |.makeInterface t x=>pv s (opIface tt s.env t x)
 |.makeFunc fn first caps=>pv s (opFunc s.env fn first caps)
 |.fieldAddr t x f=>pv s (opFieldAddr tt s.env t x f)
 |.field t x f=>pv s (opField tt s.env t x f)
 |.indexAddr t x i=>pv s (opIndexAddr tt s.env t x i)
 |.index t x i=>pv s (orE (opIndex tt s.env t x i) (opIndexA tt s.env t x i))
 |.extract x i=>pv s (opExt s.env x i)
 |.build t parts=>pv s (orE (opBuild tt s.env t parts) (opBuildA tt s.env t parts))
 |.buildSlice t n parts=>nv (opBuildSlice tt s t n parts)
 |.slice t x lo hi mx=>pv s (orE (opSlice tt s.env t x lo hi mx) (opSliceA tt s t x lo hi mx))
 |_=>.bad
noncomputable def mapOp(tt:T TI)(eq:EqT)(s:S)(op:Op):OR:=
 match op with
 |.makeMap t r=>nv (opMakeMap eq s t r)
 |.lookup t x ix ok=>pv s (opLookup tt eq s t x ix ok)
 |.mapUpdate t m k x=>sv (opMapUpd tt eq s t m k x)
 |.insert t m k x=>sv (opMapUpd tt eq s t m k x)
 |.mapEntry t m k=>nv (opMapEnt tt eq s t m k)
 |.entryStore _ m x v=>sv (opEntSt s m x v)
 |.range t x=>nv (orE (opRange eq s t x) (opRangeS tt s t x))
 |.next it b=>nv (orE (opNext s it b) (opNextS s it b))
 |.entry it=>pv s (opEntry s it)
 |.typeAssert x _ a ok=>pv s (opAssert tt s.env x a ok)
 |.makeSlice t n c=>nv (opMakeSl tt s t n c)
 |op=>simple tt s op
noncomputable def bltin(tt:T TI)(eq:EqT)(s:S)(c:Call):OR:=
 match c.callee with
 |.builtin .len=>pv s (orE (opLen tt s.env c.args c.argTypes) (opLenM eq s c.args c.argTypes))
 |.builtin .cap=>pv s (opCap tt s.env c.args c.argTypes)
 |.builtin .append=>nv (orE (opAppend tt s c.args c.argTypes) (opAppZ tt s c.args c.argTypes))
 |.builtin .copy=>nv (orE (opCopy tt s c.args c.argTypes) (orE (opCopy0 tt s c.args c.argTypes) (opCopyS tt s c.args c.argTypes)))
 |.builtin .clear=>nv (opClear tt s c.args c.argTypes)
 |.builtin .delete=>nv (opDelete tt eq s c.args c.argTypes)
 |.builtin .min=>pv s (opMM s.env false c.args)
 |.builtin .max=>pv s (opMM s.env true c.args)
 |_=>.bad
section
variable {P:Program} {K:Ctx} {N:Nat} {β:Nat→Option BI} {s:S} {tmps:Array Value} {w:World} {o:Oper} {tt:TT}
def Done(P:Program)(K:Ctx)(N:Nat)(β:Nat→Option BI)(s:S)(o:Oper)(tmps:Array Value)(w:World):OR→Prop
 |.val v H nx=>Yld P K N β s o tmps w v H nx
 |.skp H=>Skp P K N β s o tmps w H
 |.bad=>True
theorem done_pv(h:SimC P K N β s tmps w){v:Option CV}(hv:∀c,v=some c→Pure P β o tmps w c):Done P K N β s o tmps w (pv s v):=by
 cases v with
 |none=>trivial
 |some c=>exact(hv c rfl).yld h
theorem done_nv{v:Option New}(hv:∀n,v=some n→Yld P K N β s o tmps w n.v n.H n.nx):Done P K N β s o tmps w (nv v):=by
 cases v with
 |none=>trivial
 |some n=>exact hv n rfl
theorem done_sv{v:Option (T Blk)}(hv:∀H,v=some H→Skp P K N β s o tmps w H):Done P K N β s o tmps w (sv v):=by
 cases v with
 |none=>trivial
 |some n=>exact hv n rfl
theorem simple_ok(h:SimC P K N β s tmps w)(htt:TTok P tt=true){op:Op}(ho:o.op=op):Done P K N β s o tmps w (simple (mkT tt) s op):=by
 unfold simple
 split
 ·exact done_pv h fun c hc=>ok_move h (.inl ho) hc
 ·exact done_pv h fun c hc=>ok_move h (.inr ho) hc
 ·exact done_pv h fun c hc=>ok_pick h ho hc
 ·exact done_nv fun c hc=>ok_alloc h htt ho hc
 ·exact done_nv fun c hc=>ok_box h ho hc
 ·exact done_pv h fun c hc=>ok_load h htt ho hc
 ·exact done_sv fun c hc=>ok_store h htt ho hc
 ·exact done_pv h fun c hc=>ok_nilC h ho hc
 ·exact done_pv h fun c hc=>ok_bin h htt ho hc
 ·exact done_pv h fun c hc=>ok_un h ho hc
 ·exact done_pv h fun c hc=>(orE_some hc).elim (ok_conv h htt ho) (ok_convB h htt ho)
 ·exact done_pv h fun c hc=>ok_iface h htt ho hc
 ·exact done_pv h fun c hc=>ok_func h ho hc
 ·exact done_pv h fun c hc=>ok_fieldAddr h htt ho hc
 ·exact done_pv h fun c hc=>ok_field h htt ho hc
 ·exact done_pv h fun c hc=>ok_indexAddr h htt ho hc
 ·exact done_pv h fun c hc=>(orE_some hc).elim (ok_index h htt ho) (ok_indexA h htt ho)
 ·exact done_pv h fun c hc=>ok_ext h ho hc
 ·exact done_pv h fun c hc=>(orE_some hc).elim (ok_build h htt ho) (ok_buildA h htt ho)
 ·exact done_nv fun c hc=>ok_buildSlice h htt ho hc
 ·exact done_pv h fun c hc=>(orE_some hc).elim (ok_slice h htt ho) (ok_sliceA h htt ho)
 ·trivial
theorem mapOp_ok(h:SimC P K N β s tmps w)(htt:TTok P tt=true){eq:EqT}(heq:EqOk P tt eq){op:Op}(ho:o.op=op):Done P K N β s o tmps w (mapOp (mkT tt) eq s op):=by
 unfold mapOp
 split
 ·exact done_nv fun c hc=>ok_makeMap h heq ho hc
 ·exact done_pv h fun c hc=>ok_lookup h htt heq ho hc
 ·exact done_sv fun c hc=>ok_mapUpd h htt heq (.inl ho) hc
 ·exact done_sv fun c hc=>ok_mapUpd h htt heq (.inr ho) hc
 ·exact done_nv fun c hc=>ok_mapEnt h htt heq ho hc
 ·exact done_sv fun c hc=>ok_entSt h ho hc
 ·exact done_nv fun c hc=>(orE_some hc).elim (ok_range h heq ho) (ok_rangeS h htt ho)
 ·exact done_nv fun c hc=>(orE_some hc).elim (ok_next h ho) (ok_nextS h ho)
 ·exact done_pv h fun c hc=>ok_entry h ho hc
 ·exact done_pv h fun c hc=>ok_assert h htt ho hc
 ·exact done_nv fun c hc=>ok_makeSl h htt ho hc
 ·exact simple_ok h htt ho
theorem bltin_ok(h:SimC P K N β s tmps w)(htt:TTok P tt=true){eq:EqT}(heq:EqOk P tt eq){c:Call}(ho:o.op = .call c):Done P K N β s o tmps w (bltin (mkT tt) eq s c):=by
 unfold bltin
 split
 ·rename_i hc;exact done_pv h fun v hv=>(orE_some hv).elim (ok_len h htt ho hc) (ok_lenM h heq ho hc)
 ·rename_i hc;exact done_pv h fun v hv=>ok_cap h htt ho hc hv
 ·rename_i hc;exact done_nv fun v hv=>(orE_some hv).elim (ok_append h htt ho hc) (ok_appZ h htt ho hc)
 ·rename_i hc;exact done_nv fun v hv=>(orE_some hv).elim (ok_copy h htt ho hc) fun hv=>(orE_some hv).elim (ok_copy0 h htt ho hc) (ok_copyS h htt ho hc)
 ·rename_i hc;exact done_nv fun v hv=>ok_clear h htt ho hc hv
 ·rename_i hc;exact done_nv fun v hv=>ok_delete h htt heq ho hc hv
 ·rename_i hc;exact done_pv h fun v hv=>ok_MM h ho (mx:=false) hc hv
 ·rename_i hc;exact done_pv h fun v hv=>ok_MM h ho (mx:=true) hc hv
 ·trivial
theorem SimC.put(h:SimC P K N β s tmps w){d:Nat}{u:Value}{v:CV}(hd:d<N)(hv:CR β u v):SimC P K N β ⟨s.env.put d (some v),s.H,s.nx⟩ (tmps.setIfInBounds d u) w:=by
 refine⟨by simpa using h.size,fun t c ht=>?_,h.blk,h.inj,h.lt,h.frame,h.oo,h.good⟩
 simp only [T.at_put]at ht
 by_cases hdt:d=t
 ·rw [if_pos hdt]at ht;cases ht;subst hdt
  have:(tmps.setIfInBounds d u).getD d undef=u:=by simp [h.size,hd]
  rw [this];exact hv
 ·rw [if_neg hdt]at ht
  rw [Array.getD_eq_getD_getElem?,Array.getElem?_setIfInBounds_ne hdt,←Array.getD_eq_getD_getElem?]
  exact h.slot t c ht
structure Call' where
 c:FuncId→List CV→T Blk→Nat→Option New
 y:Nat→List CV→T Blk→Nat→Option New
noncomputable def opCall(call:Call')(s:S)(c:Call):Option New:=
 match c.callee with
 |.value x=>match evO s.env x,mapO (evO s.env) c.args.toList with
  |some (.fn f caps),some vs=>call.c f (vs++caps) s.H s.nx
  |some (.bfn f first),some vs=>call.c f (first++vs) s.H s.nx
  |some (.yld q),some vs=>call.y q vs s.H s.nx
  |_,_=>none
 |_=>none
noncomputable def opXt(eq:EqT)(s:S)(c:Call):Option New:=
 match c.callee with
 |.value x=>match evO s.env x with
  |some (.fn f [])=>match eq.x.at' f,mapO (evO s.env) c.args.toList with
   |some (.mnz e),some [.int .i64 (.ofNat n)]=>bif Nat.ble n 281474976710656 then some ⟨.slc s.nx 0 n n false 1,s.H.put s.nx (some (.row n .e (2*e+1))),s.nx+1⟩else none
   |some .cmp,some [.str a,.str b]=>some ⟨.int .i64 (Go.Lib.compareBytes a b),s.H,s.nx⟩
   |some .ovl,some [.slc r1 _ _ _ _ _,.slc r2 _ _ _ _ _]=>match s.H.at' r1,s.H.at' r2 with
    |some (.row _ _ _),some (.row n2 _ _)=>bif Nat.beq r1 r2||Nat.beq n2 0 then none else some ⟨.bool false,s.H,s.nx⟩
    |_,_=>none
   |_,_=>none
  |_=>none
 |_=>none
noncomputable def opAny(tt:T TI)(eq:EqT)(call:Call')(s:S)(op:Op):OR:=
 match op with
 |.call c=>match c.callee with
  |.value _=>nv (orE (opCall call s c) (opXt eq s c))
  |_=>bltin tt eq s c
 |.binOp bop t x y _=>pv s (orE (opEq eq s.env bop t x y) (opBin tt s.env bop t x y))
 |op=>mapOp tt eq s op
noncomputable def callF0(c:Call)(tt:T TI)(eq:EqT)(call:Call')(s:S):OR:=
 Callee.rec (motive:=fun _=>Call→T TI→EqT→Call'→S→OR) (fun _ c _ eq call s=>nv (orE (opCall call s c) (opXt eq s c))) (fun _ _ _ _ _ _ _=>.bad) (fun _ c tt eq _ s=>bltin tt eq s c) c.callee c tt eq call s
noncomputable def opF(op:Op)(tt:T TI)(eq:EqT)(call:Call')(s:S):OR:=
 Op.rec (motive:=fun _=>T TI→EqT→Call'→S→OR)
  (fun x _ _ _ s=>pv s (evO s.env x))
  (fun x _ _ _ s=>pv s (evO s.env x))
  (fun c a b _ _ _ s=>pv s (opPick s.env c a b))
  (fun t tt _ _ s=>nv (opAlloc tt s t))
  (fun t x tt _ _ s=>nv (opBox tt s t x))
  (fun t ps tt _ _ s=>pv s (orE (opBuild tt s.env t ps) (opBuildA tt s.env t ps)))
  (fun t n ps tt _ _ s=>nv (opBuildSlice tt s t n ps))
  (fun t m k x tt eq _ s=>sv (opMapUpd tt eq s t m k x))
  (fun t a tt _ _ s=>pv s (opLoadF tt s t a))
  (fun t a x tt _ _ s=>sv (opStoreF tt s t a x))
  (fun _ _ _ _ _=>.bad)
  (fun _ _ _ _ _=>.bad)
  (fun x _ _ _ s=>pv s (opNilC s.env x))
  (fun op t x y _ tt eq _ s=>pv s (opBinF eq tt s.env op t x y))
  (fun op _ x _ _ _ s=>pv s (opUn s.env op x))
  (fun a b x tt _ _ s=>pv s (orE (opConv tt s.env a b x) (opConvB tt s a b x)))
  (fun _ _ _ _ _ _=>.bad)
  (fun t x tt _ _ s=>pv s (opIface tt s.env t x))
  (fun fn first caps _ _ _ s=>pv s (opFunc s.env fn first caps))
  (fun t r _ eq _ s=>nv (opMakeMap eq s t r))
  (fun _ _ _ _ _ _=>.bad)
  (fun t n c tt _ _ s=>nv (opMakeSl tt s t n c))
  (fun t x lo hi mx tt _ _ s=>pv s (orE (opSlice tt s.env t x lo hi mx) (opSliceA tt s t x lo hi mx)))
  (fun t x f tt _ _ s=>pv s (opFieldAddrF tt s.env t x f))
  (fun t x f tt _ _ s=>pv s (opField tt s.env t x f))
  (fun t x i tt _ _ s=>pv s (opIndexAddr tt s.env t x i))
  (fun t x i tt _ _ s=>pv s (orE (opIndex tt s.env t x i) (opIndexA tt s.env t x i)))
  (fun t x ix ok tt eq _ s=>pv s (opLookup tt eq s t x ix ok))
  (fun t m k x tt eq _ s=>sv (opMapUpd tt eq s t m k x))
  (fun t m k tt eq _ s=>nv (opMapEnt tt eq s t m k))
  (fun _ m x v _ _ _ s=>sv (opEntSt s m x v))
  (fun t x tt eq _ s=>nv (orE (opRange eq s t x) (opRangeS tt s t x)))
  (fun it b _ _ _ s=>nv (orE (opNext s it b) (opNextS s it b)))
  (fun it _ _ _ s=>pv s (opEntry s it))
  (fun x _ a ok tt _ _ s=>pv s (opAssert tt s.env x a ok))
  (fun x i _ _ _ s=>pv s (opExtF s.env x i))
  (fun c tt eq call s=>callF0 c tt eq call s)
  (fun _ _ _ _ _=>.bad)
  (fun _ _ _ _ _=>.bad)
  (fun _ _ _ _ _=>.bad)
  (fun _ _ _ _ _ _=>.bad)
  (fun _ _ _ _ _ _ _=>.bad)
  (fun _ _ _ _ _ _=>.bad)
  op tt eq call s
theorem opF_eq(op:Op)(tt:T TI)(eq:EqT)(call:Call')(s:S):opF op tt eq call s=opAny tt eq call s op:=by
 cases op<;>try rfl
 case load=>show pv s (opLoadF _ _ _ _)=pv s (opLoad _ _ _ _);rw [opLoadF_eq]
 case store=>show sv (opStoreF _ _ _ _ _)=sv (opStore _ _ _ _ _);rw [opStoreF_eq]
 case fieldAddr=>show pv s (opFieldAddrF _ _ _ _ _)=pv s (opFieldAddr _ _ _ _ _);rw [opFieldAddrF_eq]
 case extract=>show pv s (opExtF _ _ _)=pv s (opExt _ _ _);rw [opExtF_eq]
 case binOp=>show pv s (opBinF _ _ _ _ _ _ _)=pv s (orE (opEq _ _ _ _ _ _) (opBin _ _ _ _ _ _));rw [opBinF_eq]
 rename_i c
 cases c with
 |mk k a t=>cases k<;>rfl
noncomputable def wantG(ops:List Oper)(env:T CV)(g:Nat×Bool):Option Bool:=match nth ops g.1 with
 |some oj=>match oj.dst with
  |some t=>match env.at' t with
   |some (.bool b)=>some (b == g.2)
   |some .und=>some false
   |_=>none
  |none=>none
 |none=>none
noncomputable def wantC(ops:List Oper)(env:T CV)(g:Option (Nat×Bool)):Option Bool:=
 Option.rec (motive:=fun _=>List Oper→T CV→Option Bool) (fun _ _=>some true) (fun g ops env=>wantG ops env g) g ops env
theorem wantC_eq(ops:List Oper)(env:T CV)(g:Option (Nat×Bool)):wantC ops env g=match g with
 |none=>some true
 |some (j,want)=>match nth ops j with
  |some oj=>match oj.dst with
   |some t=>match env.at' t with
    |some (.bool b)=>some (b == want)
    |some .und=>some false
    |_=>none
   |none=>none
  |none=>none:=by
 cases g with
 |none=>rfl
 |some g=>obtain⟨j,want⟩:=g;rfl
noncomputable def setD(N:Nat)(d:Option Nat)(v:CV)(s:S):Option S:=
 match d with
 |some d=>bif Nat.blt d N then some ⟨s.env.put d (some v),s.H,s.nx⟩else none
 |none=>some s
noncomputable def outF(r:OR)(N:Nat)(d:Option Nat)(s:S):Option S:=
 OR.rec (motive:=fun _=>Nat→Option Nat→S→Option S) (fun v H nx N d s=>setD N d v ⟨s.env,H,nx⟩) (fun H N d s=>setD N d .und ⟨s.env,H,s.nx⟩) (fun _ _ _=>none) r N d s
noncomputable def step(tt:T TI)(eq:EqT)(call:Call')(N:Nat)(ops:List Oper)(s:S)(o:Oper):Option S:=
 Option.rec (motive:=fun _=>T TI→EqT→Call'→Nat→S→Oper→Option S) (fun _ _ _ _ _ _=>none)
  (fun b tt eq call N s o=>Bool.rec (motive:=fun _=>T TI→EqT→Call'→Nat→S→Oper→Option S) (fun _ _ _ N s o=>setD N o.dst .und s) (fun tt eq call N s o=>outF (opF o.op tt eq call s) N o.dst s) b tt eq call N s o)
  (wantC ops s.env o.guard) tt eq call N s o
theorem step_eq(tt:T TI)(eq:EqT)(call:Call')(N:Nat)(ops:List Oper)(s:S)(o:Oper):step tt eq call N ops s o=match wantC ops s.env o.guard with
    |some true=>match opAny tt eq call s o.op with
      |.val v H nx=>setD N o.dst v ⟨s.env,H,nx⟩
      |.skp H=>setD N o.dst .und ⟨s.env,H,s.nx⟩
      |.bad=>none
    |some false=>setD N o.dst .und s
    |none=>none:=by
  unfold step
  cases wantC ops s.env o.guard with
  |none=>rfl
  |some b=>
    cases b with
    |false=>rfl
    |true=>
      show outF (opF o.op tt eq call s) N o.dst s=_
      rw [opF_eq]
      cases opAny tt eq call s o.op<;>rfl
noncomputable def steps(tt:T TI)(eq:EqT)(call:Call')(N:Nat)(ops:List Oper)(l:List Oper):S→Option S:=
 List.rec (motive:=fun _=>S→Option S) (fun s=>some s) (fun o _ ih s=>Option.rec (motive:=fun _=>Option S) none (fun s'=>ih s') (step tt eq call N ops s o)) l
theorem wantC_ok(h:SimC P K N β s tmps w){opsA:Array Oper}{b:Bool}(hw:wantC opsA.toList s.env o.guard=some b):Region.wanted o (yielded opsA tmps)=b:=by
 rw [wantC_eq]at hw
 unfold Region.wanted
 split at hw
 ·rename_i hg;rw [hg];exact Option.some.inj hw
 ·rename_i j want hg
  rw [hg]
  split at hw
  case h_2=>cases hw
  rename_i oj hj
  rw [nth_eq]at hj
  split at hw
  case h_2=>cases hw
  rename_i t ht
  have hy:yielded opsA tmps j=match tmps[t]? with|some (.bool b)=>some b|_=>none:=by
   unfold yielded
   have e:opsA[j]? = some oj:=by simpa using hj
   rw [e];simp only [Option.bind_some,ht];rfl
  split at hw
  ·rename_i b' hb
   cases hw
   have e:=cr_bool (h.slot t _ hb)
   have e2:tmps[t]? = some (.bool b'):=by
    rw [Array.getD_eq_getD_getElem?]at e
    cases hh:tmps[t]? with
    |none=>rw [hh]at e;simp [undef]at e
    |some v=>rw [hh]at e;simp at e;rw [e]
   simp only [hy,e2]
   cases b'<;>cases want<;>rfl
  ·rename_i hb
   cases hw
   have e:=h.slot t _ hb
   generalize hu:tmps.getD t undef=u at e
   cases e
   have e2:tmps[t]? = some (.tuple #[])∨tmps[t]? = none:=by
    rw [Array.getD_eq_getD_getElem?]at hu
    cases hh:tmps[t]? with
    |none=>exact .inr rfl
    |some v=>rw [hh]at hu;simp at hu;left;rw [hu]
   rcases e2 with e2|e2<;>simp [hy,e2]
  ·cases hw
theorem ex_ds{tmps:Array Value}{ds:List Deferred}{o:Oper}:execOp (Act.eval ⟨tmps,ds⟩) o=execOp (Act.eval ⟨tmps,[]⟩) o:=rfl
theorem setD_ok{ds:List Deferred}(h:SimC P K N β s tmps w){d:Option Nat}{u:Value}{v:CV}(hv:CR β u v){s':S}(hs:setD N d v s=some s'):SimC P K N β s' ((⟨tmps,ds⟩:Act).put d u).tmps w∧((⟨tmps,ds⟩:Act).put d u).defers=ds:=by
 unfold setD at hs
 split at hs
 ·rw [Bool.cond_eq_ite]at hs
  split at hs<;>cases hs
  rename_i hd
  exact⟨h.put (by simpa using hd) hv,rfl⟩
 ·cases hs;exact⟨h,rfl⟩
theorem setD_nx{N:Nat}{d:Option Nat}{v:CV}{s s':S}(hs:setD N d v s=some s'):s'.nx=s.nx:=by
 unfold setD at hs
 split at hs
 ·rw [Bool.cond_eq_ite]at hs
  split at hs<;>cases hs
  rfl
 ·cases hs;rfl
end
end Go.Ab.Cm
namespace Go.Ab.Cm
section
variable {P:Program} {K:Ctx} {N:Nat} {β:Nat→Option BI} {s:S} {tmps:Array Value} {w:World} {o:Oper} {tt:TT}
theorem SimC.heap(h:SimC P K N β s tmps w):SimC P K 0 β ⟨.e,s.H,s.nx⟩ #[] w:=
 ⟨rfl,(fun t v ht=>by rw [T.at_e]at ht;cases ht),h.blk,h.inj,h.lt,h.frame,h.oo,h.good⟩
theorem SimC.back(h:SimC P K N β s tmps w){β':Nat→Option BI}(hm:∀r bi,β r=some bi→β' r=some bi){H:T Blk}{nx:Nat}{w':World}(h':SimC P K 0 β' ⟨.e,H,nx⟩ #[] w'):SimC P K N β' ⟨s.env,H,nx⟩ tmps w':=
 ⟨h.size,fun t v ht=>(h.slot t v ht).mono hm,h'.blk,h'.inj,h'.lt,h'.frame,h'.oo,h'.good⟩
theorem exec_callB {c : Call} (ho : o.op = .call c) {x : Operand} (hc : c.callee = .value x) {fn : FuncId} {vs : List Value} (hx : (⟨tmps, []⟩ : Act).eval x = .func (.func fn) ⟨vs⟩ #[]) {fd : Func} (hf : P.funcs[fn]? = some fd) (hb : fd.body.isSome = true) (hn : fd.name ≠ "runtime.NumGoroutine") :
    (execOp (Act.eval ⟨tmps,[]⟩) o).run P w = .ok (.enter fn ⟨vs++c.args.toList.map (⟨tmps,[]⟩:Act).eval⟩) w:=by
  have hbn:fd.body≠none:=by intro hh;rw [hh]at hb;cases hb
  have e:(⟨vs⟩:Array Value)++c.args.map (⟨tmps,[]⟩:Act).eval=⟨vs++c.args.toList.map (⟨tmps,[]⟩:Act).eval⟩:=by apply Array.ext';simp
  simp [execOp,ho,resolve,hc,hx,Deferred.ofValue,invoke,callFunc,hf,hbn,hn,e]
def FW(ρ:Option Nat):Fence:={Fence.wide with round:=ρ}
theorem FW_room(ρ:Option Nat)(n:Nat):(FW ρ).room n:=fun _ h=>by simp [FW,Fence.wide]at h
theorem callsFW{ρ:Option Nat}{n:Nat}{f:FuncId}{args:Array Value}{R:Ending→World→Prop}(h:Calls P f args w R):CallsIn (FW ρ) n P f args w R:=(callsIn_wide (n:=n)).2 h
def YCalls(P:Program)(q:Nat)(args:List CV)(H:T Blk)(nx:Nat)(n:New):Prop:=
 ∀(K:Ctx) (w:World) (vs:List Value) (β:Nat→Option BI) (bi:BI),vs.length=args.length→(∀(i:Nat) u c,vs[i]? = some u→args[i]? = some c→CR β u c)→SimC P K 0 β ⟨.e,H,nx⟩ #[] w→β q=some bi→
  ∃f tm as bo,(Instr.yield bi.b ⟨vs⟩).run P w = .ok (.round bi.b f tm as bo) w∧
   RoundIn (FW none) 0 P bi.b f tm as bo w fun e w'=>∃u β',e = .returned u∧Ext nx n.nx β β'∧SimC P K 0 β' ⟨.e,n.H,n.nx⟩ #[] w'∧CR β' u n.v
structure CallOk(P:Program)(call:Call'):Prop where
 c:∀f args H nx n,call.c f args H nx=some n→CCalls P f args H nx n
 y:∀q args H nx n,call.y q args H nx=some n→YCalls P q args H nx n
theorem not_defer{tt:T TI}{eq:EqT}{call:Call'}{s:S}{op:Op}(h:opAny tt eq call s op ≠ .bad):∀c,op ≠ .defer c:=by
 rintro c rfl
 exact h rfl
section
variable {ρ:Option Nat} {ds:List Deferred} {next:Act→World→Prop} {Q:Exit→Act→World→Prop} {w':World}
theorem wpv(hnd:∀c,o.op ≠ .defer c){u:Value}(h:(execOp (Act.eval ⟨tmps,[]⟩) o).run P w = .ok (.value u) w')(hn:next ((⟨tmps,ds⟩:Act).put o.dst u) w'):o.wpIn (FW ρ) 0 P ⟨tmps,ds⟩ w next Q:=by
 refine⟨fun _ _=>trivial,?_⟩
 rw [Oper.semAt_eq _ _ _ hnd,ex_ds,h]
 exact hn
theorem wps(hnd:∀c,o.op ≠ .defer c)(h:(execOp (Act.eval ⟨tmps,[]⟩) o).run P w = .ok .skip w')(hn:next ((⟨tmps,ds⟩:Act).put o.dst undef) w'):o.wpIn (FW ρ) 0 P ⟨tmps,ds⟩ w next Q:=by
 refine⟨fun _ _=>trivial,?_⟩
 rw [Oper.semAt_eq _ _ _ hnd,ex_ds,h]
 exact hn
theorem wpe(hnd:∀c,o.op ≠ .defer c){f:FuncId}{args:Array Value}(h:(execOp (Act.eval ⟨tmps,[]⟩) o).run P w = .ok (.enter f args) w){R:Value→World→Prop}(hc:Calls P f args w fun e w'=>∃u,e = .returned u∧R u w')(hn:∀u w',R u w'→next ((⟨tmps,ds⟩:Act).put o.dst u) w'):o.wpIn (FW ρ) 0 P ⟨tmps,ds⟩ w next Q:=by
 refine⟨fun _ _=>trivial,?_⟩
 rw [Oper.semAt_eq _ _ _ hnd,ex_ds,h,Oper.uponIn_enter]
 refine⟨fun hh=>by simp [FW,Fence.wide]at hh,callsFW (hc.mono ?_)⟩
 rintro e w' ⟨u,rfl,hr⟩
 exact hn u w' hr
theorem wpr(hnd:∀c,o.op ≠ .defer c){l:Nat}{f:FuncId}{tm:Array Value}{as bo:Code}(h:(execOp (Act.eval ⟨tmps,[]⟩) o).run P w = .ok (.round l f tm as bo) w){R:Value→World→Prop}(hc:RoundIn (FW none) 0 P l f tm as bo w fun e w'=>∃u,e = .returned u∧R u w')(hn:∀u w',R u w'→next ((⟨tmps,ds⟩:Act).put o.dst u) w'):o.wpIn (FW ρ) 0 P ⟨tmps,ds⟩ w next Q:=by
 refine⟨fun _ _=>trivial,?_⟩
 rw [Oper.semAt_eq _ _ _ hnd,ex_ds,h,Oper.uponIn_round]
 refine⟨fun hh=>by simp [FW,Fence.wide]at hh,?_⟩
 have hc':RoundIn (FW ρ) 0 P l f tm as bo w fun e w'=>∃u,e = .returned u∧R u w':=hc
 refine hc'.mono ?_
 rintro e w' ⟨u,rfl,hr⟩
 exact hn u w' hr
end
theorem exec_yield{c:Call}(ho:o.op = .call c){x:Operand}(hc:c.callee = .value x){l:Nat}(hx:(⟨tmps,[]⟩:Act).eval x = .func (.yield l) #[] #[]){r:Result Next}(h:(Instr.yield l ⟨c.args.toList.map (⟨tmps,[]⟩:Act).eval⟩).run P w=r):
    (execOp (Act.eval ⟨tmps,[]⟩) o).run P w=r:=by
  have e:c.args.map (⟨tmps,[]⟩:Act).eval=⟨c.args.toList.map (⟨tmps,[]⟩:Act).eval⟩:=by apply Array.ext';simp
  simp [execOp,ho,resolve,hc,hx,Deferred.ofValue,invoke,e,h]
theorem exec_xt{c:Call}(ho:o.op = .call c){x:Operand}(hc:c.callee = .value x){fn:FuncId}(hx:(⟨tmps,[]⟩:Act).eval x = .func (.func fn) #[] #[]){vs:List Value}(hvs:c.args.toList.map (⟨tmps,[]⟩:Act).eval=vs){r:Result Next}(h:(callFunc fn ⟨vs⟩).run P w=r):
    (execOp (Act.eval ⟨tmps,[]⟩) o).run P w=r:=by
  have e:c.args.map (⟨tmps,[]⟩:Act).eval=⟨vs⟩:=by apply Array.ext';simp [←hvs]
  simp [execOp,ho,resolve,hc,hx,Deferred.ofValue,invoke,e,h]
theorem ok_xt{eq:EqT}(heq:EqOk P tt eq)(h:SimC P K N β s tmps w){c:Call}(ho:o.op = .call c){n:New}(hx:opXt eq s c=some n):Yld P K N β s o tmps w n.v n.H n.nx:=by
 unfold opXt at hx
 split at hx
 case h_2=>cases hx
 rename_i x hcal
 split at hx
 case h_2=>cases hx
 rename_i f hf
 have hfv:(⟨tmps,[]⟩:Act).eval x = .func (.func f) #[] #[]:=by
  have e:=evO_rep h hf
  generalize (⟨tmps,[]⟩:Act).eval x=ux at e
  cases e with
  |fn _ us _ hn hr=>cases us with
   |nil=>rfl
   |cons _ _=>simp at hn
 split at hx
 ·rename_i e m hk hvs
  obtain⟨g1,g2⟩:=mapO_get hvs
  rw [Bool.cond_eq_ite]at hx
  split at hx<;>cases hx
  rename_i hm
  obtain⟨cs,h1,h2,h3⟩:=heq.x f _ hk m w (Nat.le_of_ble_eq_true hm)
  obtain⟨a,ha⟩:∃a,c.args.toList=[a]:=by
   match c.args.toList,g1 with
   |[a],_=>exact⟨a,rfl⟩
  rw [ha]at g2
  have ea:=cr_int (evO_rep h (g2 0 a _ rfl rfl))
  have hex:=exec_xt (P:=P) (w:=w) ho hcal hfv (vs:=[.int .i64 m]) (by rw [ha];simp [ea]) h1
  obtain⟨k1,k2⟩:=h.newRow (vs:=cs.toList) (T0:=e) (n:=m) (cs:=.e) (t0:=2*e+1) (.inr (.inl rfl)) (by simpa using h2) h3 (fun i v hv=>by rw [T.at_e]at hv;cases hv)
   (w':=w.drew.drew.alloc (.cells cs e)) rfl rfl
  refine⟨_,_,_,hex,k1,k2,?_⟩
  have hbi:(fun r=>if r=s.nx then some (⟨w.heap.size,cs.toList.length⟩:BI)else β r) s.nx=some ⟨w.heap.size,cs.toList.length⟩:=if_pos rfl
  exact .slc (β:=fun r=>if r=s.nx then some ⟨w.heap.size,cs.toList.length⟩else β r) s.nx 0 m m cs.size 1 false _ hbi (Nat.le_refl _) h2 (fun hh=>by cases hh) (by simp)
 ·rename_i a b hk hvs
  cases hx
  obtain⟨g1,g2⟩:=mapO_get hvs
  obtain⟨x1,x2,ha⟩:∃x1 x2,c.args.toList=[x1,x2]:=by
   match c.args.toList,g1 with
   |[a,b],_=>exact⟨a,b,rfl⟩
  rw [ha]at g2
  have e1:=cr_str (evO_rep h (g2 0 x1 _ rfl rfl))
  have e2:=cr_str (evO_rep h (g2 1 x2 _ rfl rfl))
  exact⟨_,_,_,exec_xt (P:=P) (w:=w) ho hcal hfv (vs:=[.string ⟨⟨a⟩⟩,.string ⟨⟨b⟩⟩]) (by rw [ha];simp [e1,e2]) (heq.x f _ hk _ _ w),.refl _ _,h,.int _ _⟩
 ·rename_i r1 _ _ _ _ _ r2 _ _ _ _ _ hk hvs
  obtain⟨g1,g2⟩:=mapO_get hvs
  obtain⟨x1,x2,ha⟩:∃x1 x2,c.args.toList=[x1,x2]:=by
   match c.args.toList,g1 with
   |[a,b],_=>exact⟨a,b,rfl⟩
  rw [ha]at g2
  have e1:=evO_rep h (g2 0 x1 _ rfl rfl)
  have e2:=evO_rep h (g2 1 x2 _ rfl rfl)
  split at hx
  case h_2=>cases hx
  rename_i na ca ta nb cb tb hq1 hq2
  rw [Bool.cond_eq_ite]at hx
  split at hx<;>cases hx
  rename_i hck
  simp only [Bool.or_eq_true,Nat.beq_eq,not_or]at hck
  obtain⟨b1,vs1,T1,p1,p2,p3,p4,p5,p6,p7,p8⟩:=h.row _ _ _ _ hq1
  obtain⟨b2,vs2,T2,q1,q2,q3,q4,q5,q6,q7,q8⟩:=h.row _ _ _ _ hq2
  generalize hu1:(⟨tmps,[]⟩:Act).eval x1=u1 at e1
  generalize hu2:(⟨tmps,[]⟩:Act).eval x2=u2 at e2
  cases e1 with
  |slc _ _ _ _ _ _ _ bi1 hb1=>
  cases e2 with
  |slc _ _ _ _ _ _ _ bi2 hb2=>
  rw [hb1]at p1;cases p1
  rw [hb2]at q1;cases q1
  refine⟨_,_,_,exec_xt (P:=P) (w:=w) ho hcal hfv (by rw [ha,List.map_cons,List.map_cons,List.map_nil,hu1,hu2]) (heq.x f _ hk w ⟨b1.b,_,none⟩ ⟨b2.b,_,none⟩ _ _ _ _ T1 T2 vs1.length vs2.length (fun he=>hck.1 (h.inj _ _ _ _ _ _ hq1 hq2 hb1 hb2 he)) ?_ ?_ (by omega) ?_ ?_),.refl _ _,h,.bool _⟩
  ·simp [World.shape?,p2]
  ·simp [World.shape?,q2]
  ·exact Lib.frozen_of_heap p2 _
  ·exact Lib.frozen_of_heap p2 _
 ·cases hx
theorem any_cases(htt:TTok P tt=true){eq:EqT}(heq:EqOk P tt eq){call:Call'}(hcall:CallOk P call)(h:SimC P K N β s tmps w):
    ∀r,opAny (mkT tt) eq call s o.op=r→Done P K N β s o tmps w r∨(∃fn vs v H nx,r = .val v H nx∧(execOp (Act.eval ⟨tmps,[]⟩) o).run P w = .ok (.enter fn vs) w∧
        Calls P fn vs w (fun e w'=>∃u,e = .returned u∧∃ β',Ext s.nx nx β β'∧SimC P K N β' ⟨s.env,H,nx⟩ tmps w'∧CR β' u v))∨
      ∃l f tm as bo v H nx,r = .val v H nx∧(execOp (Act.eval ⟨tmps,[]⟩) o).run P w = .ok (.round l f tm as bo) w∧
        RoundIn (FW none) 0 P l f tm as bo w (fun e w'=>∃u,e = .returned u∧∃ β',Ext s.nx nx β β'∧SimC P K N β' ⟨s.env,H,nx⟩ tmps w'∧CR β' u v)∧∃q vs n,call.y q vs s.H s.nx=some n:=by
  intro r hr
  unfold opAny at hr
  split at hr
  · rename_i c ho
    split at hr
    case h_2=>subst hr;exact .inl (bltin_ok h htt heq ho)
    cases hc0:orE (opCall call s c) (opXt eq s c) with
    |none=>rw [hc0]at hr;subst hr;exact .inl trivial
    |some n=>
      rw [hc0]at hr
      subst hr
      rcases orE_some hc0 with hc|hc
      case inr=>exact .inl (ok_xt heq h ho hc)
      unfold opCall at hc
      split at hc
      case h_2=>cases hc
      rename_i x hcal
      split at hc
      case h_4=>cases hc
      · rename_i f caps vs hx hvs
        obtain⟨⟨fd,k1,k2,k3⟩,k4⟩:=hcall.c _ _ _ _ _ hc
        obtain⟨g1,g2⟩:=mapO_get hvs
        have e:=evO_rep h hx
        generalize hvx:(⟨tmps,[]⟩:Act).eval x=ux at e
        cases e with
        |fn _ us _ hn hr=>
          right;left
          refine⟨f,_,n.v,n.H,n.nx,rfl,exec_call ho hcal hvx k1 k2 k3,?_⟩
          refine(k4 K w _ β (by simp [g1,hn]) (fun i u c hu hc=>?_) h.heap).mono ?_
          · by_cases hi:i<vs.length
            · rw [List.getElem?_append_left hi]at hc
              rw [List.getElem?_append_left (by simpa [←g1]using hi),List.getElem?_map,Option.map_eq_some_iff]at hu
              obtain⟨y,hy,rfl⟩:=hu
              exact evO_rep h (g2 i y c hy hc)
            · rw [List.getElem?_append_right (by omega)]at hc
              rw [List.getElem?_append_right (by simp [←g1];omega)]at hu
              simp only [List.length_map,←g1]at hu
              exact hr _ u c hu hc
          · rintro e w' ⟨u,β',h1,h2,h3,h4⟩
            exact⟨u,h1,β',h2,h.back h2.mono h3,h4⟩
      · rename_i f first vs hx hvs
        obtain⟨⟨fd,k1,k2,k3⟩,k4⟩:=hcall.c _ _ _ _ _ hc
        obtain⟨g1,g2⟩:=mapO_get hvs
        have e:=evO_rep h hx
        generalize hvx:(⟨tmps,[]⟩:Act).eval x=ux at e
        cases e with
        |bfn _ us _ hn hr=>
          right;left
          refine⟨f,_,n.v,n.H,n.nx,rfl,exec_callB ho hcal hvx k1 k2 k3,?_⟩
          refine(k4 K w _ β (by simp [g1,hn]) (fun i u c hu hc=>?_) h.heap).mono ?_
          · by_cases hi:i<first.length
            · rw [List.getElem?_append_left hi]at hc
              rw [List.getElem?_append_left (by omega)]at hu
              exact hr _ u c hu hc
            · rw [List.getElem?_append_right (by omega)]at hc
              rw [List.getElem?_append_right (by omega),List.getElem?_map,Option.map_eq_some_iff]at hu
              obtain⟨y,hy,rfl⟩:=hu
              rw [hn]at hy
              exact evO_rep h (g2 _ y c hy hc)
          · rintro e w' ⟨u,β',h1,h2,h3,h4⟩
            exact⟨u,h1,β',h2,h.back h2.mono h3,h4⟩
      · rename_i q vs hx hvs
        have hy:=hcall.y _ _ _ _ _ hc
        obtain⟨g1,g2⟩:=mapO_get hvs
        have e:=evO_rep h hx
        generalize hvx:(⟨tmps,[]⟩:Act).eval x=ux at e
        cases e with
        |yld _ bi hb=>
          right;right
          obtain⟨f,tm,as,bo,r1,r2⟩:=hy K w (c.args.toList.map (⟨tmps,[]⟩:Act).eval) β bi (by simp [g1]) (fun i u k hu hk=>by
            rw [List.getElem?_map,Option.map_eq_some_iff]at hu
            obtain⟨z,hz,rfl⟩:=hu
            exact evO_rep h (g2 i z k hz hk)) h.heap hb
          refine⟨bi.b,f,tm,as,bo,n.v,n.H,n.nx,rfl,exec_yield ho hcal hvx r1,r2.mono ?_,q,vs,n,hc⟩
          rintro e w' ⟨u,β',h1,h2,h3,h4⟩
          exact⟨u,h1,β',h2,h.back h2.mono h3,h4⟩
  · rename_i bop t x y t2 ho
    subst hr
    exact .inl (done_pv h fun c hc=>(orE_some hc).elim (ok_eq h htt heq ho) (ok_bin h htt ho))
  · subst hr
    exact .inl (mapOp_ok h htt heq rfl)
theorem step_ok{ρ:Option Nat}{ds:List Deferred}(htt:TTok P tt=true){eq:EqT}(heq:EqOk P tt eq){call:Call'}(hcall:CallOk P call)(h:SimC P K N β s tmps w){opsA:Array Oper}{s':S}(hs:step (mkT tt) eq call N opsA.toList s o=some s'){Q:Exit→Act→World→Prop}{next:Act→World→Prop}
    (hnext:∀tmps' w' β',Ext s.nx s'.nx β β'→SimC P K N β' s' tmps' w'→next ⟨tmps',ds⟩ w'):
    if Region.wanted o (yielded opsA tmps)then o.wpIn (FW ρ) 0 P ⟨tmps,ds⟩ w next Q else(∀f,o.about P w (Act.eval ⟨tmps,ds⟩)=some f→(FW ρ).fn f)∧next ((⟨tmps,ds⟩:Act).put o.dst undef) w:=by
  rw [step_eq]at hs
  have fin:∀{β':Nat→Option BI} {u:Value} {v:CV} {H:T Blk} {nx:Nat} {w':World},Ext s.nx nx β β'→SimC P K N β' ⟨s.env,H,nx⟩ tmps w'→CR β' u v→setD N o.dst v ⟨s.env,H,nx⟩=some s'→next ((⟨tmps,ds⟩:Act).put o.dst u) w':=by
    intro β' u v H nx w' hm h1 h2 h3
    obtain⟨h4,h5⟩:=setD_ok (ds:=ds) h1 h2 h3
    generalize (⟨tmps,ds⟩:Act).put o.dst u=a at h4 h5
    obtain⟨t',d'⟩:=a
    simp only at h4 h5
    subst h5
    exact hnext t' w' β' (by rw [setD_nx h3];exact hm) h4
  split at hs
  case h_3=>cases hs
  · rename_i hw
    rw [wantC_ok h hw,if_pos rfl]
    have hd:=any_cases (P:=P) (o:=o) htt heq hcall h
    split at hs
    case h_3=>cases hs
    · rename_i v H nx hr
      have hnd:=not_defer (show opAny (mkT tt) eq call s o.op ≠ .bad by rw [hr];simp)
      rcases hd _ hr with⟨u,w',β',h1,h2,h3,h4⟩|⟨fn,vs,v',H',nx',he,h1,h2⟩|⟨l,f,tm,as,bo,v',H',nx',he,h1,h2,_⟩
      · exact wpv hnd h1 (fin h2 h3 h4 hs)
      · cases he
        exact wpe hnd h1 h2 fun u w' ⟨β',k2,k3,k4⟩=>fin k2 k3 k4 hs
      · cases he
        exact wpr hnd h1 h2 fun u w' ⟨β',k2,k3,k4⟩=>fin k2 k3 k4 hs
    · rename_i H hr
      have hnd:=not_defer (show opAny (mkT tt) eq call s o.op ≠ .bad by rw [hr];simp)
      rcases hd _ hr with⟨w',h1,h2⟩|⟨fn,vs,v',H',nx',he,_⟩|⟨l,f,tm,as,bo,v',H',nx',he,_⟩
      · exact wps hnd h1 (fin (.refl _ _) h2 .und hs)
      · cases he
      · cases he
  · rename_i hw
    rw [wantC_ok h hw]
    simp only [Bool.false_eq_true,if_false]
    exact⟨fun _ _=>trivial,fin (.refl _ _) h .und hs⟩
theorem steps_wpR{ρ:Option Nat}{ds:List Deferred}(htt:TTok P tt=true){eq:EqT}(heq:EqOk P tt eq){call:Call'}(hcall:CallOk P call){opsA:Array Oper}{Q:Exit→Act→World→Prop}{rest:List Nat}:
    ∀(l:List Oper) (k:Nat) (s:S) (tmps:Array Value) (w:World) (β:Nat→Option BI) (s':S),(∀(j:Nat) o,l[j]? = some o→opsA.toList[k+j]? = some o)→SimC P K N β s tmps w→steps (mkT tt) eq call N opsA.toList l s=some s'→
      (∀tmps' w' β',Ext s.nx s'.nx β β'→SimC P K N β' s' tmps' w'→wpOpsIn (FW ρ) 0 P opsA Q rest ⟨tmps',ds⟩ w')→wpOpsIn (FW ρ) 0 P opsA Q (List.range' k l.length++rest) ⟨tmps,ds⟩ w
  |[],k,s,tmps,w,β,s',_,h,hs,hQ=>by cases hs;exact hQ tmps w β (.refl _ _) h
  |o::l,k,s,tmps,w,β,s',hl,h,hs,hQ=>by
    have hk:opsA[k]? = some o:=by
      have:=hl 0 o rfl
      rw [←Array.getElem?_toList];simpa using this
    have e:steps (mkT tt) eq call N opsA.toList (o::l) s=match step (mkT tt) eq call N opsA.toList s o with|some s1=>steps (mkT tt) eq call N opsA.toList l s1|none=>none:=by
      have e0:steps (mkT tt) eq call N opsA.toList (o::l) s=Option.rec (motive:=fun _=>Option S) none (fun s1=>steps (mkT tt) eq call N opsA.toList l s1) (step (mkT tt) eq call N opsA.toList s o):=rfl
      rw [e0];cases step (mkT tt) eq call N opsA.toList s o<;>rfl
    rw [e]at hs
    split at hs
    case h_2=>cases hs
    rename_i s1 hs1
    simp only [List.length_cons,List.range'_succ,List.cons_append,wpOpsIn,hk]
    refine step_ok htt heq hcall h hs1 fun tmps' w' β' hm h'=>?_
    exact steps_wpR htt heq hcall l (k+1) s1 tmps' w' β' s' (fun j o' hj=>by have:=hl (j+1) o' (by simpa using hj);simpa [Nat.add_assoc,Nat.add_comm 1 j]using this) h' hs fun t2 w2 b2 hm2 h2=>hQ t2 w2 b2 (hm.trans hm2) h2
theorem steps_wp{ρ:Option Nat}{ds:List Deferred}(htt:TTok P tt=true){eq:EqT}(heq:EqOk P tt eq){call:Call'}(hcall:CallOk P call){opsA:Array Oper}{Q:Exit→Act→World→Prop}
    (l:List Oper) (k:Nat) (s:S) (tmps:Array Value) (w:World) (β:Nat→Option BI) (s':S) (hl:∀j,l[j]? = opsA.toList[k+j]?) (h:SimC P K N β s tmps w) (hs:steps (mkT tt) eq call N opsA.toList l s=some s')
    (hQ:∀tmps' w' β',Ext s.nx s'.nx β β'→SimC P K N β' s' tmps' w'→Q .normal ⟨tmps',ds⟩ w'):wpOpsIn (FW ρ) 0 P opsA Q (List.range' k l.length) ⟨tmps,ds⟩ w:=by
  have:=steps_wpR (ρ:=ρ) (ds:=ds) (rest:=[]) htt heq hcall l k s tmps w β s' (fun j o hj=>by rw [←hl j];exact hj) h hs hQ
  rwa [List.append_nil]at this
end
end Go.Ab.Cm
namespace Go.Ab.Cm
def kindO(op:Op):Nat:=
 match op with
 |.alloc _=>3
 |.box .. => 3
 |.buildSlice .. => 3
 |.makeSlice .. => 3
 |.load .. => 1
 |.convert .. => 1
 |.move _=>0
 |.assign _=>0
 |.pick .. => 0
 |.nilCheck _=>0
 |.binOp .. => 0
 |.unOp .. => 0
 |.makeInterface .. => 0
 |.makeFunc .. => 0
 |.fieldAddr .. => 0
 |.field .. => 0
 |.indexAddr .. => 0
 |.index .. => 0
 |.extract .. => 0
 |.build .. => 0
 |.slice .. => 1
 |.call c=>match c.callee with
  |.builtin .len=>1
  |.builtin .min=>0
  |.builtin .cap=>0
  |.builtin .max=>0
  |_=>2
 |_=>2
noncomputable def maskE(ms:T Nat)(es:List Edge):Nat:=
 List.rec (motive:=fun _=>Nat) 0 (fun e _ m=>bif Region.binds .any e then Nat.lor (Nat.lor (Nat.shiftLeft 1 e.on) (match ms.at' e.on with|some x=>x|none=>0)) m else m) es
noncomputable def masksT(l:List Oper):Nat→T Nat→T Nat:=
 List.rec (motive:=fun _=>Nat→T Nat→T Nat) (fun _ ms=>ms) (fun o _ ih i ms=>ih (Nat.succ i) (ms.put i (some (maskE ms o.after.toList)))) l
noncomputable def waitsM(ms:T Nat)(i j:Nat):Bool:=match ms.at' j with
 |some m=>Nat.testBit m i
 |none=>false
def sameO(a b:Option Nat):Bool:=match a,b with|some x,some y=>Nat.beq x y|_,_=>false
def hitsD(ops:List Oper)(d:Option Nat)(o:Oper):Bool:=match d with|some t=>(opSlots ops o).any (Nat.beq t)|none=>false
noncomputable def pairOk(ms:T Nat)(ops:List Oper)(m i:Nat)(o:Oper)(j:Nat)(o':Oper):Bool:=
 waitsM ms i j || !(sameO o.dst o'.dst||hitsD ops o.dst o'||hitsD ops o'.dst o ||
  (Nat.ble 2 (kindO o.op)&&(Nat.beq (kindO o'.op) 2&&Nat.blt i m)))
noncomputable def rowOk(ms:T Nat)(ops:List Oper)(m i:Nat)(o:Oper)(l:List Oper):Nat→Bool:=
 List.rec (motive:=fun _=>Nat→Bool) (fun _=>true) (fun o' _ ih j=>Bool.rec (motive:=fun _=>Bool) false (ih (Nat.succ j)) (pairOk ms ops m i o j o')) l
noncomputable def pairsOk(ms:T Nat)(ops:List Oper)(m:Nat)(l:List Oper):Nat→Bool:=
 List.rec (motive:=fun _=>Nat→Bool) (fun _=>true) (fun o l ih i=>Bool.rec (motive:=fun _=>Bool) false (ih (Nat.succ i)) (rowOk ms ops m i o l (Nat.succ i)&&o.after.toList.all fun e=>!Region.binds .any e||Nat.blt e.on i)) l
noncomputable def orderOk(ops:List Oper)(m:Nat):Bool:=pairsOk (masksT ops 0 .e) ops m ops 0
noncomputable def renv(env:T CV)(ts:List Nat):T CV:=List.rec (motive:=fun _=>T CV) .e (fun t _ r=>r.put t (env.at' t)) ts
structure Rc where
 i:Nat
 o:Oper
 e:T CV
 on:Bool
 v:CV
 H:T Blk
 nx:Nat
noncomputable def opR(tt:T TI)(eq:EqT)(call:Call')(r:Nat)(s:S)(op:Op):OR:=
 bif Nat.beq (kindO op) 3 then
  match newOf tt s.env op with
  |some n=>.val (n.v r) (s.H.put r (some n.row)) s.nx
  |none=>.bad
 else opF op tt eq call s
noncomputable def stepT(tt:T TI)(eq:EqT)(call:Call')(N:Nat)(ops:List Oper)(nx0 i:Nat)(s:S)(o:Oper):Option (Rc×S):=
 let e:=renv s.env (opSlots ops o)
 match wantC ops e o.guard with
 |some true=>match opR tt eq call (Nat.add nx0 i) ⟨e,s.H,s.nx⟩ o.op with
  |.val v H nx=>(setD N o.dst v ⟨s.env,H,nx⟩).map fun s'=>(⟨i,o,e,true,v,s.H,s.nx⟩,s')
  |.skp H=>(setD N o.dst .und ⟨s.env,H,s.nx⟩).map fun s'=>(⟨i,o,e,true,.und,s.H,s.nx⟩,s')
  |.bad=>none
 |some false=>(setD N o.dst .und s).map fun s'=>(⟨i,o,e,false,.und,s.H,s.nx⟩,s')
 |none=>none
noncomputable def stepsT(tt:T TI)(eq:EqT)(call:Call')(N:Nat)(ops:List Oper)(nx0:Nat)(l:List Oper):Nat→S→Option (List Rc×S):=
 List.rec (motive:=fun _=>Nat→S→Option (List Rc×S)) (fun _ s=>some ([],s))
  (fun o _ ih i s=>Option.rec (motive:=fun _=>Option (List Rc×S)) none (fun x=>Option.rec (motive:=fun _=>Option (List Rc×S)) none (fun y=>some (x.1::y.1,y.2)) (ih (Nat.succ i) x.2)) (stepT tt eq call N ops nx0 i s o)) l
noncomputable def eqStep(ih:CV→CV→Bool)(a b:CV):Bool:=match a,b with
 |.int k n,.int k' n'=>decide (k=k')&&decide (n=n')
 |.bool x,.bool y=>x == y
 |.str x,.str y=>eqL eqU x y
 |.ptr r o,.ptr r' o'=>Nat.beq r r'&&Nat.beq o o'
 |.nilp,.nilp=>true
 |.slc r o n c x k,.slc r' o' n' c' x' k'=>Nat.beq r r'&&Nat.beq o o'&&Nat.beq n n'&&Nat.beq c c'&&(x == x')&&Nat.beq k k'
 |.slz,.slz=>true
 |.nils,.nils=>true
 |.agg xs,.agg ys=>eqL ih xs ys
 |.tup xs,.tup ys=>eqL ih xs ys
 |.iface t x,.iface t' y=>Nat.beq t t'&&ih x y
 |.nili,.nili=>true
 |.fn g xs,.fn g' ys=>Nat.beq g g'&&eqL ih xs ys
 |.yld r,.yld r'=>Nat.beq r r'
 |.nilf,.nilf=>true
 |.bfn g xs,.bfn g' ys=>Nat.beq g g'&&eqL ih xs ys
 |.map r,.map r'=>Nat.beq r r'
 |.nilm,.nilm=>true
 |.glb g,.glb g'=>Nat.beq g g'
 |.und,.und=>true
 |_,_=>false
noncomputable def eqCV(n:Nat):CV→CV→Bool:=Nat.rec (motive:=fun _=>CV→CV→Bool) (fun _ _=>false) (fun _ ih=>eqStep ih) n
noncomputable def mayAt(ms:T Nat)(rcs:List Rc)(i p:Nat):Bool:=
 !waitsM ms p i&&rcs.all fun x=>bif Nat.ble 2 (kindO x.o.op)then !(waitsM ms i x.i&&Nat.blt x.i p) && !(Nat.beq (kindO x.o.op) 2&&waitsM ms x.i i&&Nat.ble p x.i)else true
noncomputable def sameAt(tt:T TI)(eq:EqT)(call:Call')(rc:Rc)(H:T Blk)(nx:Nat):Bool:=
 match opF rc.o.op tt eq call ⟨rc.e,H,nx⟩ with
 |.val v _ _=>eqCV 1000 v rc.v
 |_=>false
noncomputable def readOk(tt:T TI)(eq:EqT)(call:Call')(ms:T Nat)(rcs:List Rc)(sN:S)(n:Nat)(rc:Rc):Bool:=
 bif Nat.beq (kindO rc.o.op) 1&&rc.on then
  (rcs.all fun x=>bif Nat.ble 2 (kindO x.o.op)&&mayAt ms rcs rc.i x.i then sameAt tt eq call rc x.H x.nx else true)&&(bif mayAt ms rcs rc.i n then sameAt tt eq call rc sN.H sN.nx else true)
 else true
def isSt(o:Oper):Bool:=match o.op,o.guard,o.dst with
 |.store _ _ _,none,none=>true
 |_,_,_=>false
noncomputable def tailAt(l:List Oper):Nat→Nat→Nat:=
 List.rec (motive:=fun _=>Nat→Nat→Nat) (fun _ m=>m) (fun o _ ih i m=>bif isSt o then ih (Nat.succ i) m else ih (Nat.succ i) (Nat.succ i)) l
noncomputable def tgt(rc:Rc):Option Nat:=match rc.o.op with
 |.store _ a _=>match evO rc.e a with
  |some (.ptr r _)=>some r
  |_=>none
 |_=>none
noncomputable def tailOk(ms:T Nat)(rcs:List Rc)(m:Nat):Bool:=
 rcs.all fun x=>bif Nat.ble m x.i then isSt x.o&&rcs.all fun y=>bif Nat.blt y.i m then Nat.beq (kindO y.o.op) 0||waitsM ms y.i x.i else Nat.beq y.i x.i||(match tgt x,tgt y with|some a,some b=>!Nat.beq a b|_,_=>false)else true
noncomputable def drawC(tt:T TI)(eq:EqT)(call:Call')(N:Nat)(ops:List Oper)(s:S):Option S:=
 bif orderOk ops (lenR ops) then
  match stepsT tt eq call N ops s.nx ops 0 ⟨s.env,s.H,Nat.add s.nx (lenR ops)⟩ with
  |some (rcs,sN)=>bif rcs.all (readOk tt eq call (masksT ops 0 .e) rcs sN (lenR ops))then some sN else none
  |none=>none
 else bif orderOk ops (tailAt ops 0 0) then
  match stepsT tt eq call N ops s.nx ops 0 ⟨s.env,s.H,Nat.add s.nx (lenR ops)⟩ with
  |some (rcs,sN)=>bif rcs.all (readOk tt eq call (masksT ops 0 .e) rcs sN (lenR ops))&&tailOk (masksT ops 0 .e) rcs (tailAt ops 0 0)then some sN else none
  |none=>none
 else none
end Go.Ab.Cm
namespace Go.Ab.Cm
def MS(listed:Array Bool)(ms:T Nat):Prop:=∀j m i,ms.at' j=some m→Nat.testBit m i=true→listed.getD j false=true→listed.getD i false=true
theorem maskE_spec{ms:T Nat}:∀{es:List Edge} {k:Nat},Nat.testBit (maskE ms es) k=true→∃e,e∈es∧Region.binds .any e=true∧(k=e.on∨∃m,ms.at' e.on=some m∧Nat.testBit m k=true)
 |[],k,h=>by simp [maskE]at h
 |e::es,k,h=>by
  have h0:maskE ms (e::es)=bif Region.binds .any e then Nat.lor (Nat.lor (Nat.shiftLeft 1 e.on) (match ms.at' e.on with|some x=>x|none=>0)) (maskE ms es)else maskE ms es:=rfl
  rw [h0,Bool.cond_eq_ite]at h
  have tail:Nat.testBit (maskE ms es) k=true→∃e',e'∈e::es∧Region.binds .any e'=true∧(k=e'.on∨∃m,ms.at' e'.on=some m∧Nat.testBit m k=true):=fun h=>by
   obtain⟨e',h1,h2⟩:=maskE_spec h
   exact⟨e',List.mem_cons_of_mem _ h1,h2⟩
  split at h
  ·rename_i hb
   have h:Nat.testBit (((1 <<< e.on) |||(match ms.at' e.on with|some x=>x|none=>0)) |||maskE ms es) k=true:=h
   rw [Nat.testBit_or,Nat.testBit_or,Bool.or_eq_true,Bool.or_eq_true]at h
   rcases h with(h|h)|h
   ·refine⟨e,by simp,hb,.inl ?_⟩
    rw [Nat.one_shiftLeft,Nat.testBit_two_pow]at h
    exact(of_decide_eq_true h).symm
   ·refine⟨e,by simp,hb,.inr ?_⟩
    split at h
    ·rename_i x hx;exact⟨x,hx,h⟩
    ·simp at h
   ·exact tail h
  ·exact tail h
theorem masksT_spec{opsA:Array Oper}{listed:Array Bool}(hc:ClosedL opsA listed):∀(l:List Oper) (i:Nat) (ms:T Nat),(∀j,l[j]? = opsA[i+j]?)→MS listed ms→MS listed (masksT l i ms)
 |[],i,ms,_,h=>h
 |o::l,i,ms,hl,h=>by
  have e0:masksT (o::l) i ms=masksT l (i+1) (ms.put i (some (maskE ms o.after.toList))):=rfl
  rw [e0]
  refine masksT_spec hc l (i+1) _ (fun j=>by have:=hl (j+1);simpa [Nat.add_assoc,Nat.add_comm 1 j]using this) ?_
  intro j m k hj hk hlj
  rw [T.at_put]at hj
  by_cases hij:i=j
  ·rw [if_pos hij]at hj
   cases hj
   subst hij
   have ho:opsA[i]? = some o:=by have:=hl 0;simpa using this.symm
   obtain⟨e,he,hb,hx⟩:=maskE_spec hk
   have h1:=hc i o ho hlj e (by simpa using he) hb
   rcases hx with rfl|⟨m,hm,hbit⟩
   ·exact h1
   ·exact h e.on m k hm hbit h1
  ·rw [if_neg hij]at hj
   exact h j m k hj hk hlj
theorem waitsM_closed{opsA:Array Oper}{listed:Array Bool}(hc:ClosedL opsA listed){i j:Nat}(h:waitsM (masksT opsA.toList 0 .e) i j=true)(hj:listed.getD j false=true):listed.getD i false=true:=by
 unfold waitsM at h
 split at h
 ·rename_i m hm
  exact masksT_spec hc opsA.toList 0 .e (fun j=>by simp) (fun j m i hj=>by rw [T.at_e]at hj;cases hj) j m i hm h hj
 ·cases h
theorem rowOk_spec{ms:T Nat}{ops:List Oper}{m i:Nat}{o:Oper}:∀{l:List Oper} {n:Nat},rowOk ms ops m i o l n=true→∀(j:Nat) o',l[j]? = some o'→pairOk ms ops m i o (n+j) o'=true
 |[],n,_,j,o',hj=>by simp at hj
 |a::l,n,h,j,o',hj=>by
  have h0:rowOk ms ops m i o (a::l) n=Bool.rec (motive:=fun _=>Bool) false (rowOk ms ops m i o l (n+1)) (pairOk ms ops m i o n a):=rfl
  rw [h0]at h
  cases hp:pairOk ms ops m i o n a with
  |false=>rw [hp]at h;cases h
  |true=>
   rw [hp]at h
   cases j with
   |zero=>simp at hj;subst hj;exact hp
   |succ j=>
    have:=rowOk_spec (n:=n+1) h j o' (by simpa using hj)
    rwa [show n+1+j=n+(j+1)by omega]at this
theorem pairsOk_spec{ms:T Nat}{ops:List Oper}{m:Nat}:∀{l:List Oper} {n:Nat},pairsOk ms ops m l n=true→
    (∀(i j:Nat) o o',i<j→l[i]? = some o→l[j]? = some o'→pairOk ms ops m (n+i) o (n+j) o'=true)∧∀(i:Nat) o,l[i]? = some o→∀e,e∈o.after→Region.binds .any e=true→e.on<n+i
  |[],n,_=>⟨fun i j o o' _ h=>by simp at h,fun i o h=>by simp at h⟩
  |a::l,n,h=>by
    have h0:pairsOk ms ops m (a::l) n=Bool.rec (motive:=fun _=>Bool) false (pairsOk ms ops m l (n+1)) (rowOk ms ops m n a l (n+1)&&a.after.toList.all fun e=>!Region.binds .any e||Nat.blt e.on n):=rfl
    rw [h0]at h
    cases hp:(rowOk ms ops m n a l (n+1)&&a.after.toList.all fun e=>!Region.binds .any e||Nat.blt e.on n) with
    |false=>rw [hp]at h;cases h
    |true=>
      rw [hp]at h
      rw [Bool.and_eq_true]at hp
      obtain⟨g1,g2⟩:=pairsOk_spec (n:=n+1) h
      refine⟨fun i j o o' hij hi hj=>?_,fun i o hi e he hb=>?_⟩
      · obtain⟨j,rfl⟩:∃k,j=k+1:=⟨j-1,by omega⟩
        cases i with
        |zero=>
          simp at hi hj;subst hi
          have:=rowOk_spec hp.1 j o' hj
          rwa [show n+1+j=n+(j+1)by omega]at this
        |succ i=>
          have:=g1 i j o o' (by omega) (by simpa using hi) (by simpa using hj)
          rwa [show n+1+i=n+(i+1)by omega,show n+1+j=n+(j+1)by omega]at this
      · cases i with
        |zero=>
          simp at hi;subst hi
          have:=List.all_eq_true.1 hp.2 e (by simpa using he)
          simp only [hb,Bool.not_true,Bool.false_or,Nat.blt_eq]at this
          omega
        |succ i=>
          have:=g2 i o (by simpa using hi) e he hb
          omega
structure Ords(opsA:Array Oper)(m:Nat):Prop where
 back:∀(i:Nat) o,opsA[i]? = some o→∀e,e∈o.after→Region.binds .any e=true→e.on<i
 dst:∀(i j:Nat) o o' t,i<j→opsA[i]? = some o→opsA[j]? = some o'→o.dst=some t→o'.dst=some t→waitsM (masksT opsA.toList 0 .e) i j=true
 use:∀(i j:Nat) o o' t,i<j→opsA[i]? = some o→opsA[j]? = some o'→o.dst=some t→t∈opSlots opsA.toList o'→waitsM (masksT opsA.toList 0 .e) i j=true
 keep:∀(i j:Nat) o o' t,i<j→opsA[i]? = some o→opsA[j]? = some o'→o'.dst=some t→t∈opSlots opsA.toList o→waitsM (masksT opsA.toList 0 .e) i j=true
 wr:∀(i j:Nat) o o',i<j→i<m→opsA[i]? = some o→opsA[j]? = some o'→2≤kindO o.op→kindO o'.op=2→waitsM (masksT opsA.toList 0 .e) i j=true
theorem orderOk_spec{opsA:Array Oper}{m:Nat}(h:orderOk opsA.toList m=true):Ords opsA m:=by
 obtain⟨g1,g2⟩:=pairsOk_spec h
 have pr:∀(i j:Nat) o o',i<j→opsA[i]? = some o→opsA[j]? = some o'→(sameO o.dst o'.dst||hitsD opsA.toList o.dst o'||hitsD opsA.toList o'.dst o ||
  (Nat.ble 2 (kindO o.op)&&(Nat.beq (kindO o'.op) 2&&Nat.blt i m)))=true→waitsM (masksT opsA.toList 0 .e) i j=true:=fun i j o o' hij hi hj hx=>by
  have:=g1 i j o o' hij (by simpa using hi) (by simpa using hj)
  rw [Nat.zero_add,Nat.zero_add]at this
  unfold pairOk at this
  rw [hx]at this
  simpa using this
 refine⟨fun i o hi e he hb=>by have:=g2 i o (by simpa using hi) e he hb;omega,fun i j o o' t hij hi hj h1 h2=>pr i j o o' hij hi hj ?_,fun i j o o' t hij hi hj h1 h2=>pr i j o o' hij hi hj ?_,
  fun i j o o' t hij hi hj h1 h2=>pr i j o o' hij hi hj ?_,fun i j o o' hij him hi hj h1 h2=>pr i j o o' hij hi hj ?_⟩
 ·simp [sameO,h1,h2]
 ·have:(opSlots opsA.toList o').any (Nat.beq t)=true:=List.any_eq_true.2 ⟨t,h2,by simp⟩
  simp only [hitsD,h1,h2,this,Bool.or_true,Bool.true_or]
 ·have:(opSlots opsA.toList o).any (Nat.beq t)=true:=List.any_eq_true.2 ⟨t,h2,by simp⟩
  simp only [hitsD,h1,h2,this,Bool.or_true,Bool.true_or]
 ·simp [h1,h2,him]
end Go.Ab.Cm
namespace Go.Ab.Cm
section
variable {P:Program} {K:Ctx} {N:Nat} {β:Nat→Option BI} {s:S} {tmps:Array Value} {w:World} {o:Oper} {tt:TT} {eq:EqT} {call:Call'}
theorem any_k0{tt:T TI}{op:Op}(hk:kindO op=0):∃f:T CV→Option CV,∀s,opAny tt eq call s op=pv s (f s.env):=by
 cases op with
 |move x=>exact⟨fun env=>evO env x,fun s=>rfl⟩
 |assign x=>exact⟨fun env=>evO env x,fun s=>rfl⟩
 |pick c a b=>exact⟨fun env=>opPick env c a b,fun s=>rfl⟩
 |nilCheck x=>exact⟨fun env=>opNilC env x,fun s=>rfl⟩
 |binOp op t x y t2=>exact⟨fun env=>orE (opEq eq env op t x y) (opBin tt env op t x y),fun s=>rfl⟩
 |unOp op t x=>exact⟨fun env=>opUn env op x,fun s=>rfl⟩
 |makeInterface t x=>exact⟨fun env=>opIface tt env t x,fun s=>rfl⟩
 |makeFunc fn first caps=>exact⟨fun env=>opFunc env fn first caps,fun s=>rfl⟩
 |fieldAddr t x f=>exact⟨fun env=>opFieldAddr tt env t x f,fun s=>rfl⟩
 |field t x f=>exact⟨fun env=>opField tt env t x f,fun s=>rfl⟩
 |indexAddr t x i=>exact⟨fun env=>opIndexAddr tt env t x i,fun s=>rfl⟩
 |index t x i=>exact⟨fun env=>orE (opIndex tt env t x i) (opIndexA tt env t x i),fun s=>rfl⟩
 |extract x i=>exact⟨fun env=>opExt env x i,fun s=>rfl⟩
 |build t parts=>exact⟨fun env=>orE (opBuild tt env t parts) (opBuildA tt env t parts),fun s=>rfl⟩
 |call c=>
  obtain⟨callee,args,tys⟩:=c
  cases callee with
  |builtin b=>
   cases b with
   |min=>exact⟨fun env=>opMM env false args,fun s=>rfl⟩
   |cap=>exact⟨fun env=>opCap tt env args tys,fun s=>rfl⟩
   |max=>exact⟨fun env=>opMM env true args,fun s=>rfl⟩
   |_=>simp [kindO]at hk
  |_=>simp [kindO]at hk
 |_=>simp [kindO]at hk
theorem any_k1{tt:T TI}{op:Op}(hk:kindO op=1)(s:S):∃v,opAny tt eq call s op=pv s v:=by
 cases op<;>first|(exact⟨_,rfl⟩)|(simp [kindO]at hk;done)|skip
 rename_i c
 obtain⟨callee,args,tys⟩:=c
 cases callee with
 |builtin b=>cases b<;>first |(exact⟨_,rfl⟩) |(simp [kindO]at hk;done)
 |_=>simp [kindO]at hk
def Out(s:S)(r:OR)(v:CV)(H:T Blk)(nx:Nat):Prop:=r = .val v H nx∨(r = .skp H∧v = .und∧nx=s.nx)
theorem any_wp{ρ:Option Nat}{ds:List Deferred}(htt:TTok P tt=true)(heq:EqOk P tt eq)(hcall:CallOk P call)(h:SimC P K N β s tmps w){v:CV}{H:T Blk}{nx:Nat}(ho:Out s (opAny (mkT tt) eq call s o.op) v H nx)
    {Q:Exit→Act→World→Prop} {next:Act→World→Prop} (hn:∀u w' β',Ext s.nx nx β β'→SimC P K N β' ⟨s.env,H,nx⟩ tmps w'→CR β' u v→next ((⟨tmps,ds⟩:Act).put o.dst u) w'):o.wpIn (FW ρ) 0 P ⟨tmps,ds⟩ w next Q:=by
  have hd:=any_cases (P:=P) (o:=o) htt heq hcall h
  have hnd:∀c,o.op ≠ .defer c:=not_defer (tt:=mkT tt) (eq:=eq) (call:=call) (s:=s) (by rcases ho with ho|⟨ho,_⟩<;>rw [ho]<;>simp)
  generalize hr:opAny (mkT tt) eq call s o.op=r at ho
  rcases ho with rfl|⟨rfl,rfl,rfl⟩
  · rcases hd _ hr with⟨u,w',β',h1,h2,h3,h4⟩|⟨fn,vs,v',H',nx',he,h1,h2⟩|⟨l,f,tm,as,bo,v',H',nx',he,h1,h2,_⟩
    · exact wpv hnd h1 (hn _ _ _ h2 h3 h4)
    · cases he
      exact wpe hnd h1 h2 fun u w' ⟨β',k2,k3,k4⟩=>hn _ _ _ k2 k3 k4
    · cases he
      exact wpr hnd h1 h2 fun u w' ⟨β',k2,k3,k4⟩=>hn _ _ _ k2 k3 k4
  · rcases hd _ hr with⟨w',h1,h2⟩|⟨fn,vs,v',H',nx',he,_⟩|⟨l,f,tm,as,bo,v',H',nx',he,_⟩
    · exact wps hnd h1 (hn _ _ _ (.refl _ _) h2 .und)
    · cases he
    · cases he
end
end Go.Ab.Cm
namespace Go.Ab.Cm
theorem renv_at(env:T CV):∀(ts:List Nat) (t:Nat) (c:CV),(renv env ts).at' t=some c→t∈ts∧env.at' t=some c
 |[],t,c,h=>by
  have h:(T.e:T CV).at' t=some c:=h
  rw [T.at_e]at h;cases h
 |x::ts,t,c,h=>by
  have h:((renv env ts).put x (env.at' x)).at' t=some c:=h
  rw [T.at_put]at h
  by_cases hx:x=t
  ·subst hx;rw [if_pos rfl]at h;exact⟨by simp,h⟩
  ·rw [if_neg hx]at h
   obtain⟨h1,h2⟩:=renv_at env ts t c h
   exact⟨List.mem_cons_of_mem _ h1,h2⟩
structure Stp(tt:T TI)(eq:EqT)(call:Call')(N:Nat)(ops:List Oper)(nx0 i:Nat)(s:S)(o:Oper)(rc:Rc)(s':S):Prop where
 ri:rc.i=i
 ro:rc.o=o
 re:rc.e=renv s.env (opSlots ops o)
 rH:rc.H=s.H
 rnx:rc.nx=s.nx
 want:wantC ops rc.e o.guard=some rc.on
 env:∀t,s'.env.at' t=if o.dst=some t then some rc.v else s.env.at' t
 lt:∀t,o.dst=some t→t<N
 on:rc.on=true→Out ⟨rc.e,s.H,s.nx⟩ (opR tt eq call (Nat.add nx0 i) ⟨rc.e,s.H,s.nx⟩ o.op) rc.v s'.H s'.nx
 off:rc.on=false→rc.v = .und∧s'.H=s.H∧s'.nx=s.nx
theorem setD_spec{N:Nat}{d:Option Nat}{v:CV}{s s':S}(h:setD N d v s=some s'):s'.H=s.H∧s'.nx=s.nx∧(∀t,s'.env.at' t=if d=some t then some v else s.env.at' t)∧∀t,d=some t→t<N:=by
 unfold setD at h
 split at h
 ·rename_i d
  rw [Bool.cond_eq_ite]at h
  split at h<;>cases h
  rename_i hd
  refine⟨rfl,rfl,fun t=>?_,fun t ht=>?_⟩
  ·rw [T.at_put]
   by_cases hdt:d=t
   ·rw [if_pos hdt,if_pos (by rw [hdt])]
   ·rw [if_neg hdt,if_neg (by simpa using hdt)]
  ·cases ht;simpa using hd
 ·cases h
  exact⟨rfl,rfl,fun t=>by simp,fun t ht=>by cases ht⟩
theorem stepT_spec{tt:T TI}{eq:EqT}{call:Call'}{N:Nat}{ops:List Oper}{nx0 i:Nat}{s:S}{o:Oper}{rc:Rc}{s':S}(h:stepT tt eq call N ops nx0 i s o=some (rc,s')):Stp tt eq call N ops nx0 i s o rc s':=by
 unfold stepT at h
 dsimp only at h
 split at h
 ·rename_i hw
  split at h
  ·rename_i v H nx hr
   rw [Option.map_eq_some_iff]at h
   obtain⟨s1,hs,he⟩:=h
   cases he
   obtain⟨g1,g2,g3,g4⟩:=setD_spec hs
   exact⟨rfl,rfl,rfl,rfl,rfl,hw,g3,g4,fun _=>.inl (by rw [g1,g2];exact hr),fun hh=>by cases hh⟩
  ·rename_i H hr
   rw [Option.map_eq_some_iff]at h
   obtain⟨s1,hs,he⟩:=h
   cases he
   obtain⟨g1,g2,g3,g4⟩:=setD_spec hs
   exact⟨rfl,rfl,rfl,rfl,rfl,hw,g3,g4,fun _=>.inr ⟨by rw [g1];exact hr,rfl,g2⟩,fun hh=>by cases hh⟩
  ·cases h
 ·rename_i hw
  rw [Option.map_eq_some_iff]at h
  obtain⟨s1,hs,he⟩:=h
  cases he
  obtain⟨g1,g2,g3,g4⟩:=setD_spec hs
  exact⟨rfl,rfl,rfl,rfl,rfl,hw,g3,g4,fun hh=>(by cases hh),fun _=>⟨rfl,g1,g2⟩⟩
 ·cases h
theorem stepsT_spec{tt:T TI}{eq:EqT}{call:Call'}{N:Nat}{ops:List Oper}{nx0:Nat}:∀(l:List Oper) (k:Nat) (s:S) (rcs:List Rc) (sN:S),stepsT tt eq call N ops nx0 l k s=some (rcs,sN)→
    ∃sts:Nat→S,sts 0=s∧sts l.length=sN∧rcs.length=l.length∧∀(i:Nat) o,l[i]? = some o→∃rc,rcs[i]? = some rc∧Stp tt eq call N ops nx0 (k+i) (sts i) o rc (sts (i+1))
  |[],k,s,rcs,sN,h=>by
    have h:some (([]:List Rc),s)=some (rcs,sN):=h
    cases h
    exact⟨fun _=>s,rfl,rfl,rfl,fun i o h=>by simp at h⟩
  |o::l,k,s,rcs,sN,h=>by
    have h:Option.rec (motive:=fun _=>Option (List Rc×S)) none (fun x=>Option.rec (motive:=fun _=>Option (List Rc×S)) none (fun y=>some (x.1::y.1,y.2)) (stepsT tt eq call N ops nx0 l (k+1) x.2)) (stepT tt eq call N ops nx0 k s o)=some (rcs,sN):=h
    cases h1:stepT tt eq call N ops nx0 k s o with
    |none=>rw [h1]at h;cases h
    |some x=>
      rw [h1]at h
      obtain⟨rc,s1⟩:=x
      dsimp only at h
      cases h2:stepsT tt eq call N ops nx0 l (k+1) s1 with
      |none=>rw [h2]at h;cases h
      |some y=>
        rw [h2]at h
        obtain⟨rcs1,sN1⟩:=y
        cases h
        obtain⟨sts,g1,g2,g3,g4⟩:=stepsT_spec l (k+1) s1 _ _ h2
        refine⟨fun i=>match i with | 0=>s|i+1=>sts i,rfl,g2,by simp [g3],fun i o' hi=>?_⟩
        cases i with
        |zero=>
          simp at hi;subst hi
          refine⟨rc,rfl,?_⟩
          show Stp tt eq call N ops nx0 (k+0) s o rc (sts 0)
          rw [g1];exact stepT_spec h1
        |succ i=>
          obtain⟨rc',h3,h4⟩:=g4 i o' (by simpa using hi)
          refine⟨rc',by simpa using h3,?_⟩
          rw [show k+(i+1)=k+1+i by omega]
          exact h4
end Go.Ab.Cm
namespace Go.Ab.Cm
structure TR(tt:T TI)(eq:EqT)(call:Call')(N:Nat)(opsA:Array Oper)(m nx0:Nat)(sts:Nat→S)(rcs:List Rc):Prop where
 stp:∀(i:Nat) o,opsA[i]? = some o→∃rc,rcs[i]? = some rc∧Stp tt eq call N opsA.toList nx0 i (sts i) o rc (sts (i+1))
 ord:Ords opsA m
def Sl(β:Nat→Option BI)(opsA:Array Oper)(sts:Nat→S)(listed:Array Bool)(tmps:Array Value):Prop:=
 ∀t c q,q≤opsA.size→(sts q).env.at' t=some c→(∀(j:Nat) o,opsA[j]? = some o→o.dst=some t→(j<q↔listed.getD j false=true))→CR β (tmps.getD t undef) c
section
variable {tt:T TI} {eq:EqT} {call:Call'} {N:Nat} {opsA:Array Oper} {m nx0:Nat} {sts:Nat→S} {rcs:List Rc} {β β':Nat→Option BI} {listed:Array Bool} {tmps:Array Value}
theorem TR.same(h:TR tt eq call N opsA m nx0 sts rcs){t a:Nat}:∀(d:Nat),a+d≤opsA.size→(∀(j:Nat) o,a≤j→j<a+d→opsA[j]? = some o→o.dst≠some t)→(sts (a+d)).env.at' t=(sts a).env.at' t
 | 0,_,_=>rfl
 |d+1,hle,hn=>by
  have ho:opsA[a+d]? = some opsA[a+d]:=Array.getElem?_eq_getElem (by omega)
  obtain⟨rc,_,hs⟩:=h.stp _ _ ho
  have:=hs.env t
  rw [if_neg (hn _ _ (by omega) (by omega) ho)]at this
  rw [show a+(d+1)=a+d+1 by omega,this]
  exact h.same d (by omega) fun j o h1 h2=>hn j o h1 (by omega)
theorem unlisted_of_ready{i:Nat}(hr:i∈Region.ready .any opsA listed):listed.getD i false=false∧i<listed.size:=by
 have h0:=(mem_ready.1 hr).1
 rcases Nat.lt_or_ge i listed.size with h'|h'
 ·exact⟨by simpa [Array.getD_eq_getD_getElem?,h']using h0,h'⟩
 ·simp [Array.getD_eq_getD_getElem?,Array.getElem?_eq_none h']at h0
theorem TR.waits(_h:TR tt eq call N opsA m nx0 sts rcs)(hc:ClosedL opsA listed){i j:Nat}(hw:waitsM (masksT opsA.toList 0 .e) i j=true)(hj:listed.getD j false=true):listed.getD i false=true:=waitsM_closed hc hw hj
theorem TR.done(h:TR tt eq call N opsA m nx0 sts rcs)(hc:ClosedL opsA listed){i:Nat}(hr:i∈Region.ready .any opsA listed){j:Nat}(hw:waitsM (masksT opsA.toList 0 .e) j i=true)(hji:j≠i):listed.getD j false=true:=by
 have:=waitsM_closed (hc.set hr) hw (by rw [Array.getD_eq_getD_getElem?];simp [(unlisted_of_ready hr).2])
 rwa [getD_set_ne false (Ne.symm hji)]at this
theorem Sl.use(hS:Sl β opsA sts listed tmps)(h:TR tt eq call N opsA m nx0 sts rcs)(hc:ClosedL opsA listed){i:Nat}{o:Oper}(hi:opsA[i]? = some o)(hr:i∈Region.ready .any opsA listed){t:Nat}{c:CV}(ht:(renv (sts i).env (opSlots opsA.toList o)).at' t=some c):CR β (tmps.getD t undef) c:=by
 obtain⟨h1,h2⟩:=renv_at _ _ _ _ ht
 have hun:=(unlisted_of_ready hr).1
 have hlt:i<opsA.size:=(Array.getElem?_eq_some_iff.1 hi).1
 refine hS t c i (by omega) h2 fun j oj hj hd=>⟨fun hji=>?_,fun hl=>?_⟩
 ·exact h.done hc hr (h.ord.use j i oj o t hji hj hi hd h1) (by omega)
 ·rcases Nat.lt_trichotomy j i with hji|hji|hji
  ·exact hji
  ·subst hji;rw [hun]at hl;cases hl
  ·have:=h.waits hc (h.ord.keep i j o oj t hji hi hj hd h1) hl
   rw [hun]at this;cases this
theorem Sl.step(hS:Sl β opsA sts listed tmps)(h:TR tt eq call N opsA m nx0 sts rcs)(hc:ClosedL opsA listed){i:Nat}{o:Oper}(hi:opsA[i]? = some o)(hr:i∈Region.ready .any opsA listed)(hm:∀r bi,β r=some bi→β' r=some bi)
    {rc:Rc} {s':S} (hst:Stp tt eq call N opsA.toList nx0 i (sts i) o rc s') (hs':s'=sts (i+1)) (hsz:tmps.size=N) {u:Value} (hu:CR β' u rc.v):Sl β' opsA sts (listed.setIfInBounds i true) ((⟨tmps,[]⟩:Act).put o.dst u).tmps:=by
  intro t c q hq hat hw
  obtain⟨hun,hsize⟩:=unlisted_of_ready hr
  have hself:(listed.setIfInBounds i true).getD i false=true:=by rw [Array.getD_eq_getD_getElem?];simp [hsize]
  by_cases hd:o.dst=some t
  · have hiq:i<q:=(hw i o hi hd).2 hself
    have hsame:(sts q).env.at' t=(sts (i+1)).env.at' t:=by
      have:=h.same (t:=t) (a:=i+1) (q-(i+1)) (by omega) fun j oj h1 h2 hj hdj=>by
        have hl:=(hw j oj hj hdj).1 (by omega)
        rw [getD_set_ne false (by omega)]at hl
        have:=h.waits hc (h.ord.dst i j o oj t (by omega) hi hj hd hdj) hl
        rw [hun]at this;cases this
      rwa [show i+1+(q-(i+1))=q by omega]at this
    have hv:(sts (i+1)).env.at' t=some rc.v:=by rw [←hs',hst.env t,if_pos hd]
    rw [hsame,hv]at hat
    cases hat
    have htN:=hst.lt t hd
    have:((⟨tmps,[]⟩:Act).put o.dst u).tmps.getD t undef=u:=by
      rw [hd]
      simp [Act.put,hsz,htN]
    rw [this];exact hu
  · have:((⟨tmps,[]⟩:Act).put o.dst u).tmps.getD t undef=tmps.getD t undef:=by
      cases hdd:o.dst with
      |none=>rfl
      |some d=>
        have hne:d≠t:=fun e=>hd (by rw [hdd,e])
        simp only [Act.put]
        rw [Array.getD_eq_getD_getElem?,Array.getElem?_setIfInBounds_ne hne,←Array.getD_eq_getD_getElem?]
    rw [this]
    refine(hS t c q hq hat fun j oj hj hdj=>?_).mono hm
    have hji:i≠j:=by rintro rfl;rw [hi]at hj;cases hj;exact hd hdj
    have:=hw j oj hj hdj
    rwa [getD_set_ne false hji]at this
end
end Go.Ab.Cm
namespace Go.Ab.Cm
theorem opR_ne{tt:T TI}{eq:EqT}{call:Call'}{r:Nat}{s:S}{op:Op}(h:kindO op≠3):opR tt eq call r s op=opAny tt eq call s op:=by
 unfold opR
 rw [opF_eq]
 rw [Bool.cond_eq_ite,if_neg (by simpa using h)]
theorem kind_le(op:Op):kindO op≤3:=by
 cases op<;>simp [kindO]
 rename_i c
 obtain⟨callee,args,tys⟩:=c
 cases callee with
 |builtin b=>cases b<;>simp
 |_=>simp
structure EarlyRow(tt:T TI)(K:Ctx)(β:Nat→Option BI)(H:T Blk)(w:World)(r:Nat)(env:T CV)(op:Op)(bi:BI):Prop where
 b:β r=some bi
 fr:K.F bi.b=none
 cells:∃n vs,newOf tt env op=some n∧w.heap[bi.b]? = some (.cells ⟨vs⟩ n.t (0,0))∧vs.length=bi.L∧vs.length=n.n∧(∀v,v∈vs→v.oneCell'=true)∧∀i c,n.cs.at' i=some c→i<n.n∧∃u,vs[i]? = some u∧CR β u c
 apart:∀q x b',H.at' q=some x→β q=some b'→b'.b≠bi.b
structure HInv(P:Program)(tt:T TI)(K:Ctx)(opsA:Array Oper)(nx0:Nat)(sts:Nat→S)(rcs:List Rc)(β0 β:Nat→Option BI)(listed:Array Bool)(p:Nat)(w:World):Prop where
 ple:p≤opsA.size
 sim:SimC P K 0 β ⟨.e,(sts p).H,(sts p).nx⟩ #[] w
 lst:∀(j:Nat) o,opsA[j]? = some o→j<p→2≤kindO o.op→listed.getD j false=true
 bef:∀(j:Nat) o,opsA[j]? = some o→kindO o.op=2→listed.getD j false=true→j<p
 res:∀(j:Nat) o,opsA[j]? = some o→kindO o.op=3→listed.getD j false=false→β (nx0+j)=none
 nxl:nx0+opsA.size≤(sts p).nx
 ext:Ext nx0 (sts p).nx β0 β
 early:∀(j:Nat) o rc,opsA[j]? = some o→rcs[j]? = some rc→kindO o.op=3→listed.getD j false=true→p≤j→rc.on=true→∃bi,EarlyRow tt K β (sts p).H w (nx0+j) rc.e o.op bi
 dist:∀(j j':Nat) o o' rc rc' bi bi',opsA[j]? = some o→opsA[j']? = some o'→rcs[j]? = some rc→rcs[j']? = some rc'→kindO o.op=3→kindO o'.op=3→listed.getD j false=true→listed.getD j' false=true→p≤j→p≤j'→rc.on=true→rc'.on=true→
  β (nx0+j)=some bi→β (nx0+j')=some bi'→bi.b=bi'.b→j=j'
section
variable {P:Program} {tt:T TI} {eq:EqT} {call:Call'} {N:Nat} {opsA:Array Oper} {m nx0:Nat} {sts:Nat→S} {rcs:List Rc} {β0 β β':Nat→Option BI} {listed:Array Bool} {tmps:Array Value} {K:Ctx} {p:Nat} {w:World}
theorem TR.still(h:TR tt eq call N opsA m nx0 sts rcs){i:Nat}{o:Oper}(hi:opsA[i]? = some o)(hk:kindO o.op<2):(sts (i+1)).H=(sts i).H∧(sts (i+1)).nx=(sts i).nx:=by
 obtain⟨rc,_,hs⟩:=h.stp i o hi
 cases hon:rc.on with
 |false=>exact(hs.off hon).2
 |true=>
  have h1:=hs.on hon
  rw [opR_ne (by omega)]at h1
  have h2:∃v,opAny tt eq call ⟨rc.e,(sts i).H,(sts i).nx⟩ o.op=pv ⟨rc.e,(sts i).H,(sts i).nx⟩ v:=by
   rcases Nat.lt_or_ge (kindO o.op) 1 with h0|h0
   ·obtain⟨f,hf⟩:=any_k0 (tt:=tt) (eq:=eq) (call:=call) (op:=o.op) (by omega)
    exact⟨_,hf _⟩
   ·exact any_k1 (by omega) _
  obtain⟨v,hv⟩:=h2
  rw [hv]at h1
  cases v with
  |none=>rcases h1 with h1 |⟨h1,_⟩<;>cases h1
  |some v=>
   rcases h1 with h1|⟨h1,_⟩
   ·have h1:OR.val v (sts i).H (sts i).nx=OR.val rc.v (sts (i+1)).H (sts (i+1)).nx:=h1
    injection h1 with a b c
    exact⟨b.symm,c.symm⟩
   ·cases h1
theorem TR.alloc(h:TR tt eq call N opsA m nx0 sts rcs){i:Nat}{o:Oper}(hi:opsA[i]? = some o)(hk:kindO o.op=3){rc:Rc}(hrc:rcs[i]? = some rc)(hon:rc.on=true):
    ∃n,newOf tt rc.e o.op=some n∧rc.v=n.v (nx0+i)∧(sts (i+1)).H=(sts i).H.put (nx0+i) (some n.row)∧(sts (i+1)).nx=(sts i).nx:=by
  obtain⟨rc',h1,hs⟩:=h.stp i o hi
  rw [hrc]at h1;cases h1
  have h2:=hs.on hon
  unfold opR at h2
  simp only [opF_eq]at h2
  rw [Bool.cond_eq_ite,if_pos (by simpa using hk)]at h2
  cases hz:newOf tt rc.e o.op with
  |none=>simp only [hz]at h2;rcases h2 with h2 |⟨h2,_⟩<;>cases h2
  |some n=>
    simp only [hz]at h2
    rcases h2 with h2|⟨h2,_⟩
    · have h2:OR.val (n.v (nx0+i)) ((sts i).H.put (nx0+i) (some n.row)) (sts i).nx=OR.val rc.v (sts (i+1)).H (sts (i+1)).nx:=h2
      injection h2 with a b c
      exact⟨n,rfl,a.symm,b.symm,c.symm⟩
    · cases h2
end
end Go.Ab.Cm
namespace Go.Ab.Cm
section
variable {P:Program} {tt:T TI} {eq:EqT} {call:Call'} {N:Nat} {opsA:Array Oper} {m nx0:Nat} {sts:Nat→S} {rcs:List Rc} {β0 β β':Nat→Option BI} {listed:Array Bool} {tmps:Array Value} {K:Ctx} {p:Nat} {w:World}
theorem HInv.same(hv:HInv P tt K opsA nx0 sts rcs β0 β listed p w){o:Oper}(hp:opsA[p]? = some o)(hk:2≤kindO o.op→listed.getD p false=true)(hH:(sts (p+1)).H=(sts p).H)(hn:(sts (p+1)).nx=(sts p).nx):HInv P tt K opsA nx0 sts rcs β0 β listed (p+1) w:=by
 have hlt:p<opsA.size:=(Array.getElem?_eq_some_iff.1 hp).1
 refine⟨hlt,by rw [hH,hn];exact hv.sim,fun j oj hj hjp hkj=>?_,fun j oj hj hkj hl=>Nat.lt_succ_of_lt (hv.bef j oj hj hkj hl),hv.res,by rw [hn];exact hv.nxl,by rw [hn];exact hv.ext,
  fun j oj rc hj hrc ho hl hpj hon=>by rw [hH];exact hv.early j oj rc hj hrc ho hl (by omega) hon,
  fun j j' oj oj' rc rc' bi bi' h1 h2 h3 h4 h5 h6 h7 h8 h9 h10=>hv.dist j j' oj oj' rc rc' bi bi' h1 h2 h3 h4 h5 h6 h7 h8 (by omega) (by omega)⟩
 by_cases hjp':j=p
 ·subst hjp';rw [hp]at hj;cases hj;exact hk hkj
 ·exact hv.lst j oj hj (by omega) hkj
theorem HInv.merge(hv:HInv P tt K opsA nx0 sts rcs β0 β listed p w)(h:TR tt eq call N opsA m nx0 sts rcs){o:Oper}(hp:opsA[p]? = some o)(hk:2≤kindO o.op→kindO o.op=3∧listed.getD p false=true):HInv P tt K opsA nx0 sts rcs β0 β listed (p+1) w:=by
 by_cases hk2:2≤kindO o.op
 case neg=>
  obtain⟨h1,h2⟩:=h.still hp (by omega)
  exact hv.same hp (fun hh=>absurd hh hk2) h1 h2
 obtain⟨hk3,hl⟩:=hk hk2
 obtain⟨rc,hrc,hs⟩:=h.stp p o hp
 cases hon:rc.on with
 |false=>exact hv.same hp (fun _=>hl) (hs.off hon).2.1 (hs.off hon).2.2
 |true=>
  obtain⟨nr,hz,hv1,hH,hn⟩:=h.alloc hp hk3 hrc hon
  obtain⟨bi,er⟩:=hv.early p o rc hp hrc hk3 hl (Nat.le_refl _) hon
  obtain⟨cs',vs,z1,z2,z3,z4,z5,z6⟩:=er.cells
  rw [hz]at z1;cases z1
  have hlt:p<opsA.size:=(Array.getElem?_eq_some_iff.1 hp).1
  have at':∀q,(sts (p+1)).H.at' q=if nx0+p=q then some nr.row else(sts p).H.at' q:=fun q=>by rw [hH,T.at_put]
  have hap:∀{q x b'},(sts (p+1)).H.at' q=some x→β q=some b'→(q=nx0+p∧b'=bi)∨(q≠nx0+p∧(sts p).H.at' q=some x∧b'.b≠bi.b):=by
   intro q x b' hq hb
   rw [at']at hq
   by_cases hqp:nx0+p=q
   ·subst hqp
    rw [er.b]at hb;cases hb
    exact .inl ⟨rfl,rfl⟩
   ·rw [if_neg hqp]at hq
    exact .inr ⟨Ne.symm hqp,hq,er.apart q x b' hq hb⟩
  refine⟨hlt,⟨rfl,fun t v ht=>(by rw [T.at_e]at ht;cases ht),fun q x hq=>?_,fun q q' x x' b1 b2 hq hq' hb1 hb2 he=>?_,?_,hv.sim.frame,hv.sim.oo,hv.sim.good⟩,fun j oj hj hjp hkj=>?_,fun j oj hj hkj hlj=>Nat.lt_succ_of_lt (hv.bef j oj hj hkj hlj),hv.res,by rw [hn];exact hv.nxl,by rw [hn];exact hv.ext,
   fun j oj rcj hj hrcj ho hlj hpj honj=>?_,
   fun j j' oj oj' rc rc' bi bi' h1 h2 h3 h4 h5 h6 h7 h8 h9 h10=>hv.dist j j' oj oj' rc rc' bi bi' h1 h2 h3 h4 h5 h6 h7 h8 (by omega) (by omega)⟩
  ·have hq:(sts (p+1)).H.at' q=some x:=hq
   rw [at']at hq
   by_cases hqp:nx0+p=q
   ·rw [if_pos hqp]at hq;cases hq;subst hqp
    exact⟨bi,er.b,er.fr,vs,nr.t,z2,z3,by omega,z5,z6,.inr (.inr ⟨rfl,by omega⟩)⟩
   ·rw [if_neg hqp]at hq
    exact hv.sim.blk q x hq
  ·rcases hap hq hb1 with⟨a1,a2⟩|⟨a1,a2,a3⟩<;>rcases hap hq' hb2 with⟨c1,c2⟩|⟨c1,c2,c3⟩
   ·omega
   ·subst a2;exact absurd he.symm c3
   ·subst c2;exact absurd he a3
   ·exact hv.sim.inj q q' x x' b1 b2 a2 c2 hb1 hb2 he
  ·intro r b hb;have:=hv.sim.lt r b hb;simpa [hn]using this
  ·by_cases hjp':j=p
   ·subst hjp';exact hl
   ·exact hv.lst j oj hj (by omega) hkj
  ·obtain⟨bj,ej⟩:=hv.early j oj rcj hj hrcj ho hlj (by omega) honj
   refine⟨bj,ej.b,ej.fr,ej.cells,fun q x b' hq hb=>?_⟩
   rcases hap hq hb with⟨a1,a2⟩|⟨a1,a2,a3⟩
   ·subst a2
    intro he
    have:=hv.dist p j o oj rc rcj b' bj hp hj hrc hrcj hk3 ho hl hlj (Nat.le_refl _) (by omega) hon honj er.b ej.b he
    omega
   ·exact ej.apart q x b' a2 hb
theorem HInv.norm(h:TR tt eq call N opsA m nx0 sts rcs):∀(d p:Nat),opsA.size=p+d→HInv P tt K opsA nx0 sts rcs β0 β listed p w→∃p',HInv P tt K opsA nx0 sts rcs β0 β listed p' w∧(p'=opsA.size∨∃o,opsA[p']? = some o∧2≤kindO o.op∧listed.getD p' false=false)
 | 0,p,hd,hv=>⟨p,hv,.inl (by omega)⟩
 |d+1,p,hd,hv=>by
  have ho:opsA[p]? = some opsA[p]:=Array.getElem?_eq_getElem (by omega)
  by_cases hu:2≤kindO opsA[p].op∧listed.getD p false=false
  ·exact⟨p,hv,.inr ⟨_,ho,hu⟩⟩
  ·refine HInv.norm h d (p+1) (by omega) (hv.merge h ho fun hk=>?_)
   have hl:listed.getD p false=true:=by
    cases hh:listed.getD p false with
    |true=>rfl
    |false=>exact absurd ⟨hk,hh⟩ hu
   refine⟨?_,hl⟩
   have h3:=kind_le opsA[p].op
   rcases Nat.lt_or_ge (kindO opsA[p].op) 3 with h4|h4
   ·have:=hv.bef p _ ho (by omega) hl
    omega
   ·omega
end
end Go.Ab.Cm
namespace Go.Ab.Cm
open Classical in
noncomputable def Kf(K:Ctx)(E:Nat→Prop)(w:World):Ctx:={K with F:=fun b=>if E b then w.heap[b]? else K.F b}
section
variable {P:Program} {tt:T TI} {eq:EqT} {call:Call'} {N:Nat} {opsA:Array Oper} {m nx0:Nat} {sts:Nat→S} {rcs:List Rc} {β0 β β':Nat→Option BI} {listed:Array Bool} {tmps:Array Value} {K:Ctx} {p:Nat} {w w':World} {s s':S} {E:Nat→Prop}
theorem Kf_in{b:Nat}(h:E b):(Kf K E w).F b=w.heap[b]? := by simp [Kf,h]
theorem Kf_out{b:Nat}(h:¬ E b):(Kf K E w).F b=K.F b:=by simp [Kf,h]
theorem SimC.framed(h:SimC P K N β s tmps w)(ha:∀q x b',s.H.at' q=some x→β q=some b'→¬ E b'.b):SimC P (Kf K E w) N β s tmps w:=by
 refine⟨h.size,h.slot,fun q x hq=>?_,h.inj,h.lt,fun b ob hb=>?_,h.oo,h.good.mono fun b ob hb=>(by
  by_cases hE:E b
  ·rw [Kf_in hE];exact h.frame b ob hb
  ·rw [Kf_out hE];exact hb)⟩
 ·obtain⟨bi,h1,h2,h3⟩:=h.blk q x hq
  exact⟨bi,h1,by rw [Kf_out (ha q _ bi hq h1)];exact h2,h3⟩
 ·by_cases hE:E b
  ·rw [Kf_in hE]at hb;exact hb
  ·rw [Kf_out hE]at hb;exact h.frame b ob hb
theorem SimC.unframed(h:SimC P (Kf K E w) N β' s' tmps w')(hg:Gd P K.F)(hE:∀b,E b→(∃ob,w.heap[b]? = some ob)∧K.F b=none):
    SimC P K N β' s' tmps w'∧(∀b,E b→w'.heap[b]? = w.heap[b]?)∧∀q x b',s'.H.at' q=some x→β' q=some b'→¬ E b'.b:=by
  have hap:∀q x b',s'.H.at' q=some x→β' q=some b'→¬ E b'.b:=by
    intro q x b' hq hb he
    have h5:=(h.old hq hb).1
    rw [Kf_in he]at h5
    obtain⟨⟨ob,ho⟩,_⟩:=hE _ he
    rw [ho]at h5;cases h5
  refine⟨⟨h.size,h.slot,fun q x hq=>?_,h.inj,h.lt,fun b ob hb=>?_,h.oo,hg⟩,fun b he=>?_,hap⟩
  · obtain⟨bi,h1,h2,h3⟩:=h.blk q x hq
    exact⟨bi,h1,by rw [Kf_out (hap q _ bi hq h1)]at h2;exact h2,h3⟩
  · refine h.frame b ob ?_
    have hn:¬ E b:=fun he=>by rw [(hE b he).2]at hb;cases hb
    rw [Kf_out hn];exact hb
  · obtain⟨⟨ob,ho⟩,_⟩:=hE b he
    rw [h.frame b ob (by rw [Kf_in he];exact ho),ho]
def EB(opsA:Array Oper)(nx0:Nat)(rcs:List Rc)(β:Nat→Option BI)(listed:Array Bool)(p b:Nat):Prop:=
 ∃(j:Nat) (o:Oper) (rc:Rc) (bi:BI),opsA[j]? = some o∧rcs[j]? = some rc∧kindO o.op=3∧listed.getD j false=true∧p≤j∧rc.on=true∧β (nx0+j)=some bi∧bi.b=b
theorem HInv.eb(hv:HInv P tt K opsA nx0 sts rcs β0 β listed p w):(∀q x b',(sts p).H.at' q=some x→β q=some b'→¬ EB opsA nx0 rcs β listed p b'.b)∧∀b,EB opsA nx0 rcs β listed p b→(∃ob,w.heap[b]? = some ob)∧K.F b=none:=by
 refine⟨fun q x b' hq hb=>?_,fun b=>?_⟩
 ·rintro ⟨j,o,rc,bi,h1,h2,h3,h4,h5,h6,h7,h8⟩
  obtain⟨bi',er⟩:=hv.early j o rc h1 h2 h3 h4 h5 h6
  have:=er.b;rw [h7]at this;cases this
  exact er.apart q x b' hq hb h8.symm
 ·rintro ⟨j,o,rc,bi,h1,h2,h3,h4,h5,h6,h7,rfl⟩
  obtain⟨bi',er⟩:=hv.early j o rc h1 h2 h3 h4 h5 h6
  have:=er.b;rw [h7]at this;cases this
  obtain⟨cs,vs,_,z2,_⟩:=er.cells
  exact⟨⟨_,z2⟩,er.fr⟩
end
end Go.Ab.Cm
namespace Go.Ab.Cm
section
variable {P:Program} {tt:T TI} {eq:EqT} {call:Call'} {N:Nat} {opsA:Array Oper} {m nx0:Nat} {sts:Nat→S} {rcs:List Rc} {β0 β β':Nat→Option BI} {listed:Array Bool} {tmps:Array Value} {K:Ctx} {p i:Nat} {w w':World} {o:Oper}
theorem listed_back{j:Nat}(hl:(listed.setIfInBounds i true).getD j false=true)(hji:i≠j):listed.getD j false=true:=by
 rwa [getD_set_ne false hji]at hl
theorem unlisted_back{j:Nat}(hl:(listed.setIfInBounds i true).getD j false=false):listed.getD j false=false:=by
 cases h:listed.getD j false with
 |false=>rfl
 |true=>rw [getD_set_true h]at hl;cases hl
theorem HInv.quiet(hv:HInv P tt K opsA nx0 sts rcs β0 β listed p w)(hi:opsA[i]? = some o)(hk:kindO o.op<2∨(kindO o.op=3∧∀rc,rcs[i]? = some rc→rc.on=false)):HInv P tt K opsA nx0 sts rcs β0 β (listed.setIfInBounds i true) p w:=by
 have hne:∀{j:Nat} {oj:Oper} {rc:Rc},opsA[j]? = some oj→rcs[j]? = some rc→kindO oj.op=3→rc.on=true→i≠j:=by
  rintro j oj rc hj hrc hk3 hon rfl
  rw [hi]at hj;cases hj
  rcases hk with hk|⟨_,hk⟩
  ·omega
  ·rw [hk rc hrc]at hon;cases hon
 refine⟨hv.ple,hv.sim,fun j oj hj hjp hkj=>getD_set_true (hv.lst j oj hj hjp hkj),fun j oj hj hkj hl=>?_,fun j oj hj hkj hl=>hv.res j oj hj hkj (unlisted_back hl),hv.nxl,hv.ext,
  fun j oj rc hj hrc ho hl hpj hon=>hv.early j oj rc hj hrc ho (listed_back hl (hne hj hrc ho hon)) hpj hon,
  fun j j' oj oj' rc rc' bi bi' h1 h2 h3 h4 h5 h6 h7 h8 h9 h10 h11 h12=>hv.dist j j' oj oj' rc rc' bi bi' h1 h2 h3 h4 h5 h6 (listed_back h7 (hne h1 h3 h5 h11)) (listed_back h8 (hne h2 h4 h6 h12)) h9 h10 h11 h12⟩
 refine hv.bef j oj hj hkj (listed_back hl ?_)
 rintro rfl
 rw [hi]at hj;cases hj
 rcases hk with hk|⟨hk,_⟩<;>omega
theorem HInv.write(hv:HInv P tt K opsA nx0 sts rcs β0 β listed i w)(hi:opsA[i]? = some o)(hk:kindO o.op=2)(hsz:i<listed.size)(hE:Ext (sts i).nx (sts (i+1)).nx β β')
    (hs:SimC P (Kf K (EB opsA nx0 rcs β listed i) w) 0 β' ⟨.e,(sts (i+1)).H,(sts (i+1)).nx⟩ #[] w'):HInv P tt K opsA nx0 sts rcs β0 β' (listed.setIfInBounds i true) (i+1) w':=by
  obtain⟨e1,e2⟩:=hv.eb
  obtain⟨u1,u2,u3⟩:=hs.unframed hv.sim.good e2
  have hlt:i<opsA.size:=(Array.getElem?_eq_some_iff.1 hi).1
  have hne:∀{j:Nat} {oj:Oper},opsA[j]? = some oj→kindO oj.op=3→i≠j:=by
    rintro j oj hj hk3 rfl
    rw [hi]at hj;cases hj;omega
  have hback:∀{j:Nat} {b:BI},j<opsA.size→β' (nx0+j)=some b→β (nx0+j)=some b:=fun {j b} hj hb=>by
    rcases hE.old _ _ hb with h|h
    · exact h
    · have:=hv.nxl;omega
  refine⟨hlt,u1,fun j oj hj hjp hkj=>?_,fun j oj hj hkj hl=>?_,fun j oj hj hkj hl=>?_,Nat.le_trans hv.nxl hE.le,hv.ext.trans hE,
    fun j oj rc hj hrc ho hl hpj hon=>?_,
    fun j j' oj oj' rc rc' bi bi' h1 h2 h3 h4 h5 h6 h7 h8 h9 h10 h11 h12 h13 h14=>hv.dist j j' oj oj' rc rc' bi bi' h1 h2 h3 h4 h5 h6 (listed_back h7 (hne h1 h5)) (listed_back h8 (hne h2 h6)) (by omega) (by omega) h11 h12
      (hback (Array.getElem?_eq_some_iff.1 h1).1 h13) (hback (Array.getElem?_eq_some_iff.1 h2).1 h14)⟩
  · by_cases hij:i=j
    · subst hij;rw [Array.getD_eq_getD_getElem?];simp [hsz]
    · exact getD_set_true (hv.lst j oj hj (by omega) hkj)
  · by_cases hij:i=j
    · omega
    · have:=hv.bef j oj hj hkj (listed_back hl hij);omega
  · cases hb:β' (nx0+j) with
    |none=>rfl
    |some b=>
      have:=hback (Array.getElem?_eq_some_iff.1 hj).1 hb
      rw [hv.res j oj hj hkj (unlisted_back hl)]at this;cases this
  · have hl':=listed_back hl (hne hj ho)
    obtain⟨bi,er⟩:=hv.early j oj rc hj hrc ho hl' (by omega) hon
    obtain⟨cs,vs,z1,z2,z3,z4,z5,z6⟩:=er.cells
    have heb:EB opsA nx0 rcs β listed i bi.b:=⟨j,oj,rc,bi,hj,hrc,ho,hl',by omega,hon,er.b,rfl⟩
    exact⟨bi,hE.mono _ _ er.b,er.fr,⟨cs,vs,z1,by rw [u2 _ heb];exact z2,z3,z4,z5,fun k c hk=>by obtain⟨g0,u,g1,g2⟩:=z6 k c hk;exact⟨g0,u,g1,g2.mono hE.mono⟩⟩,fun q x b' hq hb he=>u3 q x b' hq hb (by rw [he];exact heb)⟩
end
end Go.Ab.Cm
namespace Go.Ab.Cm
section
variable {P:Program} {tt:T TI} {eq:EqT} {call:Call'} {N:Nat} {opsA:Array Oper} {m nx0:Nat} {sts:Nat→S} {rcs:List Rc} {β0 β:Nat→Option BI} {listed:Array Bool} {tmps:Array Value} {K:Ctx} {p i:Nat} {w w':World} {o:Oper} {s:S}
def addB(β:Nat→Option BI)(r:Nat)(bi:BI):Nat→Option BI:=fun q=>if q=r then some bi else β q
theorem addB_mono{r:Nat}{bi:BI}(hn:β r=none):∀q b,β q=some b→addB β r bi q=some b:=fun q b hq=>by
 unfold addB
 rw [if_neg (fun e=>by rw [e,hn]at hq;cases hq)];exact hq
theorem SimC.adds(h:SimC P K N β s tmps w){r:Nat}{bi:BI}(hn:β r=none)(hr:r<s.nx)(hold:∀(b:Nat) (ob:Obj),w.heap[b]? = some ob→w'.heap[b]? = some ob)(hoo:(w'.os,w'.output)=(w.os,w.output)):SimC P K N (addB β r bi) s tmps w':=by
 have hm:=addB_mono (bi:=bi) hn
 have back:∀{q x b},s.H.at' q=some x→Cm.addB β r bi q=some b→β q=some b:=by
  intro q x b hq hb
  obtain⟨b',h1,_⟩:=h.blk q x hq
  have:=hm q b' h1
  rw [hb]at this;cases this;exact h1
 refine⟨h.size,fun t v ht=>(h.slot t v ht).mono hm,fun q x hq=>?_,fun q q' x x' b b' hq hq' hb hb' he=>h.inj q q' x x' b b' hq hq' (back hq hb) (back hq' hb') he,fun q b hq=>?_,fun b ob hb=>hold b ob (h.frame b ob hb),hoo.trans h.oo,h.good⟩
 ·obtain⟨b,h1,h2,h3⟩:=h.blk q x hq
  obtain⟨ob,h4⟩:=h3.ob
  exact⟨b,hm _ _ h1,h2,h3.keep hm (by rw [h4];exact hold _ _ h4)⟩
 ·unfold Cm.addB at hq
  by_cases hqr:q=r
  ·omega
  ·rw [if_neg hqr]at hq;exact h.lt q b hq
theorem HInv.new(hv:HInv P tt K opsA nx0 sts rcs β0 β listed p w)(hi:opsA[i]? = some o)(hk3:kindO o.op=3)(hsz:i<listed.size)(hun:listed.getD i false=false){rci:Rc}(hrci:rcs[i]? = some rci){n:NR}{vs:List Value}(hz:newOf tt rci.e o.op=some n)(hlen:vs.length=n.n)(hone:∀v,v∈vs→v.oneCell'=true)
    (hrep:∀k c,n.cs.at' k=some c→k<n.n∧∃u,vs[k]? = some u∧CR β u c) (hw:w'.heap=w.heap.push (.cells ⟨vs⟩ n.t (0,0))) (hoo:(w'.os,w'.output)=(w.os,w.output)):
    HInv P tt K opsA nx0 sts rcs β0 (addB β (nx0+i) ⟨w.heap.size,vs.length⟩) (listed.setIfInBounds i true) p w':=by
  have hlt:i<opsA.size:=(Array.getElem?_eq_some_iff.1 hi).1
  have hn:=hv.res i o hi hk3 hun
  have hm:=addB_mono (bi:=⟨w.heap.size,vs.length⟩) hn
  have hold:∀(b:Nat) (ob:Obj),w.heap[b]? = some ob→w'.heap[b]? = some ob:=fun b ob hb=>by
    have hlt:=lt_of_heap hb
    rw [hw,Array.getElem?_push,if_neg (by omega)];exact hb
  have hother:∀{j:Nat},i≠j→addB β (nx0+i) ⟨w.heap.size,vs.length⟩ (nx0+j)=β (nx0+j):=fun {j} hj=>by
    unfold addB;rw [if_neg (by omega)]
  have hself:addB β (nx0+i) ⟨w.heap.size,vs.length⟩ (nx0+i)=some ⟨w.heap.size,vs.length⟩:=by unfold addB;rw [if_pos rfl]
  have hpi:p≤i:=Nat.le_of_not_lt fun hh=>by rw [hv.lst i o hi hh (by omega)]at hun;cases hun
  have hold1:∀{j:Nat} {oj:Oper} {rc:Rc} {bi:BI},i≠j→opsA[j]? = some oj→rcs[j]? = some rc→kindO oj.op=3→(listed.setIfInBounds i true).getD j false=true→p≤j→rc.on=true→β (nx0+j)=some bi→bi.b<w.heap.size:=by
    intro j oj rc bi hij hj hrc hk hl hpj hon hb
    obtain⟨bi',er⟩:=hv.early j oj rc hj hrc hk (listed_back hl hij) hpj hon
    have:=er.b;rw [hb]at this;cases this
    obtain⟨_,_,_,z2,_⟩:=er.cells
    exact lt_of_heap z2
  refine⟨hv.ple,hv.sim.adds hn (by have:=hv.nxl;simp only;omega) hold hoo,fun j oj hj hjp hkj=>getD_set_true (hv.lst j oj hj hjp hkj),fun j oj hj hkj hl=>?_,fun j oj hj hkj hl=>?_,hv.nxl,⟨fun r b hb=>hm r b (hv.ext.mono r b hb),fun r b hb=>?_,hv.ext.le⟩,
    fun j oj rc hj hrc hoj hl hpj hon=>?_,fun j j' oj oj' rc rc' bi bi' h1 h2 h3 h4 h5 h6 h7 h8 h9 h10 h11 h12 h13 h14 h15=>?_⟩
  · refine hv.bef j oj hj hkj (listed_back hl ?_)
    rintro rfl
    rw [hi]at hj;cases hj;omega
  · have hij:i≠j:=by
      rintro rfl
      rw [Array.getD_eq_getD_getElem?]at hl;simp [hsz]at hl
    rw [hother hij]
    exact hv.res j oj hj hkj (unlisted_back hl)
  · by_cases hr:r=nx0+i
    · exact .inr (by omega)
    · unfold addB at hb;rw [if_neg hr]at hb;exact hv.ext.old r b hb
  · by_cases hij:i=j
    · subst hij
      rw [hi]at hj;cases hj
      rw [hrci]at hrc;cases hrc
      refine⟨⟨w.heap.size,vs.length⟩,hself,?_,⟨n,vs,hz,by rw [hw];simp,rfl,hlen,hone,fun k c hk=>by obtain⟨g0,u,g1,g2⟩:=hrep k c hk;exact⟨g0,u,g1,g2.mono hm⟩⟩,fun q x b' hq hb he=>?_⟩
      · cases hF:K.F w.heap.size with
        |none=>rfl
        |some ob=>have:=lt_of_heap (hv.sim.frame _ ob hF);omega
      · obtain⟨b2,h1,_,h2⟩:=hv.sim.blk q x hq
        have:=hm q b2 h1
        rw [hb]at this;cases this
        obtain⟨_,h3⟩:=h2.ob
        have hx:=lt_of_heap h3
        simp only at he
        omega
    · obtain⟨bj,er⟩:=hv.early j oj rc hj hrc hoj (listed_back hl hij) hpj hon
      obtain⟨cs',vs',z1,z2,z3,z4,z5,z6⟩:=er.cells
      refine⟨bj,by rw [hother hij];exact er.b,er.fr,⟨cs',vs',z1,hold _ _ z2,z3,z4,z5,fun k c hk=>by obtain⟨g0,u,g1,g2⟩:=z6 k c hk;exact⟨g0,u,g1,g2.mono hm⟩⟩,fun q x b' hq hb he=>?_⟩
      obtain⟨b2,h1,_⟩:=hv.sim.blk q x hq
      have:=hm q b2 h1
      rw [hb]at this;cases this
      exact er.apart q _ b' hq h1 he
  · by_cases hij:i=j
    · by_cases hij':i=j'
      · omega
      · subst hij
        rw [hself]at h13;cases h13
        rw [hother hij']at h14
        have:=hold1 hij' h2 h4 h6 h8 h10 h12 h14
        simp only at h15;omega
    · by_cases hij':i=j'
      · subst hij'
        rw [hself]at h14;cases h14
        rw [hother hij]at h13
        have:=hold1 hij h1 h3 h5 h7 h9 h11 h13
        simp only at h15;omega
      · rw [hother hij]at h13;rw [hother hij']at h14
        exact hv.dist j j' oj oj' rc rc' bi bi' h1 h2 h3 h4 h5 h6 (listed_back h7 hij) (listed_back h8 hij') h9 h10 h11 h12 h13 h14 h15
end
end Go.Ab.Cm
namespace Go.Ab.Cm
theorem eqCV_spec:∀(n:Nat) {a b:CV},eqCV n a b=true→a=b
 | 0,a,b,h=>by cases h
 |n+1,a,b,h=>by
  have ih:=fun x y h=>eqCV_spec n (a:=x) (b:=y) h
  replace h:eqStep (eqCV n) a b=true:=h
  unfold eqStep at h
  split at h
  case h_21=>cases h
  all_goals try rfl
  all_goals try simp only [Bool.and_eq_true,decide_eq_true_eq,Nat.beq_eq,beq_iff_eq]at h
  all_goals first
   |(obtain⟨rfl,rfl⟩:=h;rfl)
   |(obtain⟨⟨⟨⟨⟨rfl,rfl⟩,rfl⟩,rfl⟩,rfl⟩,rfl⟩:=h;rfl)
   |(obtain⟨rfl,h⟩:=h;rw [eqL_spec ih h];done)
   |(obtain⟨rfl,h⟩:=h;have:=ih _ _ h;subst this;rfl)
   |(rw [eqL_spec ih h];done)
   |(rw [eqL_spec eqU_spec h];done)
   |(subst h;rfl)
end Go.Ab.Cm
namespace Go.Ab.Cm
section
variable {P:Program} {tt:TT} {eq:EqT} {call:Call'} {N:Nat} {opsA:Array Oper} {m nx0:Nat} {sts:Nat→S} {rcs:List Rc} {β0 β β':Nat→Option BI} {listed:Array Bool} {tmps:Array Value} {K:Ctx} {p i:Nat} {w w':World} {o:Oper} {s:S}
theorem HInv.stay(hv:HInv P (mkT tt) K opsA nx0 sts rcs β0 β listed p w)(hE:Ext (sts p).nx (sts p).nx β β')
    (hs:SimC P (Kf K (EB opsA nx0 rcs β listed p) w) 0 β' ⟨.e,(sts p).H,(sts p).nx⟩ #[] w'):HInv P (mkT tt) K opsA nx0 sts rcs β0 β' listed p w':=by
  obtain⟨e1,e2⟩:=hv.eb
  obtain⟨u1,u2,u3⟩:=hs.unframed hv.sim.good e2
  have hback:∀{j:Nat} {b:BI},j<opsA.size→β' (nx0+j)=some b→β (nx0+j)=some b:=fun {j b} hj hb=>by
    rcases hE.old _ _ hb with h|h
    · exact h
    · have:=hv.nxl;omega
  refine⟨hv.ple,u1,hv.lst,hv.bef,fun j oj hj hkj hl=>?_,hv.nxl,hv.ext.trans hE,fun j oj rc hj hrc ho hl hpj hon=>?_,
    fun j j' oj oj' rc rc' bi bi' h1 h2 h3 h4 h5 h6 h7 h8 h9 h10 h11 h12 h13 h14=>hv.dist j j' oj oj' rc rc' bi bi' h1 h2 h3 h4 h5 h6 h7 h8 h9 h10 h11 h12 (hback (Array.getElem?_eq_some_iff.1 h1).1 h13) (hback (Array.getElem?_eq_some_iff.1 h2).1 h14)⟩
  · cases hb:β' (nx0+j) with
    |none=>rfl
    |some b=>
      have:=hback (Array.getElem?_eq_some_iff.1 hj).1 hb
      rw [hv.res j oj hj hkj hl]at this;cases this
  · obtain⟨bi,er⟩:=hv.early j oj rc hj hrc ho hl hpj hon
    obtain⟨cs,vs,z1,z2,z3,z4,z5,z6⟩:=er.cells
    have heb:EB opsA nx0 rcs β listed p bi.b:=⟨j,oj,rc,bi,hj,hrc,ho,hl,hpj,hon,er.b,rfl⟩
    exact⟨bi,hE.mono _ _ er.b,er.fr,⟨cs,vs,z1,by rw [u2 _ heb];exact z2,z3,z4,z5,fun k c hk=>by obtain⟨g0,u,g1,g2⟩:=z6 k c hk;exact⟨g0,u,g1,g2.mono hE.mono⟩⟩,fun q x b' hq hb he=>u3 q x b' hq hb (by rw [he];exact heb)⟩
theorem HInv.turn(hv:HInv P (mkT tt) K opsA nx0 sts rcs β0 β listed p w)(h:TR (mkT tt) eq call N opsA m nx0 sts rcs)(hc:ClosedL opsA listed)(hr:i∈Region.ready .any opsA listed)(ho:opsA[i]? = some o)(hk:kindO o.op=2)(him:i≤m):
    HInv P (mkT tt) K opsA nx0 sts rcs β0 β listed i w:=by
  obtain⟨hun,hsz⟩:=unlisted_of_ready hr
  have hlt:i<opsA.size:=(Array.getElem?_eq_some_iff.1 ho).1
  obtain⟨p',hp',hx⟩:=HInv.norm h (opsA.size-p) p (by have:=hv.ple;omega) hv
  rcases Nat.lt_trichotomy p' i with hlt'|rfl|hgt
  · rcases hx with hx|⟨o',h1,h2,h3⟩
    · omega
    · have:=h.done hc hr (h.ord.wr p' i o' o hlt' (by omega) h1 ho h2 hk) (by omega)
      rw [h3]at this;cases this
  · exact hp'
  · have:=hp'.lst i o ho hgt (by omega)
    rw [hun]at this;cases this
theorem rc_at(hst:∀(i:Nat) o,opsA[i]? = some o→∃rc,rcs[i]? = some rc∧Stp (mkT tt) eq call N opsA.toList nx0 i (sts i) o rc (sts (i+1)))(hlen:rcs.length=opsA.size){x:Rc}(hx:x∈rcs):opsA[x.i]? = some x.o∧rcs[x.i]? = some x∧x.H=(sts x.i).H∧x.nx=(sts x.i).nx:=by
 obtain⟨j,hj⟩:=List.mem_iff_getElem?.1 hx
 have hlt:j<opsA.size:=by have:=(List.getElem?_eq_some_iff.1 hj).1;omega
 have ho:opsA[j]? = some opsA[j]:=Array.getElem?_eq_getElem hlt
 obtain⟨rc,h1,h2⟩:=hst j _ ho
 rw [hj]at h1;cases h1
 have e:=h2.ri
 have e2:=h2.ro
 rw [e,e2]
 exact⟨ho,hj,h2.rH,h2.rnx⟩
theorem HInv.may(hv:HInv P (mkT tt) K opsA nx0 sts rcs β0 β listed p w)(h:TR (mkT tt) eq call N opsA m nx0 sts rcs)(hlen:rcs.length=opsA.size)(hc:ClosedL opsA listed)(hsz:listed.size=opsA.size)(hr:i∈Region.ready .any opsA listed)(ho:opsA[i]? = some o)(hk:kindO o.op=1)
    (hp:p=opsA.size∨∃o,opsA[p]? = some o∧2≤kindO o.op∧listed.getD p false=false):mayAt (masksT opsA.toList 0 .e) rcs i p=true:=by
  obtain⟨hun,_⟩:=unlisted_of_ready hr
  have hlt:i<opsA.size:=(Array.getElem?_eq_some_iff.1 ho).1
  unfold mayAt
  rw [Bool.and_eq_true]
  refine⟨?_,List.all_eq_true.2 fun x hx=>?_⟩
  · rw [Bool.not_eq_true',Bool.eq_false_iff]
    intro hw
    have hpi:p≠i:=by
      rintro rfl
      rcases hp with hp|⟨o',h1,h2,_⟩
      · omega
      · rw [ho]at h1;cases h1;omega
    have hl:=h.done hc hr hw hpi
    rcases hp with hp|⟨o',h1,h2,h3⟩
    · rw [Array.getD_eq_getD_getElem?,Array.getElem?_eq_none (by omega)]at hl;cases hl
    · rw [h3]at hl;cases hl
  · obtain⟨x1,x2,x3,x4⟩:=rc_at h.stp hlen hx
    rw [Bool.cond_eq_ite]
    split
    case isFalse=>rfl
    rename_i hk2
    rw [Nat.ble_eq]at hk2
    rw [Bool.and_eq_true]
    refine⟨?_,?_⟩
    · rw [Bool.not_eq_true',Bool.eq_false_iff]
      intro hw
      rw [Bool.and_eq_true,Nat.blt_eq]at hw
      have:=h.waits hc hw.1 (hv.lst x.i _ x1 hw.2 hk2)
      rw [hun]at this;cases this
    · rw [Bool.not_eq_true',Bool.eq_false_iff]
      intro hw
      simp only [Bool.and_eq_true,Nat.beq_eq,Nat.ble_eq]at hw
      obtain⟨⟨hw1,hw2⟩,hw3⟩:=hw
      have hne:x.i≠i:=by rintro e;rw [e,ho]at x1;cases x1;omega
      have:=hv.bef x.i _ x1 hw1 (h.done hc hr hw2 hne)
      omega
theorem Sl.sim(hS:Sl β opsA sts listed tmps)(h:TR (mkT tt) eq call N opsA m nx0 sts rcs)(hc:ClosedL opsA listed)(hr:i∈Region.ready .any opsA listed)(ho:opsA[i]? = some o)(hsz:tmps.size=N){K':Ctx}{H:T Blk}{nx:Nat}(hs:SimC P K' 0 β ⟨.e,H,nx⟩ #[] w):
    SimC P K' N β ⟨renv (sts i).env (opSlots opsA.toList o),H,nx⟩ tmps w:=
  ⟨hsz,fun _ _ ht=>hS.use h hc ho hr ht,hs.blk,hs.inj,hs.lt,hs.frame,hs.oo,hs.good⟩
end
end Go.Ab.Cm
namespace Go.Ab.Cm
section
variable {P:Program} {tt:TT} {eq:EqT} {call:Call'} {N:Nat} {opsA:Array Oper} {m nx0:Nat} {sts:Nat→S} {rcs:List Rc} {β0 β β':Nat→Option BI} {listed:Array Bool} {tmps:Array Value} {K:Ctx} {p i:Nat} {w w':World} {o:Oper} {s:S} {ρ:Option Nat} {ds:List Deferred}
theorem put_act(d:Option Nat)(u:Value):∃t',(⟨tmps,ds⟩:Act).put d u=⟨t',ds⟩∧t'.size=tmps.size:=by
 cases d with
 |none=>exact⟨_,rfl,rfl⟩
 |some d=>exact⟨_,rfl,by simp⟩
theorem draw_op(him:i<m)(htt:TTok P tt=true)(heq:EqOk P tt eq)(hcall:CallOk P call)(h:TR (mkT tt) eq call N opsA m nx0 sts rcs)(hlen:rcs.length=opsA.size)
    (hread:∀rc,rc∈rcs→readOk (mkT tt) eq call (masksT opsA.toList 0 .e) rcs (sts opsA.size) opsA.size rc=true)
    (hc:ClosedL opsA listed) (hsz:listed.size=opsA.size) (hr:i∈Region.ready .any opsA listed) (hS:Sl β opsA sts listed tmps) (hv:HInv P (mkT tt) K opsA nx0 sts rcs β0 β listed p w) (htm:tmps.size=N)
    {Q:Exit→Act→World→Prop} {next:Act→World→Prop}
    (hnext:∀tmps' w' β' p',tmps'.size=N→Sl β' opsA sts (listed.setIfInBounds i true) tmps'→HInv P (mkT tt) K opsA nx0 sts rcs β0 β' (listed.setIfInBounds i true) p' w'→next ⟨tmps',ds⟩ w'):wpOpIn (FW ρ) 0 P opsA Q i next ⟨tmps,ds⟩ w:=by
  obtain⟨hun,hszi⟩:=unlisted_of_ready hr
  have hlt:i<opsA.size:=by omega
  have ho:opsA[i]? = some opsA[i]:=Array.getElem?_eq_getElem hlt
  generalize opsA[i]=o at ho
  obtain⟨rc,hrc,hst⟩:=h.stp i o ho
  have fin:∀{β':Nat→Option BI} {u:Value} {p':Nat} {w':World},(∀r bi,β r=some bi→β' r=some bi)→CR β' u rc.v→HInv P (mkT tt) K opsA nx0 sts rcs β0 β' (listed.setIfInBounds i true) p' w'→next ((⟨tmps,ds⟩:Act).put o.dst u) w':=by
    intro β' u p' w' hm hu hv'
    have h1:=hS.step h hc ho hr hm hst rfl htm hu
    obtain⟨t',h2,h3⟩:=put_act (tmps:=tmps) (ds:=ds) o.dst u
    have h4:((⟨tmps,[]⟩:Act).put o.dst u).tmps=((⟨tmps,ds⟩:Act).put o.dst u).tmps:=by cases o.dst<;>rfl
    rw [h4,h2]at h1
    rw [h2]
    exact hnext t' w' β' p' (h3.trans htm) h1 hv'
  have hs0:SimC P K N β ⟨rc.e,(sts p).H,(sts p).nx⟩ tmps w:=by rw [hst.re];exact hS.sim h hc hr ho htm hv.sim
  unfold wpOpIn
  simp only [ho]
  rw [wantC_ok hs0 hst.want]
  cases hon:rc.on with
  |false=>
    simp only [Bool.false_eq_true,if_false]
    refine⟨fun _ _=>trivial,?_⟩
    obtain⟨g1,g2,g3⟩:=hst.off hon
    have hund:CR β undef rc.v:=by rw [g1];exact .und
    rcases Nat.lt_or_ge (kindO o.op) 2 with hk|hk
    · exact fin (fun _ _ h=>h) hund (hv.quiet ho (.inl hk))
    · rcases Nat.lt_or_ge (kindO o.op) 3 with hk3|hk3
      · have hk2:kindO o.op=2:=by omega
        have hv':=hv.turn h hc hr ho hk2 (by omega)
        refine fin (fun _ _ h=>h) hund (hv'.write ho hk2 hszi (β':=β) (w':=w) (by rw [g3];exact .refl _ _) ?_)
        rw [g2,g3]
        exact hv'.sim.framed hv'.eb.1
      · have hk3:kindO o.op=3:=by have:=kind_le o.op;omega
        exact fin (fun _ _ h=>h) hund (hv.quiet ho (.inr ⟨hk3,fun rc' hrc'=>by rw [hrc]at hrc';cases hrc';exact hon⟩))
  |true=>
    simp only [if_true]
    have hout:=hst.on hon
    rcases Nat.lt_or_ge (kindO o.op) 2 with hk|hk
    · rw [opR_ne (by omega)]at hout
      obtain⟨p',hv',hx⟩:=HInv.norm h (opsA.size-p) p (by have:=hv.ple;omega) hv
      have hs1:SimC P (Kf K (EB opsA nx0 rcs β listed p') w) N β ⟨rc.e,(sts p').H,(sts p').nx⟩ tmps w:=by rw [hst.re];exact hS.sim h hc hr ho htm (hv'.sim.framed hv'.eb.1)
      have key:Out ⟨rc.e,(sts p').H,(sts p').nx⟩ (opAny (mkT tt) eq call ⟨rc.e,(sts p').H,(sts p').nx⟩ o.op) rc.v (sts p').H (sts p').nx:=by
        left
        rcases Nat.lt_or_ge (kindO o.op) 1 with hk0|hk1
        · obtain⟨f,hf⟩:=any_k0 (tt:=mkT tt) (eq:=eq) (call:=call) (op:=o.op) (by omega)
          rw [hf]at hout ⊢
          cases hfe:f rc.e with
          |none=>simp only [hfe]at hout;rcases hout with h1 |⟨h1,_⟩<;>cases h1
          |some v=>
            simp only [hfe]at hout ⊢
            rcases hout with h1|⟨h1,_⟩
            · have h1:OR.val v (sts i).H (sts i).nx=OR.val rc.v (sts (i+1)).H (sts (i+1)).nx:=h1
              injection h1 with a b c
              subst a;rfl
            · cases h1
        · have hk1:kindO o.op=1:=by omega
          have hmay:=hv'.may h hlen hc hsz hr ho hk1 hx
          have hri:=hst.ri
          have hro:=hst.ro
          have hrd:=hread rc (List.mem_of_getElem? hrc)
          have hsame:sameAt (mkT tt) eq call rc (sts p').H (sts p').nx=true:=by
            unfold readOk at hrd
            rw [hro,hk1,hon]at hrd
            simp only [Bool.cond_eq_ite,Nat.beq_eq,Bool.and_true,if_true,Bool.and_eq_true,decide_true,hri]at hrd
            obtain⟨hr1,hr2⟩:=hrd
            rcases hx with rfl|⟨o',x1,x2,x3⟩
            · rw [if_pos hmay]at hr2;exact hr2
            · obtain⟨rc',y1,y2⟩:=h.stp p' o' x1
              have:=List.all_eq_true.1 hr1 rc' (List.mem_of_getElem? y1)
              rw [y2.ri,y2.ro,hmay,y2.rH,y2.rnx]at this
              rw [if_pos (by simpa using x2)]at this
              exact this
          unfold sameAt at hsame
          simp only [opF_eq]at hsame
          rw [hro]at hsame
          obtain⟨v,hv1⟩:=any_k1 (tt:=mkT tt) (eq:=eq) (call:=call) hk1 ⟨rc.e,(sts p').H,(sts p').nx⟩
          rw [hv1]at hsame ⊢
          cases v with
          |none=>cases hsame
          |some v=>
            have:=eqCV_spec 1000 hsame
            subst this;rfl
      refine any_wp htt heq hcall hs1 key fun u w' β' hE hs2 hu=>?_
      exact fin hE.mono hu ((hv'.stay hE hs2.heap).quiet ho (.inl hk))
    · rcases Nat.lt_or_ge (kindO o.op) 3 with hk3|hk3
      · have hk2:kindO o.op=2:=by omega
        rw [opR_ne (by omega)]at hout
        have hv':=hv.turn h hc hr ho hk2 (by omega)
        have hs1:SimC P (Kf K (EB opsA nx0 rcs β listed i) w) N β ⟨rc.e,(sts i).H,(sts i).nx⟩ tmps w:=by rw [hst.re];exact hS.sim h hc hr ho htm (hv'.sim.framed hv'.eb.1)
        refine any_wp htt heq hcall hs1 hout fun u w' β' hE hs2 hu=>?_
        exact fin hE.mono hu (hv'.write ho hk2 hszi hE hs2.heap)
      · have hk3:kindO o.op=3:=by have:=kind_le o.op;omega
        obtain⟨n,hz,hv1,hH,hn⟩:=h.alloc ho hk3 hrc hon
        obtain⟨vs,u,z1,z2,z3,z4,z5⟩:=newOf_run (P:=P) (o:=o) hs0 htt hz
        have hnew:=hv.new (w':={w with heap:=w.heap.push (.cells ⟨vs⟩ n.t (0,0))}) ho hk3 hszi hun hrc hz z1 z2 z3 rfl rfl
        have hnd:∀c,o.op ≠ .defer c:=fun c hh=>by rw [hh]at hk3;cases hk3
        refine wpv hnd z4 (fin (addB_mono (hv.res i o ho hk3 hun)) ?_ hnew)
        rw [hv1]
        exact z5 _ _ _ (by unfold Cm.addB;rw [if_pos rfl,z1])
theorem all_listed(h:Ords opsA m)(hsz:listed.size=opsA.size)(hr:Region.ready .any opsA listed=[]):∀(n i:Nat),i<n→i<opsA.size→listed.getD i false=true
 | 0,i,hi,_=>by omega
 |n+1,i,hi,hlt=>by
  cases hh:listed.getD i false with
  |true=>rfl
  |false=>
   have ho:opsA[i]? = some opsA[i]:=Array.getElem?_eq_getElem hlt
   have:i∈Region.ready .any opsA listed:=mem_ready.2 ⟨by rw [Array.getD_eq_getD_getElem?]at hh ⊢;simpa [hsz,hlt]using hh,_,ho,fun e he hb=>all_listed h hsz hr n e.on (by have:=h.back i _ ho e he hb;omega) (by have:=h.back i _ ho e he hb;omega)⟩
   rw [hr]at this;cases this
def left(listed:Array Bool):Nat:=(listed.toList.filter (fun b=>!b)).length
theorem left_set{i:Nat}(hi:listed.getD i true=false):left (listed.setIfInBounds i true)+1=left listed:=by
 have hlt:i<listed.size:=by
  rcases Nat.lt_or_ge i listed.size with h|h
  ·exact h
  ·rw [Array.getD_eq_getD_getElem?,Array.getElem?_eq_none h]at hi;cases hi
 have key:∀(l:List Bool) (i:Nat),l[i]? = some false→((l.set i true).filter (fun b=>!b)).length+1=(l.filter (fun b=>!b)).length:=by
  intro l
  induction l with
  |nil=>intro i h;simp at h
  |cons b l ih=>
   intro i h
   cases i with
   |zero=>simp at h;subst h;simp
   |succ i=>
    have:=ih i (by simpa using h)
    cases b<;>simp [List.filter_cons]at * <;> omega
 unfold left
 rw [Array.toList_setIfInBounds]
 refine key _ _ ?_
 rw [Array.getD_eq_getD_getElem?]at hi
 simp [hlt]at hi
 simp [hlt,hi]
structure TlOk(opsA:Array Oper)(m:Nat)(rcs:List Rc):Prop where
 st:∀(j:Nat) o,m≤j→opsA[j]? = some o→isSt o=true
 wait:∀(i j:Nat) o,i<m→m≤j→j<opsA.size→opsA[i]? = some o→1≤kindO o.op→waitsM (masksT opsA.toList 0 .e) i j=true
 diff:∀(j j':Nat) rc rc',m≤j→m≤j'→j≠j'→rcs[j]? = some rc→rcs[j']? = some rc'→∃a b,tgt rc=some a∧tgt rc'=some b∧a≠b
theorem tailOk_spec(hst:∀(i:Nat) o,opsA[i]? = some o→∃rc,rcs[i]? = some rc∧Stp (mkT tt) eq call N opsA.toList nx0 i (sts i) o rc (sts (i+1)))(hlen:rcs.length=opsA.size)(h:tailOk (masksT opsA.toList 0 .e) rcs m=true):TlOk opsA m rcs:=by
 have key:∀(j:Nat) rc,m≤j→rcs[j]? = some rc→rc.i=j∧isSt rc.o=true∧∀y,y∈rcs→(bif Nat.blt y.i m then Nat.beq (kindO y.o.op) 0||waitsM (masksT opsA.toList 0 .e) y.i j else Nat.beq y.i j||(match tgt rc,tgt y with|some a,some b=>!Nat.beq a b|_,_=>false))=true:=by
  intro j rc hmj hrc
  have hlt:j<opsA.size:=by have:=(List.getElem?_eq_some_iff.1 hrc).1;omega
  obtain⟨rc',h1,h2⟩:=hst j _ (Array.getElem?_eq_getElem hlt)
  rw [hrc]at h1;cases h1
  have e:=h2.ri
  have:=List.all_eq_true.1 h rc (List.mem_of_getElem? hrc)
  rw [Bool.cond_eq_ite,if_pos (by rw [e];simpa using hmj),Bool.and_eq_true]at this
  refine⟨e,this.1,fun y hy=>?_⟩
  have h3:=List.all_eq_true.1 this.2 y hy
  rw [e]at h3
  exact h3
 refine⟨fun j o hmj hj=>?_,fun i j o hi hmj hj ho hk=>?_,fun j j' rc rc' hmj hmj' hne hrc hrc'=>?_⟩
 ·obtain⟨rc,h1,h2⟩:=hst j o hj
  have:=(key j rc hmj h1).2.1
  rwa [h2.ro]at this
 ·obtain⟨rc,h1,_⟩:=hst j _ (Array.getElem?_eq_getElem hj)
  obtain⟨y,h3,h4⟩:=hst i o ho
  have:=(key j rc hmj h1).2.2 y (List.mem_of_getElem? h3)
  rw [h4.ri,h4.ro,Bool.cond_eq_ite,if_pos (by simpa using hi),Bool.or_eq_true]at this
  rcases this with h5|h5
  ·rw [Nat.beq_eq]at h5;omega
  ·exact h5
 ·have hlt':j'<opsA.size:=by have:=(List.getElem?_eq_some_iff.1 hrc').1;omega
  obtain⟨y,h3,h4⟩:=hst j' _ (Array.getElem?_eq_getElem hlt')
  rw [hrc']at h3;cases h3
  have:=(key j rc hmj hrc).2.2 rc' (List.mem_of_getElem? hrc')
  rw [h4.ri,Bool.cond_eq_ite,if_neg (by simpa using hmj'),Bool.or_eq_true]at this
  rcases this with h5|h5
  ·rw [Nat.beq_eq]at h5;omega
  ·split at h5
   ·rename_i a b ha hb
    refine⟨a,b,ha,hb,fun hab=>?_⟩
    subst hab
    simp at h5
   ·cases h5
theorem opStore_put{tt:T TI}{t:TypeId}{a x:Operand}{H':T Blk}(h:opStore tt s t a x=some H'):∃r off y,evO s.env a=some (.ptr r off)∧H'=s.H.put r (some y)∧∀s2:S,s2.env=s.env→s2.H.at' r=s.H.at' r→opStore tt s2 t a x=some (s2.H.put r (some y)):=by
 unfold opStore at h
 split at h
 case h_2=>cases h
 rename_i r off v ti ha hx ht
 split at h
 case h_2=>cases h
 rename_i n cs t0 hr
 rw [Bool.cond_eq_ite]at h
 split at h
 ·cases h
 rename_i hc
 cases h
 refine⟨r,off,_,ha,rfl,fun s2 he hh=>?_⟩
 unfold opStore
 rw [he,ha,hx,ht]
 simp only [hh,hr]
 rw [Bool.cond_eq_ite,if_neg hc]
theorem isSt_spec(h:isSt o=true):∃t a x,o.op = .store t a x∧o.guard=none∧o.dst=none:=by
 unfold isSt at h
 split at h
 ·rename_i t a x h1 h2 h3;exact⟨t,a,x,h1,h2,h3⟩
 ·cases h
theorem tail_step(h:TR (mkT tt) eq call N opsA m nx0 sts rcs)(ht:TlOk opsA m rcs){j:Nat}(hmj:m≤j)(hj:j<opsA.size):∃o rc t a x r y,opsA[j]? = some o∧rcs[j]? = some rc∧o.op = .store t a x∧o.guard=none∧o.dst=none∧rc.on=true∧rc.v = .und∧tgt rc=some r∧(sts (j+1)).H=(sts j).H.put r (some y)∧(sts (j+1)).nx=(sts j).nx∧
    ∀(H:T Blk) (nx:Nat),H.at' r=(sts j).H.at' r→Out ⟨rc.e,H,nx⟩ (opAny (mkT tt) eq call ⟨rc.e,H,nx⟩ o.op) .und (H.put r (some y)) nx:=by
  have ho:opsA[j]? = some opsA[j]:=Array.getElem?_eq_getElem hj
  generalize opsA[j]=o at ho
  obtain⟨t,a,x,h1,h2,h3⟩:=isSt_spec (ht.st j o hmj ho)
  obtain⟨rc,hrc,hs⟩:=h.stp j o ho
  have hon:rc.on=true:=by
    have hw:some true=some rc.on:=by rw [←hs.want,h2];rfl
    exact(Option.some.inj hw).symm
  have hk:kindO o.op=2:=by rw [h1];rfl
  have hout:=hs.on hon
  rw [opR_ne (by omega)]at hout
  have e0:∀s:S,opAny (mkT tt) eq call s o.op=sv (opStore (mkT tt) s t a x):=fun s=>by rw [h1];rfl
  rw [e0]at hout
  cases hst:opStore (mkT tt) ⟨rc.e,(sts j).H,(sts j).nx⟩ t a x with
  |none=>rw [hst]at hout;rcases hout with hh |⟨hh,_⟩<;>cases hh
  |some H'=>
    rw [hst]at hout
    rcases hout with hh|⟨hh,hv,hn⟩
    · cases hh
    · have hh:OR.skp H'=OR.skp (sts (j+1)).H:=hh
      injection hh with hH
      obtain⟨r,off,y,g1,g2,g3⟩:=opStore_put hst
      have hro:=hs.ro
      refine⟨o,rc,t,a,x,r,y,ho,hrc,h1,h2,h3,hon,hv,?_,by rw [←hH];exact g2,hn,fun H nx hh=>?_⟩
      · simp only [tgt,hro,h1]
        have g1:evO rc.e a=some (.ptr r off):=g1
        rw [g1]
      · rw [e0,g3 ⟨rc.e,H,nx⟩ rfl hh]
        exact .inr ⟨rfl,rfl,rfl⟩
theorem tail_at(h:TR (mkT tt) eq call N opsA m nx0 sts rcs)(ht:TlOk opsA m rcs){a q:Nat}(hma:m≤a):∀d,a+d≤opsA.size→(∀j rc,a≤j→j<a+d→rcs[j]? = some rc→tgt rc≠some q)→(sts (a+d)).H.at' q=(sts a).H.at' q∧(sts (a+d)).nx=(sts a).nx
 | 0,_,_=>⟨rfl,rfl⟩
 |d+1,hle,hn=>by
  obtain⟨o,rc,t,ad,x,r,y,h1,h2,h3,h4,h5,h6,h7,h8,h9,h10,_⟩:=tail_step h ht (j:=a+d) (by omega) (by omega)
  obtain⟨i1,i2⟩:=tail_at h ht hma d (by omega) fun j rc g1 g2=>hn j rc g1 (by omega)
  have hne:=hn (a+d) rc (by omega) (by omega) h2
  rw [h8]at hne
  rw [show a+(d+1)=a+d+1 by omega,h9,h10,T.at_put,if_neg (fun e=>hne (by rw [e]))]
  exact⟨i1,i2⟩
theorem SimC.congrH{β:Nat→Option BI}{env:T CV}{H H':T Blk}{nx:Nat}(h:SimC P K N β ⟨env,H,nx⟩ tmps w)(he:∀q,H'.at' q=H.at' q):SimC P K N β ⟨env,H',nx⟩ tmps w:=
 ⟨h.size,h.slot,fun r x hr=>h.blk r x (by rw [←he];exact hr),fun r r' x x' bi bi' h1 h2=>h.inj r r' x x' bi bi' (by rw [←he];exact h1) (by rw [←he];exact h2),h.lt,h.frame,h.oo,h.good⟩
structure Tl(P:Program)(tt:T TI)(K:Ctx)(opsA:Array Oper)(m nx0:Nat)(sts:Nat→S)(rcs:List Rc)(β0 β:Nat→Option BI)(listed:Array Bool)(w:World):Prop where
 sim:∃H,SimC P K 0 β ⟨.e,H,(sts m).nx⟩ #[] w∧∀q,((∃j rc,m≤j∧rcs[j]? = some rc∧listed.getD j false=true∧tgt rc=some q)→H.at' q=(sts opsA.size).H.at' q)∧((¬ ∃j rc,m≤j∧rcs[j]? = some rc∧listed.getD j false=true∧tgt rc=some q)→H.at' q=(sts m).H.at' q)
 ext:Ext nx0 (sts m).nx β0 β
 lst:∀(j:Nat) o,opsA[j]? = some o→j<m→1≤kindO o.op→listed.getD j false=true
theorem tail_op(htt:TTok P tt=true)(heq:EqOk P tt eq)(hcall:CallOk P call)(h:TR (mkT tt) eq call N opsA m nx0 sts rcs)(ht:TlOk opsA m rcs)(hlen:rcs.length=opsA.size)
    (hc:ClosedL opsA listed) (hsz:listed.size=opsA.size) (hr:i∈Region.ready .any opsA listed) (hS:Sl β opsA sts listed tmps) (hT:Tl P (mkT tt) K opsA m nx0 sts rcs β0 β listed w) (htm:tmps.size=N)
    {Q:Exit→Act→World→Prop} {next:Act→World→Prop}
    (hnext:∀tmps' w' β',tmps'.size=N→Sl β' opsA sts (listed.setIfInBounds i true) tmps'→Tl P (mkT tt) K opsA m nx0 sts rcs β0 β' (listed.setIfInBounds i true) w'→next ⟨tmps',ds⟩ w'):wpOpIn (FW ρ) 0 P opsA Q i next ⟨tmps,ds⟩ w:=by
  obtain⟨hun,hszi⟩:=unlisted_of_ready hr
  have hlt:i<opsA.size:=by omega
  obtain⟨H,hsim,hH⟩:=hT.sim
  have fin:∀{o:Oper} {rc:Rc} {β':Nat→Option BI} {u:Value} {w':World},opsA[i]? = some o→Stp (mkT tt) eq call N opsA.toList nx0 i (sts i) o rc (sts (i+1))→(∀r bi,β r=some bi→β' r=some bi)→CR β' u rc.v→Tl P (mkT tt) K opsA m nx0 sts rcs β0 β' (listed.setIfInBounds i true) w'→next ((⟨tmps,ds⟩:Act).put o.dst u) w':=by
    intro o rc β' u w' ho hst hm hu hv'
    have h1:=hS.step h hc ho hr hm hst rfl htm hu
    obtain⟨t',h2,h3⟩:=put_act (tmps:=tmps) (ds:=ds) o.dst u
    have h4:((⟨tmps,[]⟩:Act).put o.dst u).tmps=((⟨tmps,ds⟩:Act).put o.dst u).tmps:=by cases o.dst<;>rfl
    rw [h4,h2]at h1
    rw [h2]
    exact hnext t' w' β' (h3.trans htm) h1 hv'
  rcases Nat.lt_or_ge i m with him|him
  · have ho:opsA[i]? = some opsA[i]:=Array.getElem?_eq_getElem hlt
    generalize opsA[i]=o at ho
    obtain⟨rc,hrc,hst⟩:=h.stp i o ho
    have hk0:kindO o.op=0:=by
      rcases Nat.eq_zero_or_pos (kindO o.op)with h0|h0
      · exact h0
      · have:=hT.lst i o ho him h0
        rw [hun]at this;cases this
    have hs0:SimC P K N β ⟨rc.e,H,(sts m).nx⟩ tmps w:=by rw [hst.re];exact hS.sim h hc hr ho htm hsim
    have keep:∀{β':Nat→Option BI} {w':World},Ext (sts m).nx (sts m).nx β β'→SimC P K 0 β' ⟨.e,H,(sts m).nx⟩ #[] w'→Tl P (mkT tt) K opsA m nx0 sts rcs β0 β' (listed.setIfInBounds i true) w':=by
      intro β' w' hE hs
      have hsame:∀q,(∃j rc,m≤j∧rcs[j]? = some rc∧(listed.setIfInBounds i true).getD j false=true∧tgt rc=some q)↔∃j rc,m≤j∧rcs[j]? = some rc∧listed.getD j false=true∧tgt rc=some q:=fun q=>
        ⟨fun⟨j,rc,g1,g2,g3,g4⟩=>⟨j,rc,g1,g2,by rwa [getD_set_ne false (by omega)]at g3,g4⟩,fun⟨j,rc,g1,g2,g3,g4⟩=>⟨j,rc,g1,g2,by rwa [getD_set_ne false (by omega)],g4⟩⟩
      refine⟨⟨H,hs,fun q=>?_⟩,hT.ext.trans hE,fun j oj hj hjm hkj=>getD_set_true (hT.lst j oj hj hjm hkj)⟩
      rw [hsame q];exact hH q
    unfold wpOpIn
    simp only [ho]
    rw [wantC_ok hs0 hst.want]
    cases hon:rc.on with
    |false=>
      simp only [Bool.false_eq_true,if_false]
      refine⟨fun _ _=>trivial,?_⟩
      obtain⟨g1,g2,g3⟩:=hst.off hon
      exact fin ho hst (fun _ _ h=>h) (by rw [g1];exact .und) (keep (.refl _ _) hsim)
    |true=>
      simp only [if_true]
      have hout:=hst.on hon
      rw [opR_ne (by omega)]at hout
      have key:Out ⟨rc.e,H,(sts m).nx⟩ (opAny (mkT tt) eq call ⟨rc.e,H,(sts m).nx⟩ o.op) rc.v H (sts m).nx:=by
        left
        obtain⟨f,hf⟩:=any_k0 (tt:=mkT tt) (eq:=eq) (call:=call) (op:=o.op) hk0
        rw [hf]at hout ⊢
        cases hfe:f rc.e with
        |none=>simp only [hfe]at hout;rcases hout with h1 |⟨h1,_⟩<;>cases h1
        |some v=>
          simp only [hfe]at hout ⊢
          rcases hout with h1|⟨h1,_⟩
          · have h1:OR.val v (sts i).H (sts i).nx=OR.val rc.v (sts (i+1)).H (sts (i+1)).nx:=h1
            injection h1 with a b c
            subst a;rfl
          · cases h1
      refine any_wp htt heq hcall hs0 key fun u w' β' hE hs2 hu=>?_
      exact fin ho hst hE.mono hu (keep hE hs2.heap)
  · obtain⟨o,rc,t,a,x,r,y,ho,hrc,h1,h2,h3,h4,h5,h6,h7,h8,h9⟩:=tail_step h ht him hlt
    obtain⟨rc',hrc',hst⟩:=h.stp i o ho
    rw [hrc]at hrc';cases hrc'
    have hs0:SimC P K N β ⟨rc.e,H,(sts m).nx⟩ tmps w:=by rw [hst.re];exact hS.sim h hc hr ho htm hsim
    have hother:∀j rc',m≤j→j≠i→rcs[j]? = some rc'→tgt rc'≠some r:=by
      intro j rc' hmj hji hj hh
      obtain⟨p,q,g1,g2,g3⟩:=ht.diff j i rc' rc hmj him hji hj hrc
      rw [hh]at g1;rw [h6]at g2
      cases g1;cases g2;exact g3 rfl
    have hbase:H.at' r=(sts i).H.at' r:=by
      have e1:=(hH r).2 (by
        rintro ⟨j,rc',g1,g2,g3,g4⟩
        by_cases hji:j=i
        · subst hji;rw [hun]at g3;cases g3
        · exact hother j rc' g1 hji g2 g4)
      have e2:=(tail_at h ht (Nat.le_refl m) (q:=r) (i-m) (by omega) fun j rc' g1 g2 g3=>hother j rc' g1 (by omega) g3).1
      rw [show m+(i-m)=i by omega]at e2
      rw [e1,e2]
    have hlast:(sts opsA.size).H.at' r=some y:=by
      have e2:=(tail_at h ht (show m≤i+1 by omega) (q:=r) (opsA.size-(i+1)) (by omega) fun j rc' g1 g2 g3=>hother j rc' (by omega) (by omega) g3).1
      rw [show i+1+(opsA.size-(i+1))=opsA.size by omega]at e2
      rw [e2,h7,T.at_put,if_pos rfl]
    unfold wpOpIn
    simp only [ho]
    rw [wantC_ok hs0 hst.want,h4]
    simp only [if_true]
    refine any_wp htt heq hcall hs0 (h9 H (sts m).nx hbase) fun u w' β' hE hs2 hu=>?_
    refine fin ho hst hE.mono (by rw [h5];exact hu) ⟨⟨H.put r (some y),hs2.heap,fun q=>⟨?_,fun hn=>?_⟩⟩,hT.ext.trans hE,fun j oj hj hjm hkj=>getD_set_true (hT.lst j oj hj hjm hkj)⟩
    · rintro ⟨j,rc',g1,g2,g3,g4⟩
      by_cases hq:r=q
      · subst hq;rw [T.at_put,if_pos rfl,hlast]
      · have hji:i≠j:=by rintro rfl;rw [hrc]at g2;cases g2;rw [h6]at g4;exact hq (Option.some.inj g4)
        rw [getD_set_ne false hji]at g3
        rw [T.at_put,if_neg hq]
        exact(hH q).1 ⟨j,rc',g1,g2,g3,g4⟩
    · have hq:r≠q:=by
        rintro rfl
        exact hn ⟨i,rc,him,hrc,by rw [Array.getD_eq_getD_getElem?];simp [hszi],h6⟩
      rw [T.at_put,if_neg hq]
      exact(hH q).2 fun⟨j,rc',g1,g2,g3,g4⟩=>hn ⟨j,rc',g1,g2,getD_set_true g3,g4⟩
theorem draw_any(htt:TTok P tt=true)(heq:EqOk P tt eq)(hcall:CallOk P call)(h:TR (mkT tt) eq call N opsA m nx0 sts rcs)(ht:TlOk opsA m rcs)(hmn:m≤opsA.size)(hlen:rcs.length=opsA.size)
    (hread:∀rc,rc∈rcs→readOk (mkT tt) eq call (masksT opsA.toList 0 .e) rcs (sts opsA.size) opsA.size rc=true) {Q:Exit→Act→World→Prop}
    (hQ:∀tmps' w' β',Ext nx0 (sts opsA.size).nx β0 β'→SimC P K N β' (sts opsA.size) tmps' w'→Q .normal ⟨tmps',ds⟩ w'):
    ∀(n:Nat) (listed:Array Bool) (tmps:Array Value) (w:World) (β:Nat→Option BI),left listed≤n→ClosedL opsA listed→listed.size=opsA.size→Sl β opsA sts listed tmps→
      ((∃p,HInv P (mkT tt) K opsA nx0 sts rcs β0 β listed p w)∧(∀j,m≤j→listed.getD j false=false))∨Tl P (mkT tt) K opsA m nx0 sts rcs β0 β listed w→tmps.size=N→wpAnyIn (FW ρ) 0 P .any opsA Q n listed ⟨tmps,ds⟩ w:=by
  have stop:∀{listed:Array Bool} {tmps:Array Value} {w:World} {β:Nat→Option BI},Region.ready .any opsA listed=[]→listed.size=opsA.size→Sl β opsA sts listed tmps→
      ((∃p,HInv P (mkT tt) K opsA nx0 sts rcs β0 β listed p w)∧(∀j,m≤j→listed.getD j false=false))∨Tl P (mkT tt) K opsA m nx0 sts rcs β0 β listed w→tmps.size=N→Q .normal ⟨tmps,ds⟩ w:=by
    intro listed tmps w β hr hsz hS hv htm
    have hall:=fun i hi=>all_listed h.ord hsz hr (i+1) i (Nat.lt_succ_self _) hi
    have slots:∀t c,(sts opsA.size).env.at' t=some c→CR β (tmps.getD t undef) c:=fun t c ht=>hS t c opsA.size (Nat.le_refl _) ht fun j o hj _=>by
      have hj:=(Array.getElem?_eq_some_iff.1 hj).1
      simp [hj,hall j hj]
    rcases hv with⟨⟨p,hv⟩,hno⟩|hT
    · have hmn':opsA.size≤m:=by
        rcases Nat.lt_or_ge m opsA.size with h1|h1
        · have:=hall m h1;rw [hno m (Nat.le_refl _)]at this;cases this
        · exact h1
      obtain⟨p',hv',hx⟩:=HInv.norm h (opsA.size-p) p (by have:=hv.ple;omega) hv
      have hp':p'=opsA.size:=by
        rcases hx with hx|⟨o,h1,_,h3⟩
        · exact hx
        · rw [hall p' (Array.getElem?_eq_some_iff.1 h1).1]at h3;cases h3
      subst hp'
      exact hQ tmps w β hv'.ext ⟨htm,slots,hv'.sim.blk,hv'.sim.inj,hv'.sim.lt,hv'.sim.frame,hv'.sim.oo,hv'.sim.good⟩
    · obtain⟨H,hsim,hH⟩:=hT.sim
      have hnx:(sts opsA.size).nx=(sts m).nx:=by
        have:∀d,m+d≤opsA.size→(sts (m+d)).nx=(sts m).nx:=by
          intro d
          induction d with
          |zero=>intro _;rfl
          |succ d ih=>
            intro hd
            obtain⟨o,rc,t,ad,x,r,y,h1,h2,h3,h4,h5,h6,h7,h8,h9,h10,_⟩:=tail_step h ht (j:=m+d) (by omega) (by omega)
            rw [show m+(d+1)=m+d+1 by omega,h10,ih (by omega)]
        have:=this (opsA.size-m) (by omega)
        rwa [show m+(opsA.size-m)=opsA.size by omega]at this
      have hs2:SimC P K 0 β ⟨.e,(sts opsA.size).H,(sts m).nx⟩ #[] w:=hsim.congrH fun q=>by
        by_cases hq:∃j rc,m≤j∧rcs[j]? = some rc∧listed.getD j false=true∧tgt rc=some q
        · exact((hH q).1 hq).symm
        · rw [(hH q).2 hq]
          have:=(tail_at h ht (Nat.le_refl m) (q:=q) (opsA.size-m) (by omega) fun j rc g1 g2 g3 g4=>hq ⟨j,rc,g1,g3,hall j (by omega),g4⟩).1
          rwa [show m+(opsA.size-m)=opsA.size by omega]at this
      exact hQ tmps w β (by rw [hnx];exact hT.ext) ⟨htm,slots,hs2.blk,hs2.inj,fun r bi hb=>by rw [hnx];exact hs2.lt r bi hb,hs2.frame,hs2.oo,hs2.good⟩
  intro n
  induction n with
  |zero=>
    intro listed tmps w β hn hc hsz hS hv htm
    have hr:Region.ready .any opsA listed=[]:=by
      rw [List.eq_nil_iff_forall_not_mem]
      intro i hi
      have:=left_set (mem_ready.1 hi).1
      omega
    exact⟨hr,stop hr hsz hS hv htm⟩
  |succ n ih=>
    intro listed tmps w β hn hc hsz hS hv htm
    refine⟨fun hr=>stop hr hsz hS hv htm,fun i hi=>?_⟩
    have hleft:left (listed.setIfInBounds i true)≤n:=by have:=left_set (mem_ready.1 hi).1;omega
    have late:Tl P (mkT tt) K opsA m nx0 sts rcs β0 β listed w→wpOpIn (FW ρ) 0 P opsA Q i (wpAnyIn (FW ρ) 0 P .any opsA Q n (listed.setIfInBounds i true)) ⟨tmps,ds⟩ w:=fun hT=>
      tail_op htt heq hcall h ht hlen hc hsz hi hS hT htm fun tmps' w' β' ht' hS' hT'=>ih _ tmps' w' β' hleft (hc.set hi) (by simpa using hsz) hS' (.inr hT') ht'
    rcases hv with⟨⟨p,hv⟩,hno⟩|hT
    · rcases Nat.lt_or_ge i m with him|him
      · refine draw_op him htt heq hcall h hlen hread hc hsz hi hS hv htm fun tmps' w' β' p' ht' hS' hv'=>?_
        exact ih _ tmps' w' β' hleft (hc.set hi) (by simpa using hsz) hS' (.inl ⟨⟨p',hv'⟩,fun j hj=>by rw [getD_set_ne false (by omega)];exact hno j hj⟩) ht'
      · have hlt:i<opsA.size:=by have:=(unlisted_of_ready hi).2;omega
        have hall:∀(j:Nat) o,opsA[j]? = some o→j<m→1≤kindO o.op→listed.getD j false=true:=fun j o hj hjm hk=>
          h.done hc hi (ht.wait j i o hjm him hlt hj hk) (by omega)
        obtain⟨p',hv',hx⟩:=HInv.norm h (opsA.size-p) p (by have:=hv.ple;omega) hv
        have hom:opsA[m]? = some opsA[m]:=Array.getElem?_eq_getElem (by omega)
        have hkm:kindO opsA[m].op=2:=by
          obtain⟨t,a,x,h1,_⟩:=isSt_spec (ht.st m _ (Nat.le_refl _) hom)
          rw [h1];rfl
        have hp':p'=m:=by
          rcases Nat.lt_trichotomy p' m with h1|h1|h1
          · rcases hx with hx|⟨o,g1,g2,g3⟩
            · omega
            · rw [hall p' o g1 h1 (by omega)]at g3;cases g3
          · exact h1
          · have:=hv'.lst m _ hom h1 (by omega)
            rw [hno m (Nat.le_refl _)]at this;cases this
        subst hp'
        exact late ⟨⟨(sts p').H,hv'.sim,fun q=>⟨fun⟨j,rc,g1,_,g3,_⟩=>(by rw [hno j g1]at g3;cases g3),fun _=>rfl⟩⟩,hv'.ext,hall⟩
    · exact late hT
theorem tailAt_le(l:List Oper):∀(i m:Nat),m≤i→tailAt l i m≤i+l.length:=by
 induction l with
 |nil=>intro i m h;exact h
 |cons o l ih=>
  intro i m h
  have e:tailAt (o::l) i m=bif isSt o then tailAt l (i+1) m else tailAt l (i+1) (i+1):=rfl
  rw [e,Bool.cond_eq_ite,List.length_cons]
  split
  ·have:=ih (i+1) m (by omega);omega
  ·have:=ih (i+1) (i+1) (Nat.le_refl _);omega
theorem draw_wp(hm:P.follows .mixedOrders=true)(htt:TTok P tt=true)(heq:EqOk P tt eq)(hcall:CallOk P call){sN:S}(hs:drawC (mkT tt) eq call N opsA.toList s=some sN)(h:SimC P K N β s tmps w){Q:Exit→Act→World→Prop}
    (hQ:∀tmps' w' β',Ext s.nx sN.nx β β'→SimC P K N β' sN tmps' w'→Q .normal ⟨tmps',ds⟩ w') {id:Nat}:(Code.region id opsA true).wpIn (FW ρ) 0 P Q ⟨tmps,ds⟩ w:=by
  have hl:lenR opsA.toList=opsA.size:=by rw [lenR_eq];simp
  have go:∀m,m≤opsA.size→orderOk opsA.toList m=true→∀rcs,stepsT (mkT tt) eq call N opsA.toList s.nx opsA.toList 0 ⟨s.env,s.H,Nat.add s.nx (lenR opsA.toList)⟩=some (rcs,sN)→rcs.all (readOk (mkT tt) eq call (masksT opsA.toList 0 .e) rcs sN (lenR opsA.toList))=true→
      (m=opsA.size∨tailOk (masksT opsA.toList 0 .e) rcs m=true)→(Code.region id opsA true).wpIn (FW ρ) 0 P Q ⟨tmps,ds⟩ w:=by
    intro m hmn hord rcs hst hrd htl
    rw [hl]at hst hrd
    obtain⟨sts,h0,hN,hlen,hstp⟩:=stepsT_spec opsA.toList 0 _ _ _ hst
    rw [Array.length_toList]at hN
    have hlen:rcs.length=opsA.size:=by rw [hlen];simp
    subst hN
    have hstp':∀(i:Nat) o,opsA[i]? = some o→∃rc,rcs[i]? = some rc∧Stp (mkT tt) eq call N opsA.toList s.nx i (sts i) o rc (sts (i+1)):=fun i o hi=>by
      obtain⟨rc,h1,h2⟩:=hstp i o (by simpa using hi)
      rw [Nat.zero_add]at h2
      exact⟨rc,h1,h2⟩
    have hTR:TR (mkT tt) eq call N opsA m s.nx sts rcs:=⟨hstp',orderOk_spec hord⟩
    have hTl:TlOk opsA m rcs:=by
      rcases htl with rfl|htl
      · refine⟨fun j o h1 h2=>by have:=(Array.getElem?_eq_some_iff.1 h2).1;omega,fun i j o h1 h2 h3=>by omega,fun j j' rc rc' h1 h2 h3 h4=>by have:=(List.getElem?_eq_some_iff.1 h4).1;rw [hlen]at this;omega⟩
      · exact tailOk_spec hstp' hlen htl
    have hnl:∀j,(Array.replicate opsA.size false).getD j false=false:=fun j=>by
      rw [Array.getD_eq_getD_getElem?]
      by_cases hj:j<opsA.size<;>simp [hj]
    have e0:(sts 0).H=s.H∧(sts 0).nx=s.nx+opsA.size∧(sts 0).env=s.env:=by rw [h0];exact⟨rfl,rfl,rfl⟩
    refine wpIn_region_any hm (draw_any htt heq hcall hTR hTl hmn hlen (fun rc hrc=>List.all_eq_true.1 hrd rc hrc) (β0:=β) (K:=K) hQ opsA.size _ tmps _ β ?_ (fun j o _ hj=>by rw [hnl]at hj;cases hj) (by simp) ?_ (.inl ⟨⟨0,?_⟩,fun j _=>hnl j⟩) h.size)
    · unfold left
      exact Nat.le_trans (List.length_filter_le _ _) (by simp)
    · intro t c q hq ht hw
      have hsame:=hTR.same (t:=t) (a:=0) q (by omega) fun j o h1 h2 hj hd=>by
        have:=(hw j o hj hd).1 (by omega)
        rw [hnl]at this;cases this
      rw [Nat.zero_add]at hsame
      rw [hsame,e0.2.2]at ht
      exact h.slot t c ht
    · refine⟨Nat.zero_le _,?_,fun j o _ hj=>by omega,fun j o _ _ hj=>(by rw [hnl]at hj;cases hj),fun j o hj hk _=>?_,by rw [e0.2.1];exact Nat.le_refl _,⟨fun _ _ h=>h,fun _ _ h=>.inl h,by rw [e0.2.1];omega⟩,
        fun j o rc _ _ _ hj=>(by rw [hnl]at hj;cases hj),fun j j' o o' rc rc' bi bi' _ _ _ _ _ _ hj=>(by rw [hnl]at hj;cases hj)⟩
      · rw [e0.1,e0.2.1]
        exact⟨rfl,(fun t v ht=>by rw [T.at_e]at ht;cases ht),h.blk,h.inj,fun r bi hb=>by have:=h.lt r bi hb;simp only;omega,h.frame,h.oo,h.good⟩
      · cases hb:β (s.nx+j) with
        |none=>rfl
        |some b=>have:=h.lt _ _ hb;omega
  unfold drawC at hs
  rw [Bool.cond_eq_ite,Bool.cond_eq_ite]at hs
  split at hs
  · rename_i hord
    rw [hl]at hord
    split at hs
    case h_2=>cases hs
    rename_i rcs sN' hst
    rw [Bool.cond_eq_ite]at hs
    split at hs<;>cases hs
    rename_i hrd
    exact go opsA.size (Nat.le_refl _) hord rcs hst hrd (.inl rfl)
  · split at hs
    case isFalse=>cases hs
    rename_i hord
    split at hs
    case h_2=>cases hs
    rename_i rcs sN' hst
    rw [Bool.cond_eq_ite]at hs
    split at hs<;>cases hs
    rename_i hrd
    rw [Bool.and_eq_true]at hrd
    exact go _ (by have:=tailAt_le opsA.toList 0 0 (Nat.le_refl _);rw [Array.length_toList]at this;omega) hord rcs hst hrd.1 (.inr hrd.2)
end
end Go.Ab.Cm
namespace Go.Ab.Cm
noncomputable def renC(ρ:Nat→Option Nat)(fuel:Nat):CV→Option CV:=
 Nat.rec (motive:=fun _=>CV→Option CV) (fun _=>none) (fun _ ih c=>match c with
  |.ptr r off=>(ρ r).map fun q=>.ptr q off
  |.slc r off n c x k=>(ρ r).map fun q=>.slc q off n c x k
  |.agg cs=>(mapO ih cs).map .agg
  |.tup cs=>(mapO ih cs).map .tup
  |.iface t v=>(ih v).map (.iface t)
  |.fn f cs=>(mapO ih cs).map (.fn f)
  |.bfn f cs=>(mapO ih cs).map (.bfn f)
  |.yld _=>none
  |.map r=>(ρ r).map .map
  |.int k n=>some (.int k n)
  |.bool b=>some (.bool b)
  |.str l=>some (.str l)
  |.nilp=>some .nilp
  |.slz=>some .slz
  |.nils=>some .nils
  |.nili=>some .nili
  |.nilf=>some .nilf
  |.nilm=>some .nilm
  |.glb g=>some (.glb g)
  |.und=>some .und) fuel
theorem CR.ren{β β':Nat→Option BI}{ρ:Nat→Option Nat}(hρ:∀r q bi,ρ r=some q→β r=some bi→β' q=some bi):∀(n:Nat) {v:Value} {c c':CV},renC ρ n c=some c'→CR β v c→CR β' v c'
 | 0,v,c,c',h,_=>by cases h
 |n+1,v,c,c',h,hv=>by
  have hL:∀{vs:List Value} {cs cs':List CV},mapO (renC ρ n) cs=some cs'→vs.length=cs.length→(∀(i:Nat) v c,vs[i]? = some v→cs[i]? = some c→CR β v c)→vs.length=cs'.length∧∀(i:Nat) v c,vs[i]? = some v→cs'[i]? = some c→CR β' v c:=by
   intro vs cs cs' hm hl hr
   obtain⟨g1,g2⟩:=mapO_get hm
   refine⟨by omega,fun i v c hv hc=>?_⟩
   have hi:i<cs.length:=by have:=(List.getElem?_eq_some_iff.1 hc).1;omega
   have hx:cs[i]? = some cs[i]:=List.getElem?_eq_getElem hi
   exact CR.ren hρ n (g2 i _ c hx hc) (hr i v _ hv hx)
  cases hv with
  |int k m=>cases h;exact .int k m
  |bool b=>cases h;exact .bool b
  |str l=>cases h;exact .str l
  |ptr r off bi hb=>
   have h:(ρ r).map (fun q=>CV.ptr q off)=some c':=h
   rw [Option.map_eq_some_iff]at h
   obtain⟨q,hq,rfl⟩:=h
   exact .ptr q off bi (hρ r q bi hq hb)
  |nilp=>cases h;exact .nilp
  |slc r off m c c2 k x bi hb hn hc hx hL=>
   have h:(ρ r).map (fun q=>CV.slc q off m c x k)=some c':=h
   rw [Option.map_eq_some_iff]at h
   obtain⟨q,hq,rfl⟩:=h
   exact .slc q off m c c2 k x bi (hρ r q bi hq hb) hn hc hx hL
  |slz a c=>cases h;exact .slz a c
  |nils=>cases h;exact .nils
  |agg vs cs hn h1 hr=>
   have h:(mapO (renC ρ n) cs).map CV.agg=some c':=h
   rw [Option.map_eq_some_iff]at h
   obtain⟨cs',hm,rfl⟩:=h
   obtain⟨g1,g2⟩:=hL hm hn hr
   exact .agg vs cs' g1 h1 g2
  |tup vs cs hn hr=>
   have h:(mapO (renC ρ n) cs).map CV.tup=some c':=h
   rw [Option.map_eq_some_iff]at h
   obtain⟨cs',hm,rfl⟩:=h
   obtain⟨g1,g2⟩:=hL hm hn hr
   exact .tup vs cs' g1 g2
  |iface t v c hr=>
   have h:(renC ρ n c).map (CV.iface t)=some c':=h
   rw [Option.map_eq_some_iff]at h
   obtain⟨c2,hm,rfl⟩:=h
   exact .iface t v c2 (CR.ren hρ n hm hr)
  |nili=>cases h;exact .nili
  |fn f vs cs hn hr=>
   have h:(mapO (renC ρ n) cs).map (CV.fn f)=some c':=h
   rw [Option.map_eq_some_iff]at h
   obtain⟨cs',hm,rfl⟩:=h
   obtain⟨g1,g2⟩:=hL hm hn hr
   exact .fn f vs cs' g1 g2
  |bfn f vs cs hn hr=>
   have h:(mapO (renC ρ n) cs).map (CV.bfn f)=some c':=h
   rw [Option.map_eq_some_iff]at h
   obtain⟨cs',hm,rfl⟩:=h
   obtain⟨g1,g2⟩:=hL hm hn hr
   exact .bfn f vs cs' g1 g2
  |yld r bi hb=>cases h
  |nilf=>cases h;exact .nilf
  |map r bi hb=>
   have h:(ρ r).map CV.map=some c':=h
   rw [Option.map_eq_some_iff]at h
   obtain⟨q,hq,rfl⟩:=h
   exact .map q bi (hρ r q bi hq hb)
  |nilm=>cases h;exact .nilm
  |glb g=>cases h;exact .glb g
  |und=>cases h;exact .und
theorem CR.unren{β β':Nat→Option BI}{ρ:Nat→Option Nat}(hρ:∀r q bi,ρ r=some q→β' q=some bi→β r=some bi):∀(n:Nat) {v:Value} {c c':CV},renC ρ n c=some c'→CR β' v c'→CR β v c
 | 0,v,c,c',h,_=>by cases h
 |n+1,v,c,c',h,hv=>by
  have hL:∀{vs:List Value} {cs cs':List CV},mapO (renC ρ n) cs=some cs'→vs.length=cs'.length→(∀(i:Nat) v c,vs[i]? = some v→cs'[i]? = some c→CR β' v c)→vs.length=cs.length∧∀(i:Nat) v c,vs[i]? = some v→cs[i]? = some c→CR β v c:=by
   intro vs cs cs' hm hl hr
   obtain⟨g1,g2⟩:=mapO_get hm
   refine⟨by omega,fun i v c hv hc=>?_⟩
   have hi:i<cs'.length:=by have:=(List.getElem?_eq_some_iff.1 hc).1;omega
   have hx:cs'[i]? = some cs'[i]:=List.getElem?_eq_getElem hi
   exact CR.unren hρ n (g2 i c _ hc hx) (hr i v _ hv hx)
  cases c with
  |int k m=>cases h;cases hv;exact .int k m
  |bool b=>cases h;cases hv;exact .bool b
  |str l=>cases h;cases hv;exact .str l
  |ptr r off=>
   have h:(ρ r).map (fun q=>CV.ptr q off)=some c':=h
   rw [Option.map_eq_some_iff]at h
   obtain⟨q,hq,rfl⟩:=h
   cases hv with
   |ptr _ _ bi hb=>exact .ptr r off bi (hρ r q bi hq hb)
  |nilp=>cases h;cases hv;exact .nilp
  |slc r off m c x k=>
   have h:(ρ r).map (fun q=>CV.slc q off m c x k)=some c':=h
   rw [Option.map_eq_some_iff]at h
   obtain⟨q,hq,rfl⟩:=h
   cases hv with
   |slc _ _ _ _ c2 _ _ bi hb hn hc hx hL=>exact .slc r off m c c2 k x bi (hρ r q bi hq hb) hn hc hx hL
  |slz=>cases h;cases hv;exact .slz _ _
  |nils=>cases h;cases hv;exact .nils
  |agg cs=>
   have h:(mapO (renC ρ n) cs).map CV.agg=some c':=h
   rw [Option.map_eq_some_iff]at h
   obtain⟨cs',hm,rfl⟩:=h
   cases hv with
   |agg vs _ hn h1 hr=>obtain⟨g1,g2⟩:=hL hm hn hr;exact .agg vs cs g1 h1 g2
  |tup cs=>
   have h:(mapO (renC ρ n) cs).map CV.tup=some c':=h
   rw [Option.map_eq_some_iff]at h
   obtain⟨cs',hm,rfl⟩:=h
   cases hv with
   |tup vs _ hn hr=>obtain⟨g1,g2⟩:=hL hm hn hr;exact .tup vs cs g1 g2
  |iface t c=>
   have h:(renC ρ n c).map (CV.iface t)=some c':=h
   rw [Option.map_eq_some_iff]at h
   obtain⟨c2,hm,rfl⟩:=h
   cases hv with
   |iface _ v _ hr=>exact .iface t v c (CR.unren hρ n hm hr)
  |nili=>cases h;cases hv;exact .nili
  |fn f cs=>
   have h:(mapO (renC ρ n) cs).map (CV.fn f)=some c':=h
   rw [Option.map_eq_some_iff]at h
   obtain⟨cs',hm,rfl⟩:=h
   cases hv with
   |fn _ vs _ hn hr=>obtain⟨g1,g2⟩:=hL hm hn hr;exact .fn f vs cs g1 g2
  |bfn f cs=>
   have h:(mapO (renC ρ n) cs).map (CV.bfn f)=some c':=h
   rw [Option.map_eq_some_iff]at h
   obtain⟨cs',hm,rfl⟩:=h
   cases hv with
   |bfn _ vs _ hn hr=>obtain⟨g1,g2⟩:=hL hm hn hr;exact .bfn f vs cs g1 g2
  |yld r=>cases h
  |nilf=>cases h;cases hv;exact .nilf
  |map r=>
   have h:(ρ r).map CV.map=some c':=h
   rw [Option.map_eq_some_iff]at h
   obtain⟨q,hq,rfl⟩:=h
   cases hv with
   |map _ bi hb=>exact .map r bi (hρ r q bi hq hb)
  |nilm=>cases h;cases hv;exact .nilm
  |glb g=>cases h;cases hv;exact .glb g
  |und=>cases h;cases hv;exact .und
noncomputable def renK(ρ:Nat→Option Nat)(y:Nat×CV):Option (Nat×CV):=Option.rec (motive:=fun _=>Option (Nat×CV)) none (fun c=>some (y.1,c)) (renC ρ 1000 y.2)
noncomputable def renR(ρ:Nat→Option Nat)(x:MR):Option MR:=match ρ x.r,mapO (renK ρ) x.cs with
 |some q,some cs=>some ⟨q,x.n,cs,x.t⟩
 |_,_=>none
theorem renK_some{ρ:Nat→Option Nat}{y z:Nat×CV}(h:renK ρ y=some z):z.1=y.1∧renC ρ 1000 y.2=some z.2:=by
 unfold renK at h
 cases hc:renC ρ 1000 y.2 with
 |none=>rw [hc]at h;cases h
 |some c=>rw [hc]at h;cases h;exact⟨rfl,rfl⟩
theorem renR_some{ρ:Nat→Option Nat}{x y:MR}(h:renR ρ x=some y):ρ x.r=some y.r∧y.n=x.n∧y.t=x.t∧mapO (renK ρ) x.cs=some y.cs:=by
 unfold renR at h
 split at h
 case h_2=>cases h
 rename_i q cs hq hc
 cases h
 exact⟨hq,rfl,rfl,hc⟩
theorem mapO_cons{α γ:Type}{f:α→Option γ}{x:α}{l:List α}{l':List γ}(h:mapO f (x::l)=some l'):∃y ys,f x=some y∧mapO f l=some ys∧l'=y::ys:=by
 have e:mapO f (x::l)=match f x,mapO f l with|some y,some ys=>some (y::ys)|_,_=>none:=by
  have e0:mapO f (x::l)=Option.rec (motive:=fun _=>Option (List γ)) none (fun y=>Option.rec (motive:=fun _=>Option (List γ)) none (fun ys=>some (y::ys)) (mapO f l)) (f x):=rfl
  rw [e0];cases f x<;>cases mapO f l<;>rfl
 rw [e]at h
 split at h
 case h_2=>cases h
 rename_i y ys h1 h2
 cases h
 exact⟨y,ys,h1,h2,rfl⟩
theorem renL_look{ρ:Nat→Option Nat}:∀{l l1:List (Nat×CV)},mapO (renK ρ) l=some l1→∀i,(∀v,look l i=some v→∃v1,look l1 i=some v1∧renC ρ 1000 v=some v1)∧(∀v1,look l1 i=some v1→∃v,look l i=some v∧renC ρ 1000 v=some v1)
 |[],l1,h,i=>by cases h;exact⟨fun v h=>(by cases h),fun v h=>(by cases h)⟩
 |x::l,l1,h,i=>by
  obtain⟨y,ys,h1,h2,rfl⟩:=mapO_cons h
  obtain⟨e1,e2⟩:=renK_some h1
  obtain⟨j,c⟩:=x
  obtain⟨j1,c1⟩:=y
  have e1:j1=j:=e1
  have e2:renC ρ 1000 c=some c1:=e2
  subst e1
  rw [look_cons,look_cons]
  by_cases hj:j1=i
  ·rw [if_pos hj,if_pos hj]
   exact⟨fun v h=>by cases h;exact⟨_,rfl,e2⟩,fun v h=>by cases h;exact⟨_,rfl,e2⟩⟩
  ·rw [if_neg hj,if_neg hj]
   exact renL_look h2 i
theorem BOk.unren{β β':Nat→Option BI}{ρ:Nat→Option Nat}(hρ:∀r q bi,ρ r=some q→β' q=some bi→β r=some bi){w:World}{bi:BI}{x y:MR}(h:renR ρ x=some y)(hy:BOk β' w bi y.blk.2):BOk β w bi x.blk.2:=by
 obtain⟨_,h2,h3,h4⟩:=renR_some h
 obtain⟨vs,T,g1,g2,g3,g4,g5,g6⟩:=hy
 refine⟨vs,T,g1,g2,by rw [←h2];exact g3,g4,fun i v hi=>?_,by rw [←h2,←h3];exact g6⟩
 rw [mkT_at]at hi
 obtain⟨v1,k1,k2⟩:=(renL_look h4 i).1 v hi
 obtain⟨k3,u,k4,k5⟩:=g5 i v1 (by rw [mkT_at];exact k1)
 exact⟨by rw [←h2];exact k3,u,k4,k5.unren hρ 1000 k2⟩
theorem BOk.ren{β β':Nat→Option BI}{ρ:Nat→Option Nat}(hρ:∀r q bi,ρ r=some q→β r=some bi→β' q=some bi){w:World}{bi:BI}{x y:MR}(h:renR ρ x=some y)(hx:BOk β w bi x.blk.2):BOk β' w bi y.blk.2:=by
 obtain⟨_,h2,h3,h4⟩:=renR_some h
 obtain⟨vs,T,g1,g2,g3,g4,g5,g6⟩:=hx
 refine⟨vs,T,g1,g2,by rw [h2];exact g3,g4,fun i v1 hi=>?_,by rw [h2,h3];exact g6⟩
 rw [mkT_at]at hi
 obtain⟨v,k1,k2⟩:=(renL_look h4 i).2 v1 hi
 obtain⟨k3,u,k4,k5⟩:=g5 i v (by rw [mkT_at];exact k1)
 exact⟨by rw [h2];exact k3,u,k4,k5.ren hρ 1000 k2⟩
noncomputable def notIn(x:Nat)(l:List MR):Bool:=List.rec (motive:=fun _=>Bool) true (fun y _ ih=>Bool.rec (motive:=fun _=>Bool) ih false (Nat.beq x y.r)) l
noncomputable def distN(l:List MR):Bool:=List.rec (motive:=fun _=>Bool) true (fun x l ih=>Bool.rec (motive:=fun _=>Bool) false ih (notIn x.r l)) l
theorem notIn_spec{x:Nat}:∀{l:List MR},notIn x l=true→∀y,y∈l→x≠y.r
 |[],_,y,h=>by cases h
 |z::l,h,y,hy=>by
  have e:notIn x (z::l)=Bool.rec (motive:=fun _=>Bool) (notIn x l) false (Nat.beq x z.r):=rfl
  rw [e]at h
  cases hb:Nat.beq x z.r with
  |true=>rw [hb]at h;cases h
  |false=>
   rw [hb]at h
   rcases List.mem_cons.1 hy with rfl|hy
   ·intro hh;rw [hh]at hb;simp at hb
   ·exact notIn_spec h y hy
theorem distN_spec:∀{l:List MR},distN l=true→∀(i j:Nat) x y,l[i]? = some x→l[j]? = some y→x.r=y.r→i=j
 |[],_,i,j,x,y,h,_,_=>by simp at h
 |z::l,h,i,j,x,y,hx,hy,hr=>by
  have e:distN (z::l)=Bool.rec (motive:=fun _=>Bool) false (distN l) (notIn z.r l):=rfl
  rw [e]at h
  cases hb:notIn z.r l with
  |false=>rw [hb]at h;cases h
  |true=>
   rw [hb]at h
   have hn:=notIn_spec hb
   cases i with
   |zero=>cases j with
    |zero=>rfl
    |succ j=>
     simp at hx hy
     subst hx
     exact absurd hr (hn y (List.mem_of_getElem? hy))
   |succ i=>cases j with
    |zero=>
     simp at hx hy
     subst hy
     exact absurd hr.symm (hn x (List.mem_of_getElem? hx))
    |succ j=>
     simp at hx hy
     rw [distN_spec h i j x y hx hy hr]
theorem rowsOf_at{l:List MR}{r:Nat}{x:Blk}(h:(rowsOf l).at' r=some x):∃(i:Nat) (y:MR),l[i]? = some y∧y.r=r∧y.blk.2=x:=by
 unfold rowsOf at h
 rw [mkT_at]at h
 obtain⟨y,hy,he⟩:=List.mem_map.1 (look_mem h)
 obtain⟨i,hi⟩:=List.getElem?_of_mem hy
 exact⟨i,y,hi,congrArg Prod.fst he,congrArg Prod.snd he⟩
theorem rowsOf_get{l:List MR}(hd:∀(i j:Nat) x y,l[i]? = some x→l[j]? = some y→x.r=y.r→i=j){i:Nat}{y:MR}(hi:l[i]? = some y):(rowsOf l).at' y.r=some y.blk.2:=by
 have key:∀(k:List (Nat×Blk)) (r:Nat) (b:Blk),(r,b)∈k→∃b',look k r=some b':=by
  intro k
  induction k with
  |nil=>intro r b h;cases h
  |cons a k ih=>
   intro r b h
   obtain⟨a1,a2⟩:=a
   rw [look_cons]
   by_cases ha:a1=r
   ·rw [if_pos ha];exact⟨_,rfl⟩
   ·rw [if_neg ha]
    rcases List.mem_cons.1 h with h|h
    ·cases h;exact absurd rfl ha
    ·exact ih r b h
 have hm:(y.r,y.blk.2)∈l.map MR.blk:=List.mem_map.2 ⟨y,List.mem_of_getElem? hi,rfl⟩
 obtain⟨b,hb⟩:=key _ _ _ hm
 have hb':(rowsOf l).at' y.r=some b:=by unfold rowsOf;rw [mkT_at];exact hb
 obtain⟨j,z,h1,h2,h3⟩:=rowsOf_at hb'
 have:=hd i j y z hi h1 h2.symm
 subst this
 rw [hi]at h1
 cases h1
 rw [hb',h3]
end Go.Ab.Cm
namespace Go.Ab.Cm
noncomputable def cellsIn(cs:T CV)(l:List (Nat×CV)):Bool:=
 List.rec (motive:=fun _=>Bool) true (fun x _ ih=>match cs.at' x.1 with|some c=>Bool.rec (motive:=fun _=>Bool) false ih (eqCV 1000 c x.2)|none=>false) l
noncomputable def rowIn(H:T Blk)(x:MR):Bool:=match H.at' x.r with
 |some (.row n cs t)=>Nat.beq n x.n&&(Nat.beq t x.t&&cellsIn cs x.cs)
 |_=>false
noncomputable def rowsIn(H:T Blk)(l:List MR):Bool:=List.rec (motive:=fun _=>Bool) true (fun x _ ih=>Bool.rec (motive:=fun _=>Bool) false ih (rowIn H x)) l
def WkB:Blk→Blk→Prop
 |.row n cs t,.row n' cs' t'=>n=n'∧t=t'∧∀i v,cs.at' i=some v→cs'.at' i=some v
 |_,_=>False
def WkH(H H':T Blk):Prop:=∀r x,H.at' r=some x→∃x',H'.at' r=some x'∧WkB x x'
theorem WkB.ok{β:Nat→Option BI}{w:World}{bi:BI}{x x':Blk}(hw:WkB x x')(h:BOk β w bi x'):BOk β w bi x:=by
 cases x<;>cases x'<;>simp only [WkB]at hw
 obtain⟨rfl,rfl,h3⟩:=hw
 obtain⟨vs,T,g1,g2,g3,g4,g5,g6⟩:=h
 exact⟨vs,T,g1,g2,g3,g4,fun i v hi=>g5 i v (h3 i v hi),g6⟩
theorem cellsIn_spec{cs:T CV}:∀{l:List (Nat×CV)},cellsIn cs l=true→∀i v,look l i=some v→cs.at' i=some v
 |[],_,i,v,h=>by simp [look]at h
 |x::l,hc,i,v,h=>by
  have e:cellsIn cs (x::l)=match cs.at' x.1 with|some c=>Bool.rec (motive:=fun _=>Bool) false (cellsIn cs l) (eqCV 1000 c x.2)|none=>false:=rfl
  rw [e]at hc
  split at hc
  case h_2=>cases hc
  rename_i c hcc
  cases hq:eqCV 1000 c x.2 with
  |false=>rw [hq]at hc;cases hc
  |true=>
   rw [hq]at hc
   obtain⟨j,y⟩:=x
   rw [look_cons]at h
   split at h
   ·rename_i hj
    cases h
    subst hj
    rw [hcc,eqCV_spec _ hq]
   ·exact cellsIn_spec hc i v h
theorem rowsIn_mem{H:T Blk}:∀{l:List MR},rowsIn H l=true→∀x,x∈l→rowIn H x=true
 |[],_,x,h=>by cases h
 |y::l,hc,x,h=>by
  have e:rowsIn H (y::l)=Bool.rec (motive:=fun _=>Bool) false (rowsIn H l) (rowIn H y):=rfl
  rw [e]at hc
  cases hq:rowIn H y with
  |false=>rw [hq]at hc;cases hc
  |true=>
   rw [hq]at hc
   rcases List.mem_cons.1 h with rfl|h
   ·exact hq
   ·exact rowsIn_mem hc x h
theorem rowsIn_spec{H:T Blk}{l:List MR}(h:rowsIn H l=true):WkH (rowsOf l) H:=by
 intro r x hx
 unfold rowsOf at hx
 rw [mkT_at]at hx
 obtain⟨y,hy,he⟩:=List.mem_map.1 (look_mem hx)
 unfold MR.blk at he
 cases he
 have:=rowsIn_mem h y hy
 unfold rowIn at this
 split at this
 case h_2=>cases this
 rename_i n cs t hq
 simp only [Bool.and_eq_true,Nat.beq_eq]at this
 obtain⟨rfl,rfl,h3⟩:=this
 refine⟨_,hq,rfl,rfl,fun i v hi=>?_⟩
 rw [mkT_at]at hi
 exact cellsIn_spec h3 i v hi
section
variable {P:Program} {K:Ctx} {N:Nat} {β:Nat→Option BI} {s:S} {tmps:Array Value} {w:World}
noncomputable def delL(l:List MR)(H:T Blk):T Blk:=List.rec (motive:=fun _=>T Blk) H (fun x _ ih=>ih.put x.r none) l
noncomputable def addL(l:List MR)(H:T Blk):T Blk:=List.rec (motive:=fun _=>T Blk) H (fun x _ ih=>ih.put x.r (some (.row x.n (mkT x.cs) x.t))) l
theorem delL_at(H:T Blk)(j:Nat):∀l:List MR,(delL l H).at' j=if(rowsOf l).at' j=none then H.at' j else none
 |[]=>by
  have:rowsOf [] = .e:=rfl
  rw [this,T.at_e,if_pos rfl];rfl
 |x::l=>by
  have e:delL (x::l) H=(delL l H).put x.r none:=rfl
  have e2:rowsOf (x::l)=(rowsOf l).put x.r (some (.row x.n (mkT x.cs) x.t)):=rfl
  rw [e,e2,T.at_put,T.at_put]
  by_cases hj:x.r=j
  ·rw [if_pos hj,if_pos hj,if_neg (by simp)]
  ·rw [if_neg hj,if_neg hj,delL_at H j l]
theorem addL_at(H:T Blk)(j:Nat):∀l:List MR,(addL l H).at' j=match(rowsOf l).at' j with|some x=>some x|none=>H.at' j
 |[]=>by
  have:rowsOf [] = .e:=rfl
  rw [this,T.at_e];rfl
 |x::l=>by
  have e:addL (x::l) H=(addL l H).put x.r (some (.row x.n (mkT x.cs) x.t)):=rfl
  have e2:rowsOf (x::l)=(rowsOf l).put x.r (some (.row x.n (mkT x.cs) x.t)):=rfl
  rw [e,e2,T.at_put,T.at_put]
  by_cases hj:x.r=j
  ·rw [if_pos hj,if_pos hj]
  ·rw [if_neg hj,if_neg hj,addL_at H j l]
theorem SimC.weak(h:SimC P K N β s tmps w){H:T Blk}(hw:WkH H s.H):SimC P K N β ⟨s.env,H,s.nx⟩ tmps w:=
 ⟨h.size,h.slot,fun r x hr=>by
  obtain⟨x',h1,h2⟩:=hw r x hr
  obtain⟨bi,g1,g2,g3⟩:=h.blk r x' h1
  exact⟨bi,g1,g2,h2.ok g3⟩,fun r r' x x' bi bi' hr hr' hb hb' he=>by
  obtain⟨y,h1,_⟩:=hw r x hr
  obtain⟨y',h1',_⟩:=hw r' x' hr'
  exact h.inj r r' y y' bi bi' h1 h1' hb hb' he,h.lt,h.frame,h.oo,h.good⟩
theorem CCalls.weak{f:FuncId}{args:List CV}{H:T Blk}{nx:Nat}{n:New}(h:CCalls P f args H nx n){H':T Blk}(hw:WkH H' n.H):CCalls P f args H nx ⟨n.v,H',n.nx⟩:=
 ⟨h.1,fun K w vs β hl ha hs=>(h.2 K w vs β hl ha hs).mono fun _ _ ⟨u,β',h1,h2,h3,h4⟩=>⟨u,β',h1,h2,h3.weak hw,h4⟩⟩
theorem CCalls.frame{f:FuncId}{args:List CV}{l l':List MR}{nx nx':Nat}{v:CV}(h:CCalls P f args (rowsOf l) nx ⟨v,rowsOf l',nx'⟩){H:T Blk}(hw:WkH (rowsOf l) H):CCalls P f args H nx ⟨v,addL l' (delL l H),nx'⟩:=by
 refine⟨h.1,fun K w vs β hl ha hs=>?_⟩
 classical
 -- blocks of the other rows
 let sp:Nat→Prop:=fun b=>∃r x bi,H.at' r=some x∧(rowsOf l).at' r=none∧β r=some bi∧bi.b=b
 let K0:Ctx:={K with F:=fun b=>if sp b then w.heap[b]? else K.F b}
 have hK0:∀b,¬ sp b→K0.F b=K.F b:=fun b hb=>if_neg hb
 have hK1:∀b,sp b→K0.F b=w.heap[b]? := fun b hb=>if_pos hb
 have hsw:=hs.weak (H:=rowsOf l) hw
 have h0:SimC P K0 0 β ⟨.e,rowsOf l,nx⟩ #[] w:=by
  refine⟨hs.size,hs.slot,fun r x hr=>?_,hsw.inj,hs.lt,fun b ob hb=>?_,hs.oo,hs.good.mono fun b ob hb=>(by
   by_cases hh:sp b
   ·rw [hK1 b hh];exact hs.frame b ob hb
   ·rw [hK0 b hh];exact hb)⟩
  ·obtain⟨bi,g1,g2,g3⟩:=hsw.blk r x hr
   refine⟨bi,g1,?_,g3⟩
   rw [hK0 _ ?_]
   ·exact g2
   ·rintro ⟨r',x',bi',k1,k2,k3,k4⟩
    obtain⟨y,k5,_⟩:=hw r x hr
    have:=hs.inj r' r x' y bi' bi k1 k5 k3 g1 k4
    subst this
    rw [k2]at hr;cases hr
  ·by_cases hb':sp b
   ·rw [hK1 b hb']at hb;exact hb
   ·rw [hK0 b hb']at hb;exact hs.frame b ob hb
 refine(h.2 K0 w vs β hl ha h0).mono ?_
 rintro e w' ⟨u,β',he,hE,hS,hv⟩
 refine⟨u,β',he,hE,?_,hv⟩
 -- the rows behind it
 have hat:∀r x,(addL l' (delL l H)).at' r=some x→(rowsOf l').at' r=some x∨(H.at' r=some x∧(rowsOf l).at' r=none):=by
  intro r x hr
  rw [addL_at]at hr
  split at hr
  ·rename_i y hy;cases hr;exact .inl hy
  ·rw [delL_at]at hr
   split at hr
   ·rename_i h1;exact .inr ⟨hr,h1⟩
   ·cases hr
 have hold:∀r x,H.at' r=some x→(rowsOf l).at' r=none→∃bi,β r=some bi∧β' r=some bi∧K.F bi.b=none∧sp bi.b∧BOk β' w' bi x:=by
  intro r x h1 h2
  obtain⟨bi,g1,g2,g3⟩:=hs.blk r x h1
  have hsp:sp bi.b:=⟨r,x,bi,h1,h2,g1,rfl⟩
  obtain⟨ob,hob⟩:=g3.ob
  have hw':w'.heap[bi.b]? = some ob:=hS.frame bi.b ob (by rw [hK1 _ hsp];exact hob)
  exact⟨bi,g1,hE.mono _ _ g1,g2,hsp,g3.keep hE.mono (by rw [hw',hob])⟩
 have hnew:∀r x,(rowsOf l').at' r=some x→∃bi,β' r=some bi∧K.F bi.b=none∧¬ sp bi.b∧BOk β' w' bi x:=by
  intro r x h1
  obtain⟨bi,g1,g2,g3⟩:=hS.blk r x h1
  have hns:¬ sp bi.b:=fun hh=>by
   have g2:K0.F bi.b=none:=g2
   rw [hK1 _ hh]at g2
   obtain⟨r',x',bi',k1,k2,k3,k4⟩:=hh
   obtain⟨bi2,p1,_,p3⟩:=hs.blk r' x' k1
   rw [k3]at p1;cases p1
   obtain⟨ob,hob⟩:=p3.ob
   rw [k4,g2]at hob;cases hob
  exact⟨bi,g1,by rw [←hK0 _ hns];exact g2,hns,g3⟩
 refine⟨rfl,(fun t v ht=>by rw [T.at_e]at ht;cases ht),fun r x hr=>?_,fun r r' x x' bi bi' hr hr' hb hb' hbb=>?_,hS.lt,fun b ob hb=>?_,hS.oo,hs.good⟩
 ·rcases hat r x hr with h1|⟨h1,h2⟩
  ·obtain⟨bi,g1,g2,_,g3⟩:=hnew r x h1;exact⟨bi,g1,g2,g3⟩
  ·obtain⟨bi,_,g1,g2,_,g3⟩:=hold r x h1 h2;exact⟨bi,g1,g2,g3⟩
 ·rcases hat r x hr with h1|⟨h1,h2⟩<;>rcases hat r' x' hr' with k1|⟨k1,k2⟩
  ·exact hS.inj r r' x x' bi bi' h1 k1 hb hb' hbb
  ·obtain⟨b1,g1,_,g3,_⟩:=hnew r x h1
   obtain⟨b2,_,q1,_,q3,_⟩:=hold r' x' k1 k2
   rw [hb]at g1;cases g1
   rw [hb']at q1;cases q1
   rw [hbb]at g3;exact absurd q3 g3
  ·obtain⟨b1,g1,_,g3,_⟩:=hnew r' x' k1
   obtain⟨b2,_,q1,_,q3,_⟩:=hold r x h1 h2
   rw [hb']at g1;cases g1
   rw [hb]at q1;cases q1
   rw [←hbb]at g3;exact absurd q3 g3
  ·obtain⟨b1,p0,p1,_⟩:=hold r x h1 h2
   obtain⟨b2,q0,q1,_⟩:=hold r' x' k1 k2
   rw [hb]at p1;cases p1
   rw [hb']at q1;cases q1
   exact hs.inj r r' x x' bi bi' h1 k1 p0 q0 hbb
 ·refine hS.frame b ob ?_
  rw [hK0 b ?_]
  ·exact hb
  ·rintro ⟨r,x,bi,k1,k2,k3,k4⟩
   obtain⟨bi2,p1,p2,_⟩:=hs.blk r x k1
   rw [k3]at p1;cases p1
   rw [k4,hb]at p2;cases p2
noncomputable def inN(μ:T Nat)(nx r:Nat):Option Nat:=Bool.rec (motive:=fun _=>Option Nat) none (μ.at' r) (Nat.ble (Nat.succ r) nx)
theorem inN_lt{μ:T Nat}{nx r q:Nat}(h:inN μ nx r=some q):r<nx∧μ.at' r=some q:=by
 unfold inN at h
 cases hb:Nat.ble (Nat.succ r) nx with
 |false=>rw [hb]at h;cases h
 |true=>rw [hb]at h;exact⟨Nat.le_of_ble_eq_true hb,h⟩
noncomputable def outN(μ:T Nat)(kp:List (Nat×Nat))(nx1 o:Nat):Option Nat:=match look kp o with
 |some i=>μ.at' i
 |none=>some (Nat.add nx1 o)
noncomputable def canN(μ:T Nat)(kp:List (Nat×Nat))(nx b o:Nat):Option Nat:=Bool.rec (motive:=fun _=>Option Nat) none (match look kp o with
 |some i=>Bool.rec (motive:=fun _=>Option Nat) none (some i) (Nat.ble (Nat.succ i) nx)
 |none=>μ.at' o) (Nat.ble (Nat.succ o) b)
theorem canN_lt{μ:T Nat}{kp:List (Nat×Nat)}{nx b o q:Nat}(h:canN μ kp nx b o=some q):o<b∧∀i,look kp o=some i→i<nx∧q=i:=by
 unfold canN at h
 cases hb:Nat.ble (Nat.succ o) b with
 |false=>rw [hb]at h;cases h
 |true=>
  rw [hb]at h
  refine⟨Nat.le_of_ble_eq_true hb,fun i hi=>?_⟩
  rw [hi]at h
  cases hc:Nat.ble (Nat.succ i) nx with
  |false=>
   have h:Bool.rec (motive:=fun _=>Option Nat) none (some i) (Nat.ble (Nat.succ i) nx)=some q:=h
   rw [hc]at h;cases h
  |true=>
   have h:Bool.rec (motive:=fun _=>Option Nat) none (some i) (Nat.ble (Nat.succ i) nx)=some q:=h
   rw [hc]at h
   cases h
   exact⟨Nat.le_of_ble_eq_true hc,rfl⟩
theorem dist_back{ρ:Nat→Option Nat}{l l1:List MR}(hl:mapO (renR ρ) l=some l1)(hd:distN l1=true):∀(i j:Nat) x y,l[i]? = some x→l[j]? = some y→x.r=y.r→i=j:=by
 intro i j x y hx hy hr
 obtain⟨g1,g2⟩:=mapO_get hl
 have hi:i<l.length:=(List.getElem?_eq_some_iff.1 hx).1
 have hj:j<l.length:=(List.getElem?_eq_some_iff.1 hy).1
 have h1:l1[i]? = some l1[i]:=List.getElem?_eq_getElem (by omega)
 have h2:l1[j]? = some l1[j]:=List.getElem?_eq_getElem (by omega)
 have e1:=(renR_some (g2 i x _ hx h1)).1
 have e2:=(renR_some (g2 j y _ hy h2)).1
 rw [hr,e2]at e1
 exact distN_spec hd i j _ _ h1 h2 (Option.some.inj e1).symm
theorem MCalls.at{f:FuncId}{m:Memo}(h:MCalls P f m){args1:List CV}{l1 l1':List MR}{nx1:Nat}{v1:CV}{μ:T Nat}
    (ha:mapO (renC (inN μ m.nx) 1000) m.args=some args1) (hl:mapO (renR (inN μ m.nx)) m.H=some l1) (hv:renC (outN μ m.kp nx1) 1000 m.v=some v1) (hl':mapO (renR (outN μ m.kp nx1)) m.H'=some l1') (hd:distN l1=true) (hd':distN l1'=true):
    CCalls P f args1 (rowsOf l1) nx1 ⟨v1,rowsOf l1',nx1+m.b⟩:=by
  refine⟨h.1,fun K w vs β hlen hargs hs=>?_⟩
  obtain⟨a1,a2⟩:=mapO_get ha
  obtain⟨b1,b2⟩:=mapO_get hl
  obtain⟨c1,c2⟩:=mapO_get hl'
  have hD:=dist_back hl hd
  have hD':=dist_back hl' hd'
  let β0:Nat→Option BI:=fun r=>(inN μ m.nx r).bind β
  have u0:∀r q bi,inN μ m.nx r=some q→β q=some bi→β0 r=some bi:=by
    intro r q bi hq hb
    show(inN μ m.nx r).bind β=some bi
    rw [hq];exact hb
  have v0:∀r bi,β0 r=some bi→∃q,inN μ m.nx r=some q∧β q=some bi:=by
    intro r bi hb
    have hb:(inN μ m.nx r).bind β=some bi:=hb
    rw [Option.bind_eq_some_iff]at hb
    exact hb
  have h0:SimC P K 0 β0 ⟨.e,rowsOf m.H,m.nx⟩ #[] w:=by
    refine⟨rfl,(fun t v ht=>by rw [T.at_e]at ht;cases ht),fun r x hr=>?_,fun r r' x x' bi bi' hr hr' hb hb' hbb=>?_,fun r bi hb=>?_,hs.frame,hs.oo,hs.good⟩
    · obtain⟨i,y,hi,rfl,rfl⟩:=rowsOf_at hr
      have hi':i<m.H.length:=(List.getElem?_eq_some_iff.1 hi).1
      have h1:l1[i]? = some l1[i]:=List.getElem?_eq_getElem (by omega)
      have hren:=b2 i y _ hi h1
      obtain⟨bi,g1,g2,g3⟩:=hs.blk _ _ (rowsOf_get (distN_spec hd) h1)
      exact⟨bi,u0 _ _ _ (renR_some hren).1 g1,g2,g3.unren u0 hren⟩
    · obtain⟨i,y,hi,rfl,rfl⟩:=rowsOf_at hr
      obtain⟨j,y',hj,rfl,rfl⟩:=rowsOf_at hr'
      have hi':i<m.H.length:=(List.getElem?_eq_some_iff.1 hi).1
      have hj':j<m.H.length:=(List.getElem?_eq_some_iff.1 hj).1
      have h1:l1[i]? = some l1[i]:=List.getElem?_eq_getElem (by omega)
      have h2:l1[j]? = some l1[j]:=List.getElem?_eq_getElem (by omega)
      obtain⟨q,hq,hbq⟩:=v0 _ _ hb
      obtain⟨q',hq',hbq'⟩:=v0 _ _ hb'
      rw [(renR_some (b2 i y _ hi h1)).1]at hq;cases hq
      rw [(renR_some (b2 j y' _ hj h2)).1]at hq';cases hq'
      have:=hs.inj _ _ _ _ bi bi' (rowsOf_get (distN_spec hd) h1) (rowsOf_get (distN_spec hd) h2) hbq hbq' hbb
      have hij:=distN_spec hd i j _ _ h1 h2 this
      subst hij
      rw [hi]at hj;cases hj;rfl
    · obtain⟨q,hq,_⟩:=v0 r bi hb
      exact(inN_lt hq).1
  refine(h.2 K w vs β0 (by omega) (fun i u c hu hc=>?_) h0).mono ?_
  · have hi:i<m.args.length:=(List.getElem?_eq_some_iff.1 hc).1
    have h1:args1[i]? = some args1[i]:=List.getElem?_eq_getElem (by omega)
    exact(hargs i u _ hu h1).unren u0 1000 (a2 i c _ hc h1)
  rintro e w' ⟨u,β',he,hE,hS,hv'⟩
  let β1:Nat→Option BI:=fun r=>if r<nx1 then β r else match look m.kp (r-nx1) with|some _=>none|none=>β' (r-nx1)
  have o1:∀r,r<nx1→β1 r=β r:=fun r hr=>if_pos hr
  have o2:∀r,¬ r<nx1→β1 r=match look m.kp (r-nx1) with|some _=>none|none=>β' (r-nx1):=fun r hr=>if_neg hr
  have u1:∀r q bi,outN μ m.kp nx1 r=some q→β' r=some bi→β1 q=some bi:=by
    intro r q bi hq hb
    unfold outN at hq
    cases hk:look m.kp r with
    |some i=>
      rw [hk]at hq
      obtain⟨q',hq',hb'⟩:=v0 _ _ (hE r i bi hk hb)
      have:=(inN_lt hq').2
      replace hq:μ.at' i=some q:=hq
      rw [hq]at this;cases this
      rw [o1 q (hs.lt _ _ hb')];exact hb'
    |none=>
      rw [hk]at hq
      cases hq
      have e1:Nat.add nx1 r-nx1=r:=Nat.add_sub_cancel_left ..
      rw [o2 (Nat.add nx1 r) (Nat.not_lt.2 (Nat.le_add_right nx1 r)),e1,hk]
      exact hb
  have l1t:∀r bi,β1 r=some bi→¬ r<nx1→r<nx1+m.b:=by
    intro r bi hb hr
    rw [o2 r hr]at hb
    split at hb
    · cases hb
    · have:=hS.lt _ _ hb
      have h2:r-nx1<m.b:=this
      omega
  refine⟨u,β1,he,⟨fun r bi hb=>by rw [o1 r (hs.lt _ _ hb)];exact hb,fun r bi hb=>?_,Nat.le_add_right nx1 m.b⟩,?_,hv'.ren u1 1000 hv⟩
  · by_cases hr:r<nx1
    · rw [o1 r hr]at hb;exact .inl hb
    · exact .inr (by omega)
  · have gt:∀r x,(rowsOf l1').at' r=some x→∃(i:Nat) (y y1:MR),m.H'[i]? = some y∧l1'[i]? = some y1∧y1.r=r∧y1.blk.2=x∧renR (outN μ m.kp nx1) y=some y1:=by
      intro r x hr
      obtain⟨i,y1,hi,h1,h2⟩:=rowsOf_at hr
      have hi':i<l1'.length:=(List.getElem?_eq_some_iff.1 hi).1
      have h3:m.H'[i]? = some m.H'[i]:=List.getElem?_eq_getElem (by omega)
      exact⟨i,_,y1,h3,hi,h1,h2,c2 i _ y1 h3 hi⟩
    refine⟨rfl,(fun t v ht=>by rw [T.at_e]at ht;cases ht),fun r x hr=>?_,fun r r' x x' bi bi' hr hr' hb hb' hbb=>?_,fun r bi hb=>?_,hS.frame,hS.oo,hS.good⟩
    · obtain⟨i,y,y1,h1,h2,rfl,rfl,h3⟩:=gt r x hr
      obtain⟨bi,g1,g2,g3⟩:=hS.blk _ _ (rowsOf_get hD' h1)
      exact⟨bi,u1 _ _ _ (renR_some h3).1 g1,g2,g3.ren u1 h3⟩
    · obtain⟨i,y,y1,h1,h2,rfl,rfl,h3⟩:=gt r x hr
      obtain⟨j,z,z1,k1,k2,rfl,rfl,k3⟩:=gt r' x' hr'
      obtain⟨b2,g1,_,_⟩:=hS.blk _ _ (rowsOf_get hD' h1)
      obtain⟨b3,g2,_,_⟩:=hS.blk _ _ (rowsOf_get hD' k1)
      have e1:=u1 _ _ _ (renR_some h3).1 g1
      have e2:=u1 _ _ _ (renR_some k3).1 g2
      rw [hb]at e1;cases e1
      rw [hb']at e2;cases e2
      have:=hS.inj _ _ _ _ bi bi' (rowsOf_get hD' h1) (rowsOf_get hD' k1) g1 g2 hbb
      have hij:=hD' i j y z h1 k1 this
      subst hij
      rw [h2]at k2;cases k2;rfl
    · show r<nx1+m.b
      by_cases hr:r<nx1
      · omega
      · exact l1t r bi hb hr
theorem CCalls.memo{f:FuncId}{m:Memo}{l1:List MR}{n1:Nat}{v1:CV}{μ:T Nat}(h:CCalls P f m.args (rowsOf m.H) m.nx ⟨v1,rowsOf l1,n1⟩)
    (hv:renC (canN μ m.kp m.nx m.b) 1000 m.v=some v1) (hl':mapO (renR (canN μ m.kp m.nx m.b)) m.H'=some l1) (hd':distN l1=true):MCalls P f m:=by
  refine⟨h.1,fun K w vs β hlen hargs hs=>(h.2 K w vs β hlen hargs hs).mono ?_⟩
  rintro e w' ⟨u,β',he,hE,hS,hv'⟩
  obtain⟨c1,c2⟩:=mapO_get hl'
  let β1:Nat→Option BI:=fun r=>(canN μ m.kp m.nx m.b r).bind β'
  have u1:∀r q bi,canN μ m.kp m.nx m.b r=some q→β' q=some bi→β1 r=some bi:=by
    intro r q bi hq hb
    show(canN μ m.kp m.nx m.b r).bind β'=some bi
    rw [hq];exact hb
  have v1:∀r bi,β1 r=some bi→∃q,canN μ m.kp m.nx m.b r=some q∧β' q=some bi:=by
    intro r bi hb
    have hb:(canN μ m.kp m.nx m.b r).bind β'=some bi:=hb
    rw [Option.bind_eq_some_iff]at hb
    exact hb
  have gt:∀r x,(rowsOf m.H').at' r=some x→∃(i:Nat) (y y1:MR),m.H'[i]? = some y∧l1[i]? = some y1∧y.r=r∧y.blk.2=x∧renR (canN μ m.kp m.nx m.b) y=some y1:=by
    intro r x hr
    obtain⟨i,y,hi,h1,h2⟩:=rowsOf_at hr
    have hi':i<m.H'.length:=(List.getElem?_eq_some_iff.1 hi).1
    have h3:l1[i]? = some l1[i]:=List.getElem?_eq_getElem (by omega)
    exact⟨i,y,_,hi,h3,h1,h2,c2 i y _ hi h3⟩
  refine⟨u,β1,he,fun o i bi hk hb=>?_,?_,hv'.unren u1 1000 hv⟩
  · obtain⟨q,hq,hb⟩:=v1 o bi hb
    obtain⟨h1,rfl⟩:=(canN_lt hq).2 i hk
    rcases hE.old q bi hb with h2|h2
    · exact h2
    · omega
  · refine⟨rfl,(fun t v ht=>by rw [T.at_e]at ht;cases ht),fun r x hr=>?_,fun r r' x x' bi bi' hr hr' hb hb' hbb=>?_,fun r bi hb=>?_,hS.frame,hS.oo,hS.good⟩
    · obtain⟨i,y,y1,h1,h2,rfl,rfl,h3⟩:=gt r x hr
      obtain⟨bi,g1,g2,g3⟩:=hS.blk _ _ (rowsOf_get (distN_spec hd') h2)
      exact⟨bi,u1 _ _ _ (renR_some h3).1 g1,g2,g3.unren u1 h3⟩
    · obtain⟨i,y,y1,h1,h2,rfl,rfl,h3⟩:=gt r x hr
      obtain⟨j,z,z1,k1,k2,rfl,rfl,k3⟩:=gt r' x' hr'
      obtain⟨q,hq,hbq⟩:=v1 _ _ hb
      obtain⟨q',hq',hbq'⟩:=v1 _ _ hb'
      rw [(renR_some h3).1]at hq;cases hq
      rw [(renR_some k3).1]at hq';cases hq'
      have:=hS.inj _ _ _ _ bi bi' (rowsOf_get (distN_spec hd') h2) (rowsOf_get (distN_spec hd') k2) hbq hbq' hbb
      have hij:=distN_spec hd' i j _ _ h2 k2 this
      subst hij
      rw [h1]at k1;cases k1;rfl
    · obtain⟨q,hq,_⟩:=v1 r bi hb
      exact(canN_lt hq).1
noncomputable def deep(c:CV):Bool:=match c with|.int _ _=>false|.bool _=>false|.str _=>false|.nilp=>false|.nils=>false|.nili=>false|.slz=>false|_=>true
noncomputable def pairs(cs:T CV)(l:List (Nat×CV))(rest:List (CV×CV)):List (CV×CV):=
 List.rec (motive:=fun _=>List (CV×CV)) rest (fun y _ ih=>Bool.rec (motive:=fun _=>List (CV×CV)) ih (match cs.at' y.1 with|some d=>(y.2,d)::ih|none=>ih) (deep y.2)) l
noncomputable def rowPairs(R:T MR)(H:T Blk)(r q:Nat)(rest:List (CV×CV)):List (CV×CV):=
 match R.at' r with
 |some y=>match H.at' q with |some (.row _ cs _)=>pairs cs y.cs rest |_=>rest
 |none=>rest
noncomputable def zipR(cs:List CV)(rest:List (CV×CV)):List CV→List (CV×CV):=
 List.rec (motive:=fun _=>List CV→List (CV×CV)) (fun _=>rest) (fun c _ ih ds=>match ds with|d::ds=>Bool.rec (motive:=fun _=>List (CV×CV)) (ih ds) ((c,d)::ih ds) (deep c)|[]=>rest) cs
noncomputable def rowN(c:CV):Option Nat:=match c with|.ptr r _=>some r|.slc r _ _ _ _ _=>some r|.map r=>some r|_=>none
noncomputable def subs(c:CV):List CV:=match c with|.agg l=>l|.tup l=>l|.iface _ v=>[v] |.fn _ l=>l|.bfn _ l=>l|_=>[]
noncomputable def fnd(R:T MR)(H:T Blk)(fuel:Nat):List (CV×CV)→T Nat→T Nat:=
 Nat.rec (motive:=fun _=>List (CV×CV)→T Nat→T Nat) (fun _ m=>m) (fun _ ih todo m=>match todo with
  |[]=>m
  |x::rest=>match rowN x.1 with
   |some r=>match rowN x.2 with
    |some q=>match m.at' r with
     |some _=>ih rest m
     |none=>ih (rowPairs R H r q rest) (m.put r (some q))
    |none=>m
   |none=>ih (zipR (subs x.1) rest (subs x.2)) m) fuel
noncomputable def rowT(l:List MR):T MR:=List.rec (motive:=fun _=>T MR) .e (fun x _ t=>t.put x.r (some x)) l
noncomputable def likeC(c d:CV):Bool:=match c with
 |.int _ _=>eqCV 2 c d |.bool _=>eqCV 2 c d |.str _=>eqCV 2 c d |.nils=>eqCV 2 c d |.nilp=>eqCV 2 c d
 |.slc _ o n _ _ k=>(match d with |.slc _ o' n' _ _ k'=>Nat.beq n n'&&(Nat.beq o o'&&Nat.beq k k') |_=>false)
 |_=>true
noncomputable def likeL(p:CV→CV→Bool)(l:List CV):List CV→Bool:=
 List.rec (motive:=fun _=>List CV→Bool) (fun _=>true) (fun c _ ih ds=>match ds with
  |d::ds=>Bool.rec (motive:=fun _=>Bool) false (ih ds) (p c d)
  |[]=>false) l
noncomputable def likeA(c d:CV):Bool:=match c with
 |.agg l=>(match d with |.agg l'=>likeL likeC l l' |_=>false)
 |c=>likeC c d
noncomputable def like(l:List CV):List CV→Bool:=likeL likeA l
noncomputable def memo2(m:Memo)(args:List CV)(H:T Blk)(nx:Nat)(μ:T Nat):Option New:=match mapO (renC (inN μ m.nx) 1000) m.args,mapO (renR (inN μ m.nx)) m.H with
  |some a1,some l1=>bif eqCV 1000 (.tup args) (.tup a1)&&(rowsIn H l1&&distN l1) then
      match renC (outN μ m.kp nx) 1000 m.v,mapO (renR (outN μ m.kp nx)) m.H' with
      |some v1,some l1'=>bif distN l1' then some ⟨v1,addL l1' (delL l1 H),Nat.add nx m.b⟩else none
      |_,_=>none
    else none
  |_,_=>none
noncomputable def memo1(m:Memo)(args:List CV)(H:T Blk)(nx:Nat):Option New:=
 bif like m.args args then
  T.force (memo2 m args H nx) (fnd (rowT m.H) H 100000 (zipR m.args [] args) .e)
 else none
noncomputable def memoC(ms:List Memo)(args:List CV)(H:T Blk)(nx:Nat):Option New:=
 List.rec (motive:=fun _=>Option New) none (fun m _ ih=>match memo1 m args H nx with|some n=>some n|none=>ih) ms
theorem memo2_ok{f:FuncId}{m:Memo}{args:List CV}{H:T Blk}{nx:Nat}{n:New}{μ:T Nat}(hk:MCalls P f m)(h:memo2 m args H nx μ=some n):CCalls P f args H nx n:=by
 unfold memo2 at h
 split at h
 case h_2=>cases h
 rename_i a1 l1 ha hl
 rw [Bool.cond_eq_ite]at h
 split at h
 case isFalse=>cases h
 rename_i hc
 simp only [Bool.and_eq_true]at hc
 obtain⟨h2,h3,h4⟩:=hc
 split at h
 case h_2=>cases h
 rename_i v1 l1' hv hl'
 rw [Bool.cond_eq_ite]at h
 split at h
 case isFalse=>cases h
 rename_i h5
 cases h
 have:=eqCV_spec _ h2
 cases this
 exact(hk.at ha hl hv hl' h4 h5).frame (rowsIn_spec h3)
theorem memo1_ok{f:FuncId}{m:Memo}{args:List CV}{H:T Blk}{nx:Nat}{n:New}(hk:MCalls P f m)(h:memo1 m args H nx=some n):CCalls P f args H nx n:=by
 unfold memo1 at h
 rw [Bool.cond_eq_ite]at h
 split at h
 case isFalse=>cases h
 generalize fnd (rowT m.H) H 100000 (zipR m.args [] args) .e=μ at h
 rw [T.force_eq]at h
 exact memo2_ok hk h
theorem memoC_ok{f:FuncId}{args:List CV}{H:T Blk}{nx:Nat}{n:New}:∀{ms:List Memo},SpecOk P f (.memo ms)→memoC ms args H nx=some n→CCalls P f args H nx n
 |[],_,h=>by cases h
 |m::ms,hk,h=>by
  have e:memoC (m::ms) args H nx=match memo1 m args H nx with|some n=>some n|none=>memoC ms args H nx:=rfl
  rw [e]at h
  split at h
  ·rename_i n' hn
   cases h
   exact memo1_ok (hk m (by simp)) hn
  ·exact memoC_ok (fun m hm=>hk m (List.mem_cons_of_mem _ hm)) h
noncomputable def memo3(m:Memo)(n:New)(μ:T Nat):Bool:=match renC (canN μ m.kp m.nx m.b) 1000 m.v,mapO (renR (canN μ m.kp m.nx m.b)) m.H' with
 |some v1,some l1=>eqCV 1000 n.v v1&&(rowsIn n.H l1&&distN l1)
 |_,_=>false
noncomputable def kpT(l:List (Nat×Nat)):List (CV×CV):=List.rec (motive:=fun _=>List (CV×CV)) [] (fun x _ ih=>(.ptr x.1 0,.ptr x.2 0)::ih) l
noncomputable def memoB(m:Memo)(r:Option New):Bool:=match r with
 |some n=>T.force (memo3 m n) (fnd (rowT m.H') n.H 100000 (zipR [m.v] (kpT m.kp) [n.v]) .e)
 |none=>false
theorem memo3_of{f:FuncId}{m:Memo}{n:New}{μ:T Nat}(hn:CCalls P f m.args (rowsOf m.H) m.nx n)(h:memo3 m n μ=true):MCalls P f m:=by
 unfold memo3 at h
 split at h
 case h_2=>cases h
 rename_i v1 l1 hv hl
 simp only [Bool.and_eq_true]at h
 obtain⟨h2,h3,h4⟩:=h
 have:=hn.weak (rowsIn_spec h3)
 rw [eqCV_spec _ h2]at this
 exact this.memo hv hl h4
theorem memo_of{f:FuncId}{m:Memo}{r:Option New}(hr:∀n,r=some n→CCalls P f m.args (rowsOf m.H) m.nx n)(h:memoB m r=true):MCalls P f m:=by
 unfold memoB at h
 split at h
 case h_2=>cases h
 rename_i n
 generalize fnd (rowT m.H') n.H 100000 (zipR [m.v] (kpT m.kp) [n.v]) .e=μ at h
 rw [T.force_eq]at h
 exact memo3_of (hr n rfl) h
end
end Go.Ab.Cm
namespace Go.Ab.Cm
inductive R where
 |nrm (s:S)
 |ext (id:Nat) (s:S)
 |ret (s:S)
 |bad
noncomputable def thenR(r:R)(k:S→R):R:=R.rec (motive:=fun _=>R) (fun s=>k s) (fun id s=>.ext id s) (fun s=>.ret s) .bad r
noncomputable def inB'(i:Nat)(r:R):R:=R.rec (motive:=fun _=>R) (fun s=>.nrm s) (fun id s=>Bool.rec (motive:=fun _=>R) (.ext id s) (.nrm s) (Nat.beq id i)) (fun s=>.ret s) .bad r
noncomputable def toR(s:Option S):R:=Option.rec (motive:=fun _=>R) .bad (fun s=>.nrm s) s
abbrev Ev:=Nat→Code→S→R
def noRF:Code→Bool
 |.rangeFunc _ _ _ _=>false
 |.seq a b=>noRF a&&noRF b
 |.cond _ a b=>noRF a&&noRF b
 |.block _ b=>noRF b
 |.loop b=>noRF b
 |.scope b=>noRF b
 |_=>true
noncomputable def endR(s:S)(pend:Option Code)(st:LoopState)(H:T Blk)(nx:Nat):R:=
 match st,pend with
 |.busy,_=>.bad
 |_,none=>.nrm ⟨s.env,H,nx⟩
 |_,some .ret=>.ret ⟨s.env,H,nx⟩
 |_,some (.exit id)=>.ext id ⟨s.env,H,nx⟩
 |_,_=>.bad
noncomputable def codeC(tt:T TI)(eq:EqT)(call:Call')(ih:Ev)(N:Nat)(c:Code)(s:S):R:=
  match c with
  |.skip=>.nrm s
  |.label _=>.nrm s
  |.region _ ops false=>toR (steps tt eq call N ops.toList ops.toList s)
  |.region _ ops true=>toR (drawC tt eq call N ops.toList s)
  |.seq a b=>thenR (ih N a s) (ih N b)
  |.cond x a b=>match evO s.env x with
    |some (.bool true)=>ih N a s
    |some (.bool false)=>ih N b s
    |_=>.bad
  |.block id b=>inB' id (ih N b s)
  |.loop b=>thenR (ih N b s) (ih N (.loop b))
  |.scope b=>ih N b s
  |.exit id=>.ext id s
  |.ret=>.ret s
  |.rangeFunc f ps as bo=>bif noRF as&&noRF bo then match evO s.env f with
      |some (.fn g caps)=>match call.c g (.yld s.nx::caps) (s.H.put s.nx (some (.lp .ready none N s.env ps.toList as bo))) (Nat.succ s.nx) with
        |some n=>match n.H.at' s.nx with
          |some (.lp st pend N' env' ps' as' bo')=>endR s pend st (n.H.put s.nx (some (.lp .exhausted pend N' env' ps' as' bo'))) n.nx
          |_=>.bad
        |none=>.bad
      |_=>.bad
    else .bad
  |_=>.bad
noncomputable def resV(tt:T TI)(s:S):ResultVar→Option CV
 |.tmp t=>s.env.at' t
 |.cell a t=>opLoad tt s t (.tmp a)
noncomputable def resC(tt:T TI)(s:S)(rs:List ResultVar):Option CV:=
 match rs with
 |[x]=>resV tt s x
 |xs=>(mapO (resV tt s) xs).map .tup
noncomputable def callB(tt:T TI)(fs:T Func)(ih:Ev)(f:FuncId)(args:List CV)(H:T Blk)(nx:Nat):Option New:=
  match fs.at' f with
  |some fn=>match fn.body with
    |some c=>bif Nat.ble (lenR args) fn.ntmps then match ih fn.ntmps c ⟨putL args 0 .e,H,nx⟩ with
        |.nrm s=>(resC tt s fn.results.toList).map fun v=>⟨v,s.H,s.nx⟩
        |.ret s=>(resC tt s fn.results.toList).map fun v=>⟨v,s.H,s.nx⟩
        |_=>none
      else none
    |none=>none
  |none=>none
noncomputable def setPs:List Nat→List CV→T CV→T CV
 |t::ps,a::as,env=>setPs ps as (env.put t (some a))
 |_,_,env=>env
noncomputable def endY(q:Nat)(b:Bool)(st:LoopState)(j:Option Code)(s:S):Option New:=
 match s.H.at' q with
 |some (.lp _ _ N env ps as bo)=>some ⟨.bool b,s.H.put q (some (.lp st j N env ps as bo)),s.nx⟩
 |_=>none
noncomputable def callY(ih:Ev)(q:Nat)(args:List CV)(H:T Blk)(nx:Nat):Option New:=
  match H.at' q with
  |some (
          .lp .ready _ N env ps as bo)=>bif Nat.beq (lenR args) (lenR ps)&&(ps.all (fun t=>Nat.blt t N)&&(noRF as&&noRF bo)) then
      match ih N as ⟨setPs ps args env,H,nx⟩ with
      |.nrm s1=>match s1.H.at' q with
        |some (.lp .ready pend1 N1 env1 ps1 as1 bo1)=>
          match ih N bo ⟨s1.env,s1.H.put q (some (.lp .busy pend1 N1 env1 ps1 as1 bo1)),s1.nx⟩ with
          |.nrm s2=>endY q true .ready none s2
          |.ret s2=>endY q false .done (some .ret) s2
          |.ext id s2=>endY q false .done (some (.exit id)) s2
          |.bad=>none
        |_=>none
      |_=>none
    else none
  |_=>none
noncomputable def callN(tt:T TI)(fs:T Func)(ih:Ev):Call':=⟨callB tt fs ih,fun _ _ _ _=>none⟩
abbrev Dfr:=FuncId×List CV
inductive RT where
 |nrm (ds:List Dfr) (s:S)
 |ext (id:Nat) (ds:List Dfr) (s:S)
 |ret (ds:List Dfr) (s:S)
 |bad
noncomputable def liftT(ds:List Dfr)(r:R):RT:=R.rec (motive:=fun _=>RT) (fun s=>.nrm ds s) (fun id s=>.ext id ds s) (fun s=>.ret ds s) .bad r
noncomputable def thenT(r:RT)(k:List Dfr→S→RT):RT:=RT.rec (motive:=fun _=>RT) (fun ds s=>k ds s) (fun id ds s=>.ext id ds s) (fun ds s=>.ret ds s) .bad r
noncomputable def inT(i:Nat)(r:RT):RT:=RT.rec (motive:=fun _=>RT) (fun ds s=>.nrm ds s) (fun id ds s=>Bool.rec (motive:=fun _=>RT) (.ext id ds s) (.nrm ds s) (Nat.beq id i)) (fun ds s=>.ret ds s) .bad r
def lastD:List Oper→Option Call
 |[]=>none
 |[o]=>match o.op,o.guard,o.dst with
  |.defer c,none,none=>some c
  |_,_,_=>none
 |_::o::l=>lastD (o::l)
noncomputable def dfrC(s:S)(c:Call):Option Dfr:=
 match c.callee with
 |.value x=>match evO s.env x,mapO (evO s.env) c.args.toList with
  |some (.fn f caps),some vs=>some (f,vs++caps)
  |_,_=>none
 |_=>none
abbrev EvT:=Nat→Code→List Dfr→S→RT
noncomputable def codeT(tt:T TI)(eq:EqT)(call:Call')(ih:Ev)(iht:EvT)(N:Nat)(c:Code)(ds:List Dfr)(s:S):RT:=
 match c with
 |.seq a b=>thenT (iht N a ds s) (iht N b)
 |.scope b=>iht N b ds s
 |.block id b=>inT id (iht N b ds s)
 |.region id ops false=>match lastD ops.toList with
  |some c=>match steps tt eq call N ops.toList (takeR (Nat.pred (lenR ops.toList)) ops.toList) s with
   |some s1=>match dfrC s1 c with
    |some d=>.nrm (d::ds) s1
    |none=>.bad
   |none=>.bad
  |none=>liftT ds (ih N (.region id ops false) s)
 |c=>liftT ds (ih N c s)
noncomputable def evT(tt:T TI)(eq:EqT)(call:Call')(ih:Ev)(n:Nat):EvT:=
 Nat.rec (motive:=fun _=>EvT) (fun _ _ _ _=>.bad) (fun _ iht N c ds s=>codeT tt eq call ih iht N c ds s) n
def isRec(o:Oper):Option Nat:=match o.op,o.guard,o.dst with
 |.call {callee:=.builtin .recover,args:=⟨[]⟩,..},none,some r=>some r
 |_,_,_=>none
noncomputable def codeV(tt:T TI)(eq:EqT)(call:Call')(ih ihv:Ev)(N:Nat)(c:Code)(s:S):R:=
 match c with
 |.seq a b=>thenR (ihv N a s) (ih N b)
 |.region id ops false=>match ops.toList with
  |o::l=>match isRec o with
   |some r=>bif Nat.blt r N then toR (steps tt eq call N ops.toList l ⟨s.env.put r (some .nili),s.H,s.nx⟩)else .bad
   |none=>ih N (.region id ops false) s
  |[]=>ih N (.region id ops false) s
 |c=>ih N c s
noncomputable def evV(tt:T TI)(eq:EqT)(call:Call')(ih:Ev)(n:Nat):Ev:=
 Nat.rec (motive:=fun _=>Ev) (fun _ _ _=>.bad) (fun _ ihv N c s=>codeV tt eq call ih ihv N c s) n
noncomputable def callV(tt:T TI)(eq:EqT)(fs:T Func)(ih:Ev)(f:FuncId)(args:List CV)(H:T Blk)(nx:Nat):Option New:=
  match fs.at' f with
  |some fn=>match fn.body with
    |some c=>bif Nat.ble (lenR args) fn.ntmps&&noRF c then match evV tt eq (callN tt fs ih) ih 100 fn.ntmps c ⟨putL args 0 .e,H,nx⟩ with
        |.nrm s=>(resC tt s fn.results.toList).map fun v=>⟨v,s.H,s.nx⟩
        |.ret s=>(resC tt s fn.results.toList).map fun v=>⟨v,s.H,s.nx⟩
        |_=>none
      else none
    |none=>none
  |none=>none
structure Hn where
 H:T Blk
 nx:Nat
abbrev CallC:=FuncId→List CV→T Blk→Nat→Option New
noncomputable def runDs(callV:CallC)(ds:List Dfr):T Blk→Nat→Option Hn:=
 List.rec (motive:=fun _=>T Blk→Nat→Option Hn) (fun H nx=>some ⟨H,nx⟩) (fun d _ k H nx=>Option.rec (motive:=fun _=>Option Hn) none (fun n=>k n.H n.nx) (callV d.1 d.2 H nx)) ds
noncomputable def callT(tt:T TI)(eq:EqT)(fs:T Func)(ih:Ev)(f:FuncId)(args:List CV)(H:T Blk)(nx:Nat):Option New:=
  match fs.at' f with
  |some fn=>match fn.body with
    |some c=>bif Nat.ble (lenR args) fn.ntmps&&noRF c then match evT tt eq (callN tt fs ih) ih 1000 fn.ntmps c [] ⟨putL args 0 .e,H,nx⟩ with
        |.nrm ds s=>match runDs (callV tt eq fs ih) ds s.H s.nx with
          |some h=>(resC tt ⟨s.env,h.H,h.nx⟩ fn.results.toList).map fun v=>⟨v,h.H,h.nx⟩
          |none=>none
        |.ret ds s=>match runDs (callV tt eq fs ih) ds s.H s.nx with
          |some h=>(resC tt ⟨s.env,h.H,h.nx⟩ fn.results.toList).map fun v=>⟨v,h.H,h.nx⟩
          |none=>none
        |_=>none
      else none
    |none=>none
  |none=>none
noncomputable def callF(tt:T TI)(eq:EqT)(fs:T Func)(sp:T Spec)(ih:Ev)(f:FuncId)(args:List CV)(H:T Blk)(nx:Nat):Option New:=
 match sp.at' f with
 |some .dfr=>callT tt eq fs ih f args H nx
 |some (.memo ms)=>orE (memoC ms args H nx) (callB tt fs ih f args H nx)
 |some k=>spC tt k args H nx
 |none=>callB tt fs ih f args H nx
noncomputable def condF(x:Option CV)(ih:Ev)(N:Nat)(a b:Code)(s:S):R:=
 Option.rec (motive:=fun _=>R) .bad (fun t=>Bool.rec (motive:=fun _=>R) (ih N b s) (ih N a s) t) (oB x sBoo)
noncomputable def codeF(tt:T TI)(eq:EqT)(call:Call')(ih:Ev)(N:Nat)(c:Code)(s:S):R:=
 Code.rec (motive:=fun _=>T TI→EqT→Call'→Ev→Nat→S→R)
  (fun _ _ _ _ _ s=>.nrm s)
  (fun _ ops draw tt eq call _ N s=>Bool.rec (motive:=fun _=>R) (toR (steps tt eq call N ops.toList ops.toList s)) (toR (drawC tt eq call N ops.toList s)) draw)
  (fun a b _ _ _ _ _ ih N s=>thenR (ih N a s) (ih N b))
  (fun x a b _ _ _ _ _ ih N s=>condF (evO s.env x) ih N a b s)
  (fun id b _ _ _ _ ih N s=>inB' id (ih N b s))
  (fun b _ _ _ _ ih N s=>thenR (ih N b s) (ih N (.loop b)))
  (fun f ps as bo _ _ tt eq call ih N s=>codeC tt eq call ih N (.rangeFunc f ps as bo) s)
  (fun id _ _ _ _ _ s=>.ext id s)
  (fun b _ _ _ _ ih N s=>ih N b s)
  (fun _ _ _ _ _ _ s=>.nrm s)
  (fun _ _ _ _ _ _ _=>.bad)
  (fun _ _ _ _ _ s=>.ret s)
  (fun _ _ _ _ _ _ _=>.bad)
  c tt eq call ih N s
theorem codeF_eq(tt:T TI)(eq:EqT)(call:Call')(ih:Ev)(N:Nat)(c:Code)(s:S):codeF tt eq call ih N c s=codeC tt eq call ih N c s:=by
 cases c<;>try rfl
 case region id ops draw=>cases draw<;>rfl
 case cond x a b=>
  show condF (evO s.env x) ih N a b s=match evO s.env x with
   |some (.bool true)=>ih N a s
   |some (.bool false)=>ih N b s
   |_=>.bad
  cases evO s.env x with
  |none=>rfl
  |some v=>
   cases v<;>try rfl
   rename_i t
   cases t<;>rfl
noncomputable def evC(tt:T TI)(eq:EqT)(fs:T Func)(sp:T Spec)(n:Nat):Ev:=
 Nat.rec (motive:=fun _=>Ev) (fun _ _ _=>.bad) (fun _ ih N c s=>codeF tt eq ⟨callF tt eq fs sp ih,callY ih⟩ ih N c s) n
section
variable {P:Program} {K:Ctx} {N:Nat} {β:Nat→Option BI} {s:S} {tmps:Array Value} {w:World} {tt:TT} {ds:List Deferred}
def marks(ms:List Nat):List Deferred:=ms.map fun r=>{target:=.collected r,args := #[]}
def KM(K:Ctx)(ms:List Nat):Ctx:={K with F:=fun b=>if b∈ms then some (.deferred (some []))else K.F b}
def MOk(K:Ctx)(ms:List Nat):Prop:=ms.Nodup∧∀b,b∈ms→K.F b=none
theorem KM_nil(K:Ctx):KM K []=K:=by simp [KM]
theorem KM_KM(K:Ctx)(ms ms':List Nat):KM (KM K ms) ms'=KM K (ms'++ms):=by
 simp only [KM,Ctx.mk.injEq,true_and,and_true]
 funext b
 by_cases h1:b∈ms'<;>by_cases h2:b∈ms<;>simp [h1,h2]
theorem MOk.app{ms ms':List Nat}(h:MOk K ms)(h':MOk (KM K ms) ms'):MOk K (ms'++ms):=by
 refine⟨List.nodup_append.2 ⟨h'.1,h.1,fun a ha b hb hab=>?_⟩,fun b hb=>?_⟩
 ·subst hab
  have:=h'.2 a ha
  simp [KM,hb]at this
 ·rcases List.mem_append.1 hb with hb|hb
  ·have:=h'.2 b hb
   simp only [KM]at this
   split at this
   ·cases this
   ·exact this
  ·exact h.2 b hb
theorem gd_KM{ms:List Nat}(hm:MOk K ms)(h:Gd P K.F):Gd P (KM K ms).F:=h.mono fun b ob hb=>by
 simp only [KM];rw [if_neg (fun hh=>by rw [hm.2 b hh]at hb;cases hb)];exact hb
theorem gd_unKM{ms:List Nat}(h:Gd P (KM K ms).F):Gd P K.F:=by
 have key:∀b cs t fr,(KM K ms).F b=some (.cells cs t fr)→K.F b=some (.cells cs t fr):=by
  intro b cs t fr hb
  simp only [KM]at hb
  split at hb
  ·cases hb
  ·exact hb
 refine⟨fun g hg=>?_,fun g hg=>?_⟩
 ·obtain⟨cs,t,fr,ev,h1,h2,h3⟩:=h.1 g hg;exact⟨cs,t,fr,ev,key _ _ _ _ h1,h2,h3⟩
 ·obtain⟨t,fr,h1⟩:=h.2 g hg;exact⟨t,fr,key _ _ _ _ h1⟩
def St'(P:Program)(K:Ctx)(N n0:Nat)(β:Nat→Option BI)(ds:List Deferred)(nr:Bool)(s:S)(a:Act)(w:World):Prop:=
 ∃ms β',(nr=true→ms=[])∧a.defers=marks ms++ds∧MOk K ms∧Ext n0 s.nx β β'∧SimC P (KM K ms) N β' s a.tmps w
def PostR(P:Program)(K:Ctx)(N n0:Nat)(β:Nat→Option BI)(ds:List Deferred)(nr:Bool)(r:R)(e:Exit)(a:Act)(w:World):Prop:=
 match r with
 |.nrm s=>e = .normal∧St' P K N n0 β ds nr s a w
 |.ext id s=>e = .exit id∧St' P K N n0 β ds nr s a w
 |.ret s=>e = .ret∧St' P K N n0 β ds nr s a w
 |.bad=>False
theorem St'.of{n0:Nat}{nr:Bool}{β':Nat→Option BI}(hE:Ext n0 s.nx β β')(h:SimC P K N β' s tmps w):St' P K N n0 β ds nr s ⟨tmps,ds⟩ w:=
 ⟨[],β',fun _=>rfl,rfl,⟨List.nodup_nil,fun b hb=>by cases hb⟩,hE,by rw [KM_nil];exact h⟩
theorem St'.mono{n0 n1:Nat}{ms:List Nat}{β':Nat→Option BI}{nr nr1:Bool}(hnr:nr=true→ms=[]∧nr1=true)(hm:MOk K ms)(hE:Ext n0 n1 β β'){a:Act}(h:St' P (KM K ms) N n1 β' (marks ms++ds) nr1 s a w):St' P K N n0 β ds nr s a w:=by
 obtain⟨ms',b,h0,h1,h2,h3,h4⟩:=h
 refine⟨ms'++ms,b,fun hh=>by rw [(hnr hh).1,h0 (hnr hh).2];rfl,?_,hm.app h2,hE.trans h3,by rw [←KM_KM];exact h4⟩
 rw [h1]
 simp [marks,List.append_assoc]
theorem PostR.mono{n0 n1:Nat}{ms:List Nat}{β':Nat→Option BI}{nr nr1:Bool}(hnr:nr=true→ms=[]∧nr1=true)(hm:MOk K ms)(hE:Ext n0 n1 β β'){r:R}{e:Exit}{a:Act}(h:PostR P (KM K ms) N n1 β' (marks ms++ds) nr1 r e a w):PostR P K N n0 β ds nr r e a w:=by
 cases r with
 |bad=>exact h
 |_=>exact⟨h.1,h.2.mono hnr hm hE⟩
theorem FW_calm{ρ:Option Nat}{fr:Frame}{cs:List Frame}{w:World}(ha:fr.about P w=none):(lone fr cs w).fenced P (FW ρ):=fenced_calm (n:=0) trivial (FW_room ρ _) ha
def LW(ρ:Option Nat)(P:Program)(c:Code)(Q:Exit→Act→World→Prop)(a:Act)(w:World):Prop:=
 ∀(b:Frame) (k:List Item) (cs:List Frame),b.roundOf=ρ→∃e a' w',Q e a' w'∧ArrivesIn (Machine.fenced P (FW ρ)) P (lone (b.atR a (.code c :: .inLoop c::k)) cs w) b k cs e a' w'
theorem LW.wp{ρ:Option Nat}{c:Code}{Q:Exit→Act→World→Prop}{a:Act}(h:LW ρ P c Q a w):(Code.loop c).wpIn (FW ρ) 0 P Q a w:=fun b k cs hro hb hr=>
 let ⟨e,a',w',hq,harr⟩:=h b k cs hro
 ⟨e,a',w',hq,.of_steps (.one (FW_calm rfl) stepR_loop) harr⟩
theorem LW.round{ρ:Option Nat}{n0:Nat}{nr:Bool}{c:Code}{r:R}{Q:Exit→Act→World→Prop}{a:Act}(h:c.wpIn (FW ρ) 0 P (PostR P K N n0 β ds nr r) a w)(hn:∀s a' w',r = .nrm s→St' P K N n0 β ds nr s a' w'→LW ρ P c Q a' w')(hx:∀e a' w',(∀s,r ≠ .nrm s)→PostR P K N n0 β ds nr r e a' w'→Q e a' w'):LW ρ P c Q a w:=by
 intro b k cs hro
 obtain⟨e,a₁,w₁,hq,harr⟩:=h b (.inLoop c::k) cs hro trivial (FW_room _ _)
 cases r with
 |nrm s=>
  obtain⟨rfl,h1⟩:=hq
  obtain⟨e₂,a₂,w₂,hq₂,harr₂⟩:=hn s a₁ w₁ rfl h1 b k cs hro
  exact⟨e₂,a₂,w₂,hq₂,.of_steps (StepsIn.trans harr (.one (FW_calm rfl) stepR_inLoop)) harr₂⟩
 |ext id s=>
  have:=hx e a₁ w₁ (by simp) hq
  obtain⟨rfl,h1⟩:=hq
  exact⟨_,a₁,w₁,this,.pass (x:=.inLoop c) rfl (fun _ _=>.inl (by simp)) harr⟩
 |ret s=>
  have:=hx e a₁ w₁ (by simp) hq
  obtain⟨rfl,h1⟩:=hq
  exact⟨_,a₁,w₁,this,.pass (x:=.inLoop c) rfl (fun _ _=>.inl (by simp)) harr⟩
 |bad=>exact hq.elim
theorem wpIn_scope{ρ:Option Nat}{c:Code}{Q:Exit→Act→World→Prop}{a:Act}(h:c.wpIn (FW ρ) 0 P (Exit.noGoto Q) a w):(Code.scope c).wpIn (FW ρ) 0 P Q a w:=by
 intro b k cs hro hb hr
 have s1:Go.step P (lone (b.atR a (.code (.scope c)::k)) cs w) = .next (lone (b.atR a (.code c :: .inScope c::k)) cs w):=step_lone_go (by simp [stepG,stepG.exec,Frame.atR])
 have s2:∀a w,Go.step P (lone (b.atR a (.inScope c::k)) cs w) = .next (lone (b.atR a k) cs w):=fun a w=>step_lone_go (by simp [stepG,stepG.exec,Frame.atR])
 obtain⟨e,a₁,w₁,hq,harr⟩:=h b (.inScope c::k) cs hro hb hr
 have i1:(lone (b.atR a (.code (.scope c)::k)) cs w).fenced P (FW ρ):=FW_calm rfl
 cases e with
 |normal=>exact⟨.normal,a₁,w₁,hq,.head i1 s1 (StepsIn.trans harr (.one (FW_calm rfl) (s2 _ _)))⟩
 |exit id=>
  have hx:exitTo id (.inScope c::k)=exitTo id k:=by simp [exitTo]
  exact⟨.exit id,a₁,w₁,hq,fun k' hk=>.head i1 s1 (harr.1 k' (by rw [hx];exact hk)),fun hr' hk=>let ⟨k₁,h1,h2⟩:=harr.2 hr' (by rw [hx];exact hk);⟨k₁,h1,.head i1 s1 h2⟩⟩
 |goto l=>exact hq.elim
 |ret=>exact⟨_,a₁,w₁,hq,.of_steps (.one i1 s1) harr⟩
 |panic ch=>exact⟨_,a₁,w₁,hq,.of_steps (.one i1 s1) harr⟩
 |outgrown=>exact⟨_,a₁,w₁,hq,.of_steps (.one i1 s1) harr⟩
theorem resV_run(h:SimC P K N β s tmps w)(htt:TTok P tt=true){x:ResultVar}{c:CV}(hx:resV (mkT tt) s x=some c):∃v,(resRead tmps x).run P w = .ok v w∧CR β v c:=by
 cases x with
 |tmp t=>exact⟨_,rfl,h.slot t c hx⟩
 |cell a t=>
  obtain⟨ad,u,h1,h2,h3⟩:=load_run h htt hx
  have h1:tmps.getD a undef = .pointer (some ad):=h1
  exact⟨u,by simp [resRead,h1,asAddr,h2],h3⟩
theorem resL_run(h:SimC P K N β s tmps w)(htt:TTok P tt=true):∀{xs:List ResultVar} {cs:List CV},mapO (resV (mkT tt) s) xs=some cs→
    ∃vs:List Value,(xs.mapM (resRead tmps)).run P w = .ok vs w∧vs.length=cs.length∧∀(i:Nat) v c,vs[i]? = some v→cs[i]? = some c→CR β v c
  |[],cs,hx=>by cases hx;exact⟨[],rfl,rfl,by simp⟩
  |x::xs,cs,hx=>by
    have e:mapO (resV (mkT tt) s) (x::xs)=match resV (mkT tt) s x,mapO (resV (mkT tt) s) xs with|some y,some ys=>some (y::ys)|_,_=>none:=by
      have e0:mapO (resV (mkT tt) s) (x::xs)=Option.rec (motive:=fun _=>Option (List CV)) none (fun y=>Option.rec (motive:=fun _=>Option (List CV)) none (fun ys=>some (y::ys)) (mapO (resV (mkT tt) s) xs)) (resV (mkT tt) s x):=rfl
      rw [e0];cases resV (mkT tt) s x<;>cases mapO (resV (mkT tt) s) xs<;>rfl
    rw [e]at hx
    split at hx
    case h_2=>cases hx
    rename_i d ds hd hds
    cases hx
    obtain⟨v,hv,hrep⟩:=resV_run h htt hd
    obtain⟨vs,hvs,hl,hr⟩:=resL_run h htt hds
    refine⟨v::vs,?_,by simp [hl],fun i u c hu hc=>?_⟩
    · simp only [List.mapM_cons,Sem.run_bind,hv,Result.andThen_ok,hvs,Sem.run_pure]
    · cases i with
      |zero=>simp at hu hc;subst hu;subst hc;exact hrep
      |succ i=>simp at hu hc;exact hr i u c hu hc
theorem res_run(h:SimC P K N β s tmps w)(htt:TTok P tt=true){fn:Func}{c:CV}(hx:resC (mkT tt) s fn.results.toList=some c):∃v,(results fn tmps).run P w = .ok v w∧CR β v c:=by
  have hm:∀{vs:List Value},(fn.results.toList.mapM (resRead tmps)).run P w = .ok vs w→
      (results fn tmps).run P w = .ok (if h:vs.length=1 then vs[0]else .tuple ⟨vs⟩) w:=by
    intro vs hvs
    have hres:results fn tmps=(do let vs ←fn.results.mapM (resRead tmps);pure (if h:vs.size=1 then vs[0]else .tuple vs)):=by
      unfold results
      congr 2
    rw [hres,show fn.results=⟨fn.results.toList⟩from rfl,List.mapM_toArray]
    simp only [Sem.run_bind,Sem.run_map,hvs,Result.andThen_ok,Sem.run_pure]
    simp
  unfold resC at hx
  split at hx
  · rename_i x he
    obtain⟨v,h1,h2⟩:=resV_run h htt hx
    refine⟨v,?_,h2⟩
    have:=hm (vs:=[v]) (by rw [he];simp only [List.mapM_cons,List.mapM_nil,Sem.run_bind,h1,Result.andThen_ok,Sem.run_pure])
    simpa using this
  · rename_i hne
    rw [Option.map_eq_some_iff]at hx
    obtain⟨cs,hcs,rfl⟩:=hx
    obtain⟨vs,h1,h2,h3⟩:=resL_run h htt hcs
    refine⟨.tuple ⟨vs⟩,?_,.tup vs cs h2 h3⟩
    have hl:vs.length≠1:=by
      rw [h2,(mapO_get hcs).1]
      intro hh
      obtain⟨x,hx⟩:=List.length_eq_one_iff.1 hh
      exact hne x hx
    have:=hm h1
    simpa [hl]using this
end
end Go.Ab.Cm
namespace Go.Ab.Cm
section
variable {P:Program} {tt:TT} {eq:EqT} {fs:T Func} {sp:T Spec}
def FsOk (P : Program) (fs : T Func) : Prop := ∀ f fn, fs.at' f = some fn → P.funcs[f]? = some fn ∧ decide (fn.name = "runtime.NumGoroutine") = false
def SpOk(P:Program)(sp:T Spec):Prop:=∀f k,sp.at' f=some k→SpecOk P f k
def EvOk(P:Program)(ev:Ev):Prop:=∀N c s r,ev N c s=r→r ≠ .bad→∀ ρ,(ρ≠none→noRF c=true)→∀(K:Ctx) (ds:List Deferred) (w:World) (tmps:Array Value) (β:Nat→Option BI),SimC P K N β s tmps w→
 c.wpIn (FW ρ) 0 P (PostR P K N s.nx β ds (noRF c) r) ⟨tmps,ds⟩ w∧∀b,c = .loop b→LW ρ P b (PostR P K N s.nx β ds (noRF c) r) ⟨tmps,ds⟩ w
theorem leaves_marks{K:Ctx}{N:Nat}{β:Nat→Option BI}{s:S}{fn:Func}{tmps:Array Value}{Q:Ending→World→Prop}{rest:List Deferred}:∀(ms:List Nat) (w:World),MOk K ms→SimC P (KM K ms) N β s tmps w→(∀w',SimC P K N β s tmps w'→LeavesInM (FW none) 0 P fn tmps Q rest .returning w')→LeavesInM (FW none) 0 P fn tmps Q (marks ms++rest) .returning w
 |[],w,_,hs,hQ=>by rw [KM_nil]at hs;exact hQ w hs
 |b::ms,w,hm,hs,hQ=>by
  have hb:w.heap[b]? = some (.deferred (some [])):=hs.frame b _ (by simp [KM])
  have hm':MOk K ms:=⟨(List.nodup_cons.1 hm.1).2,fun x hx=>hm.2 x (List.mem_cons_of_mem _ hx)⟩
  have hnb:b∉ms:=(List.nodup_cons.1 hm.1).1
  have hFb:K.F b=none:=hm.2 b (by simp)
  refine⟨by simp,.inl ⟨b,w.putObj b (.deferred none),rfl,run_takeDeferred hb,leaves_marks ms _ hm' ?_ hQ⟩⟩
  have hoth:∀k,k≠b→(w.putObj b (.deferred none)).heap[k]? = w.heap[k]? := fun k hk=>World.putObj_heap_other hk
  refine⟨hs.size,hs.slot,fun r x hr=>?_,hs.inj,hs.lt,fun k ob hk=>?_,hs.oo,gd_KM hm' (gd_unKM hs.good)⟩
  ·obtain⟨bi,h1,h2,h3⟩:=hs.blk r x hr
   have hne:bi.b≠b:=by
    intro he
    rw [he]at h2
    simp [KM]at h2
   refine⟨bi,h1,?_,h3.keep (fun _ _ h=>h) (hoth _ hne)⟩
   simp only [KM,List.mem_cons]at h2 ⊢
   by_cases hmm:bi.b∈ms
   ·simp [hmm]at h2
   ·rw [if_neg hmm]
    rw [if_neg (by rintro (h|h);exact hne h;exact hmm h)]at h2
    exact h2
  ·have hkb:k≠b:=by
    rintro rfl
    simp only [KM]at hk
    rw [if_neg hnb,hFb]at hk;cases hk
   rw [hoth k hkb]
   refine hs.frame k ob ?_
   simp only [KM,List.mem_cons]at hk ⊢
   by_cases hmm:k∈ms
   ·rw [if_pos (.inr hmm)];rw [if_pos hmm]at hk;exact hk
   ·rw [if_neg (by rintro (h|h);exact hkb h;exact hmm h)];rw [if_neg hmm]at hk;exact hk
theorem start_ok{K:Ctx}{fn:Func}{args:List CV}{vs:List Value}{β:Nat→Option BI}{H:T Blk}{nx:Nat}{w:World}(hlen:vs.length=args.length)(hargs:∀(i:Nat) u c,vs[i]? = some u→args[i]? = some c→CR β u c)(hle:args.length≤fn.ntmps)(hsim:SimC P K 0 β ⟨.e,H,nx⟩ #[] w):
    SimC P K fn.ntmps β ⟨putL args 0 .e,H,nx⟩ ((⟨vs⟩:Array Value)++Array.replicate (fn.ntmps-(⟨vs⟩:Array Value).size) undef) w:=by
  refine⟨by simp;omega,fun t v ht=>?_,hsim.blk,hsim.inj,hsim.lt,hsim.frame,hsim.oo,hsim.good⟩
  rw [putL_at,T.at_e]at ht
  by_cases h1:t<args.length
  · rw [if_pos (by omega)]at ht
    have hv:vs[t]? = some vs[t]:=List.getElem?_eq_getElem (by omega)
    have:((⟨vs⟩:Array Value)++Array.replicate (fn.ntmps-(⟨vs⟩:Array Value).size) undef).getD t undef=vs[t]:=by
      rw [Array.getD_eq_getD_getElem?,Array.getElem?_append_left (by simp;omega)]
      simp [hv]
    rw [this]
    exact hargs t _ v hv (by simpa using ht)
  · rw [if_neg (by omega)]at ht;cases ht
theorem callB_ok(htt:TTok P tt=true)(hfs:FsOk P fs){ih:Ev}(hih:EvOk P ih):∀f args H nx n,callB (mkT tt) fs ih f args H nx=some n→CCalls P f args H nx n:=by
  intro f args H nx n h
  unfold callB at h
  split at h
  case h_2=>cases h
  rename_i fn hf
  obtain⟨k1,k2⟩:=hfs _ _ hf
  split at h
  case h_2=>cases h
  rename_i c hb
  rw [Bool.cond_eq_ite]at h
  split at h
  case isFalse=>cases h
  rename_i hle
  rw [lenR_eq,Nat.ble_eq]at hle
  refine⟨⟨fn,k1,by rw [hb];rfl,by simpa using k2⟩,fun K w vs β hlen hargs hsim=>?_⟩
  have fin:∀r,ih fn.ntmps c ⟨putL args 0 .e,H,nx⟩=r→(∃s,(r = .nrm s∨r = .ret s)∧(resC (mkT tt) s fn.results.toList).map (fun v=>(⟨v,s.H,s.nx⟩:New))=some n)→
      Calls P f ⟨vs⟩ w fun e w'=>∃u β',e = .returned u∧Ext nx n.nx β β'∧SimC P K 0 β' ⟨.e,n.H,n.nx⟩ #[] w'∧CR β' u n.v:=by
    rintro r hr ⟨s,hrs,hv⟩
    obtain⟨hwp,_⟩:=hih _ _ _ _ hr (by rcases hrs with rfl|rfl<;>simp) none (fun h=>absurd rfl h) K [] w _ β (start_ok hlen hargs hle hsim)
    rw [Option.map_eq_some_iff]at hv
    obtain⟨v,hv,rfl⟩:=hv
    refine(callsIn_wide (n:=0)).1 (callsIn_of_wp_marks (F:=FW none) (n:=0) k1 hb trivial (wpIn_mono hwp ?_))
    intro e a' w' hp
    rcases hrs with rfl|rfl
    all_goals
      obtain⟨rfl,ms,β',_,hd,hmo,hm,hs⟩:=hp
      show LeavesInM (FW none) 0 P fn a'.tmps _ a'.defers .returning w'
      rw [hd]
      refine leaves_marks ms w' hmo hs fun w2 hs2=>?_
      obtain⟨u,h1,h2⟩:=res_run hs2 htt hv
      exact⟨u,h1,u,β',rfl,hm,hs2.heap,h2⟩
  split at h
  · rename_i s hr;exact fin _ hr ⟨s,.inl rfl,h⟩
  · rename_i s hr;exact fin _ hr ⟨s,.inr rfl,h⟩
  · cases h
theorem callN_ok(htt:TTok P tt=true)(hfs:FsOk P fs){ih:Ev}(hih:EvOk P ih):CallOk P (callN (mkT tt) fs ih):=⟨callB_ok htt hfs hih,fun _ _ _ _ _ h=>by cases h⟩
inductive DsR(P:Program)(β:Nat→Option BI):List Deferred→List Dfr→Prop where
 |nil:DsR P β [] []
 |cons (f:FuncId) (caps args:Array Value) (vs:List CV) (dv:List Deferred) (ds:List Dfr) (hl:(args++caps).toList.length=vs.length)
  (h:∀(i:Nat) u c,(args++caps).toList[i]? = some u→vs[i]? = some c→CR β u c) (t:DsR P β dv ds):DsR P β ({target:=.fn (.func f) caps,args:=args}::dv) ((f,vs)::ds)
theorem DsR.mono{β β':Nat→Option BI}(hm:∀r bi,β r=some bi→β' r=some bi){dv:List Deferred}{ds:List Dfr}(h:DsR P β dv ds):DsR P β' dv ds:=by
 induction h with
 |nil=>exact .nil
 |cons f caps args vs dv ds hl h _ ih=>exact .cons f caps args vs dv ds hl (fun i u c hu hc=>(h i u c hu hc).mono hm) ih
def StT(P:Program)(K:Ctx)(N n0:Nat)(β:Nat→Option BI)(ds:List Dfr)(s:S)(a:Act)(w:World):Prop:=∃ β',Ext n0 s.nx β β'∧DsR P β' a.defers ds∧SimC P K N β' s a.tmps w
def PostT(P:Program)(K:Ctx)(N n0:Nat)(β:Nat→Option BI)(r:RT)(e:Exit)(a:Act)(w:World):Prop:=
 match r with
 |.nrm ds s=>e = .normal∧StT P K N n0 β ds s a w
 |.ext id ds s=>e = .exit id∧StT P K N n0 β ds s a w
 |.ret ds s=>e = .ret∧StT P K N n0 β ds s a w
 |.bad=>False
theorem PostT.mono{K:Ctx}{N n0 n1:Nat}{β β':Nat→Option BI}(hm:Ext n0 n1 β β'){r:RT}{e:Exit}{a:Act}{w:World}(h:PostT P K N n1 β' r e a w):PostT P K N n0 β r e a w:=by
 cases r with
 |bad=>exact h
 |_=>
  obtain⟨h1,b,h2,h3⟩:=h
  exact⟨h1,b,hm.trans h2,h3⟩
theorem post_lift{K:Ctx}{N n0:Nat}{β:Nat→Option BI}{dv:List Deferred}{ds:List Dfr}{r:R}{e:Exit}{a:Act}{w:World}(hd:DsR P β dv ds)(h:PostR P K N n0 β dv true r e a w):PostT P K N n0 β (liftT ds r) e a w:=by
 cases r with
 |bad=>exact h
 |_=>
  obtain⟨h1,ms,b,h0,h2,_,h3,h4⟩:=h
  obtain rfl:=h0 rfl
  rw [KM_nil]at h4
  exact⟨h1,b,h3,by rw [h2];exact hd.mono h3.mono,h4⟩
theorem lastD_spec:∀{l:List Oper} {c:Call},lastD l=some c→∃o,l=l.take (l.length-1)++[o]∧o.op = .defer c∧o.guard=none∧o.dst=none
 |[],c,h=>by cases h
 |[o],c,h=>by
  unfold lastD at h
  split at h
  ·rename_i h1 h2 h3;cases h;exact⟨o,rfl,h1,h2,h3⟩
  ·cases h
 |o'::o::l,c,h=>by
  have h:lastD (o::l)=some c:=h
  obtain⟨x,h1,h2⟩:=lastD_spec h
  refine⟨x,?_,h2⟩
  have e:(o'::o::l).length-1=((o::l).length-1)+1:=by simp
  rw [e,List.take_succ_cons,List.cons_append,←h1]
theorem dfr_run{K:Ctx}{N:Nat}{β:Nat→Option BI}{s:S}{tmps:Array Value}{w:World}{o:Oper}(h:SimC P K N β s tmps w){c:Call}(ho:o.op = .defer c){d:Dfr}(hd:dfrC s c=some d):
    ∃caps args,(execOp (Act.eval ⟨tmps,[]⟩) o).run P w = .ok (.defer {target:=.fn (.func d.1) caps,args:=args}) w∧(args++caps).toList.length=d.2.length∧∀(i:Nat) u c,(args++caps).toList[i]? = some u→d.2[i]? = some c→CR β u c:=by
  unfold dfrC at hd
  split at hd
  case h_2=>cases hd
  rename_i x hcal
  split at hd
  case h_2=>cases hd
  rename_i f caps vs hx hvs
  cases hd
  obtain⟨g1,g2⟩:=mapO_get hvs
  have e:=evO_rep h hx
  generalize hvx:(⟨tmps,[]⟩:Act).eval x=ux at e
  cases e with
  |fn _ us _ hn hr=>
    refine⟨⟨us⟩,c.args.map (⟨tmps,[]⟩:Act).eval,by simp [execOp,ho,resolve,hcal,hvx,Deferred.ofValue],by simp [g1,hn],fun i u k hu hk=>?_⟩
    have e1:(c.args.map (⟨tmps,[]⟩:Act).eval++(⟨us⟩:Array Value)).toList=c.args.toList.map (⟨tmps,[]⟩:Act).eval++us:=by simp
    rw [e1]at hu
    simp only at hk
    by_cases hi:i<vs.length
    · rw [List.getElem?_append_left hi]at hk
      rw [List.getElem?_append_left (by simpa [←g1]using hi),List.getElem?_map,Option.map_eq_some_iff]at hu
      obtain⟨y,hy,rfl⟩:=hu
      exact evO_rep h (g2 i y k hy hk)
    · rw [List.getElem?_append_right (by omega)]at hk
      rw [List.getElem?_append_right (by simp [←g1];omega)]at hu
      simp only [List.length_map,←g1]at hu
      exact hr _ u k hu hk
theorem evT_ok(htt:TTok P tt=true)(heq:EqOk P tt eq){call:Call'}(hcall:CallOk P call){ih:Ev}(hih:EvOk P ih):
    ∀n N c ds s r,evT (mkT tt) eq call ih n N c ds s=r→r ≠ .bad→noRF c=true→∀(K:Ctx) (dv:List Deferred) (w:World) (tmps:Array Value) (β:Nat→Option BI),SimC P K N β s tmps w→DsR P β dv ds→c.wp P (PostT P K N s.nx β r) ⟨tmps,dv⟩ w
  | 0=>fun N c ds s r h hb=>by cases h;exact absurd rfl hb
  |n+1=>fun N c ds s r h hb hnr K dv w tmps β hsim hds=>by
    have iht:=evT_ok htt heq hcall hih n
    replace h:codeT (mkT tt) eq call ih (evT (mkT tt) eq call ih n) N c ds s=r:=h
    have plain:∀{c:Code},noRF c=true→liftT ds (ih N c s)=r→c.wp P (PostT P K N s.nx β r) ⟨tmps,dv⟩ w:=by
      intro c hnc h
      have hnb:ih N c s ≠ .bad:=fun hh=>by rw [hh]at h;subst h;exact hb rfl
      rw [←h]
      have h9:=(hih _ _ _ _ rfl hnb none (fun h=>absurd rfl h) K dv w tmps β hsim).1
      rw [hnc]at h9
      exact wp_mono ((wpIn_wide (n:=0)).1 h9) fun e a w hp=>post_lift hds hp
    unfold codeT at h
    split at h
    · rename_i a b
      simp only [noRF,Bool.and_eq_true]at hnr
      cases hr:evT (mkT tt) eq call ih n N a ds s with
      |bad=>rw [hr]at h;subst h;exact absurd rfl hb
      |nrm ds1 s1=>
        rw [hr]at h
        refine wp_seq (wp_mono (iht _ _ _ _ _ hr (by simp) hnr.1 K dv w tmps β hsim hds) ?_)
        rintro e ⟨t1,d1⟩ w1 ⟨rfl,β1,hm,hd1,h2⟩
        exact wp_mono (iht _ _ _ _ _ h hb hnr.2 K d1 w1 t1 β1 h2 hd1) fun e a w hp=>hp.mono hm
      |ext id ds1 s1=>
        rw [hr]at h;subst h
        refine wp_seq (wp_mono (iht _ _ _ _ _ hr (by simp) hnr.1 K dv w tmps β hsim hds) ?_)
        rintro e a1 w1 ⟨rfl,h2⟩
        exact⟨rfl,h2⟩
      |ret ds1 s1=>
        rw [hr]at h;subst h
        refine wp_seq (wp_mono (iht _ _ _ _ _ hr (by simp) hnr.1 K dv w tmps β hsim hds) ?_)
        rintro e a1 w1 ⟨rfl,h2⟩
        exact⟨rfl,h2⟩
    · rename_i b
      refine wp_scope_straight (wp_mono (iht _ _ _ _ _ h hb hnr K dv w tmps β hsim hds) ?_)
      intro e a1 w1 hp
      cases r with
      |bad=>exact absurd rfl hb
      |nrm ds1 s1=>obtain⟨rfl,h2⟩:=hp;exact⟨rfl,h2⟩
      |ext i ds1 s1=>obtain⟨rfl,h2⟩:=hp;exact⟨rfl,h2⟩
      |ret ds1 s1=>obtain⟨rfl,h2⟩:=hp;exact⟨rfl,h2⟩
    · rename_i id b
      cases hr:evT (mkT tt) eq call ih n N b ds s with
      |bad=>rw [hr]at h;subst h;exact absurd rfl hb
      |nrm ds1 s1=>
        rw [hr]at h;subst h
        refine wp_block (wp_mono (iht _ _ _ _ _ hr (by simp) hnr K dv w tmps β hsim hds) ?_)
        rintro e a1 w1 ⟨rfl,h2⟩
        exact⟨rfl,h2⟩
      |ret ds1 s1=>
        rw [hr]at h;subst h
        refine wp_block (wp_mono (iht _ _ _ _ _ hr (by simp) hnr K dv w tmps β hsim hds) ?_)
        rintro e a1 w1 ⟨rfl,h2⟩
        exact⟨rfl,h2⟩
      |ext i ds1 s1=>
        rw [hr]at h
        refine wp_block (wp_mono (iht _ _ _ _ _ hr (by simp) hnr K dv w tmps β hsim hds) ?_)
        rintro e a1 w1 ⟨rfl,h2⟩
        simp only [Exit.inBlock]
        have h:(Bool.rec (motive:=fun _=>RT) (.ext i ds1 s1) (.nrm ds1 s1) (Nat.beq i id):RT)=r:=h
        by_cases hi:i=id
        · rw [if_pos hi]
          have:Nat.beq i id=true:=by simpa using hi
          rw [this]at h;subst h
          exact⟨rfl,h2⟩
        · rw [if_neg hi]
          have:Nat.beq i id=false:=by rw [Bool.eq_false_iff];simpa using hi
          rw [this]at h;subst h
          exact⟨rfl,h2⟩
    · rename_i id ops
      split at h
      case h_2=>exact plain rfl h
      rename_i c hl
      split at h
      case h_2=>subst h;exact absurd rfl hb
      rename_i s1 hst
      split at h
      case h_2=>subst h;exact absurd rfl hb
      rename_i d hd
      subst h
      obtain⟨o,h1,h2,h3,h4⟩:=lastD_spec hl
      rw [takeR_eq,lenR_eq]at hst
      have hpos:0<ops.toList.length:=by
        rcases Nat.eq_zero_or_pos ops.toList.length with h0|h0
        · rw [List.eq_nil_of_length_eq_zero h0]at h1;simp at h1
        · exact h0
      generalize hpre:ops.toList.take (ops.toList.length-1)=pre at h1 hst
      have hpl:pre.length=ops.toList.length-1:=by rw [←hpre];simp
      have hsz:ops.size=pre.length+1:=by
                                                 have:ops.size=ops.toList.length:=by simp
                                                 omega
      have hoi:ops[pre.length]? = some o:=by
        rw [←Array.getElem?_toList,h1];simp
      refine(wpIn_wide (n:=0)).1 (wpIn_region (F:=FW none) ?_)
      have hrange:List.range ops.size=List.range' 0 pre.length++[pre.length]:=by
        rw [hsz,List.range_succ,List.range_eq_range']
      rw [hrange]
      refine steps_wpR htt heq hcall pre 0 s tmps w β s1 (fun j x hj=>by
        rw [Nat.zero_add,h1,List.getElem?_append_left (List.getElem?_eq_some_iff.1 hj).1];exact hj) hsim hst fun tmps' w' β' hm h'=>?_
      obtain⟨caps,args,hrun,hdl,hdr⟩:=dfr_run (P:=P) h' h2 hd
      simp only [wpOpsIn,hoi]
      have hw:Region.wanted o (yielded ops tmps')=true:=by simp [Region.wanted,h3]
      rw [if_pos hw]
      refine⟨fun _ _=>trivial,?_⟩
      have e0:Oper.semAt (FW none).round (Act.eval ⟨tmps',dv⟩) o=execOp (Act.eval ⟨tmps',[]⟩) o:=rfl
      rw [e0,hrun,Oper.uponIn_defer,h4]
      exact⟨rfl,β',hm,.cons d.1 caps args d.2 dv ds hdl hdr (hds.mono hm.mono),h'⟩
    · exact plain hnr h
theorem isRec_spec{o:Oper}{r:Nat}(h:isRec o=some r):(∃c,o.op = .call c∧c.callee = .builtin .recover∧c.args = #[])∧o.guard=none∧o.dst=some r:=by
 unfold isRec at h
 split at h
 ·rename_i h1 h2 h3
  cases h
  exact⟨⟨_,h1,rfl,rfl⟩,h2,h3⟩
 ·cases h
theorem steps_wpS(htt:TTok P tt=true)(heq:EqOk P tt eq){call:Call'}(hcall:CallOk P call)(hy:∀q vs H nx,call.y q vs H nx=none){K:Ctx}{N:Nat}{opsA:Array Oper}{cs:List Frame}{Q:Exit→Act→List Frame→World→Prop}:
    ∀(l:List Oper) (k:Nat) (s:S) (tmps:Array Value) (w:World) (β:Nat→Option BI) (s':S),(∀(j:Nat) o,l[j]? = some o→opsA.toList[k+j]? = some o)→SimC P K N β s tmps w→steps (mkT tt) eq call N opsA.toList l s=some s'→
      (∀tmps' w' β',Ext s.nx s'.nx β β'→SimC P K N β' s' tmps' w'→Q .normal ⟨tmps',[]⟩ cs w')→wpOpsS P opsA Q (List.range' k l.length) ⟨tmps,[]⟩ cs w
  |[],k,s,tmps,w,β,s',_,h,hs,hQ=>by cases hs;exact hQ tmps w β (.refl _ _) h
  |o::l,k,s,tmps,w,β,s',hl,h,hs,hQ=>by
    have hk:opsA[k]? = some o:=by
      have:=hl 0 o rfl
      rw [←Array.getElem?_toList];simpa using this
    have e:steps (mkT tt) eq call N opsA.toList (o::l) s=match step (mkT tt) eq call N opsA.toList s o with|some s1=>steps (mkT tt) eq call N opsA.toList l s1|none=>none:=by
      have e0:steps (mkT tt) eq call N opsA.toList (o::l) s=Option.rec (motive:=fun _=>Option S) none (fun s1=>steps (mkT tt) eq call N opsA.toList l s1) (step (mkT tt) eq call N opsA.toList s o):=rfl
      rw [e0];cases step (mkT tt) eq call N opsA.toList s o<;>rfl
    rw [e]at hs
    split at hs
    case h_2=>cases hs
    rename_i s1 hs1
    simp only [List.length_cons,List.range'_succ,wpOpsS,hk]
    have hgo:∀tmps' w' β',Ext s.nx s1.nx β β'→SimC P K N β' s1 tmps' w'→wpOpsS P opsA Q (List.range' (k+1) l.length) ⟨tmps',[]⟩ cs w':=fun tmps' w' β' hm h'=>
      steps_wpS htt heq hcall hy l (k+1) s1 tmps' w' β' s' (fun j o' hj=>by have:=hl (j+1) o' (by simpa using hj);simpa [Nat.add_assoc,Nat.add_comm 1 j]using this) h' hs fun t2 w2 b2 hm2 h2=>hQ t2 w2 b2 (hm.trans hm2) h2
    have fin:∀{β':Nat→Option BI} {u:Value} {v:CV} {H:T Blk} {nx:Nat} {w':World},Ext s.nx nx β β'→SimC P K N β' ⟨s.env,H,nx⟩ tmps w'→CR β' u v→setD N o.dst v ⟨s.env,H,nx⟩=some s1→wpOpsS P opsA Q (List.range' (k+1) l.length) ((⟨tmps,[]⟩:Act).put o.dst u) cs w':=by
      intro β' u v H nx w' hm h1 h2 h3
      obtain⟨h4,h5⟩:=setD_ok (ds:=[]) h1 h2 h3
      generalize (⟨tmps,[]⟩:Act).put o.dst u=a at h4 h5
      obtain⟨t',d'⟩:=a
      simp only at h4 h5
      subst h5
      exact hgo t' w' β' (by rw [setD_nx h3];exact hm) h4
    rw [Cm.step_eq]at hs1
    split at hs1
    case h_3=>cases hs1
    · rename_i hw
      rw [wantC_ok h hw,if_pos rfl]
      have hd:=any_cases (P:=P) (o:=o) htt heq hcall h
      split at hs1
      case h_3=>cases hs1
      · rename_i v H nx hr
        rcases hd _ hr with⟨u,w',β',h1,h2,h3,h4⟩|⟨fn,vs,v',H',nx',he,h1,h2⟩|⟨l',f,tm,as,bo,v',H',nx',he,h1,h2,q,vs,n,h3⟩
        · rw [h1];exact fin h2 h3 h4 hs1
        · cases he
          rw [h1]
          refine h2.mono ?_
          rintro e w' ⟨u,rfl,β',k2,k3,k4⟩
          exact fin k2 k3 k4 hs1
        · rw [hy]at h3;cases h3
      · rename_i H hr
        rcases hd _ hr with⟨w',h1,h2⟩|⟨fn,vs,v',H',nx',he,_⟩|⟨l',f,tm,as,bo,v',H',nx',he,_⟩
        · rw [h1];exact fin (.refl _ _) h2 .und hs1
        · cases he
        · cases he
    · rename_i hw
      rw [wantC_ok h hw]
      simp only [Bool.false_eq_true,if_false]
      exact fin (.refl _ _) h .und hs1
def PostV(P:Program)(K:Ctx)(N n0:Nat)(β:Nat→Option BI)(cs0:List Frame)(r:R)(e:Exit)(a:Act)(cs:List Frame)(w:World):Prop:=cs=cs0∧PostR P K N n0 β [] true r e a w
theorem evV_ok(htt:TTok P tt=true)(heq:EqOk P tt eq){call:Call'}(hcall:CallOk P call){ih:Ev}(hih:EvOk P ih)(hy:∀q vs H nx,call.y q vs H nx=none)(c0:Frame)(cs0:List Frame)(hc0:c0.mode = .returning):
    ∀n N c s r,evV (mkT tt) eq call ih n N c s=r→r ≠ .bad→noRF c=true→∀(K:Ctx) (w:World) (tmps:Array Value) (β:Nat→Option BI),SimC P K N β s tmps w→c.wpS P (PostV P K N s.nx β (c0::cs0) r) ⟨tmps,[]⟩ (c0::cs0) w
  | 0=>fun N c s r h hb=>by cases h;exact absurd rfl hb
  |n+1=>fun N c s r h hb hnr K w tmps β hsim=>by
    have ihv:=evV_ok htt heq hcall hih hy c0 cs0 hc0 n
    replace h:codeV (mkT tt) eq call ih (evV (mkT tt) eq call ih n) N c s=r:=h
    have plain:∀{c:Code},noRF c=true→ih N c s=r→c.wpS P (PostV P K N s.nx β (c0::cs0) r) ⟨tmps,[]⟩ (c0::cs0) w:=by
      intro c hnc h
      have h9:=(hih _ _ _ _ h hb none (fun h=>absurd rfl h) K [] w tmps β hsim).1
      rw [hnc]at h9
      exact wpS_of_wp (wp_mono ((wpIn_wide (n:=0)).1 h9) fun e a w hp=>⟨rfl,hp⟩)
    have wpS_mono:∀{c:Code} {Q Q':Exit→Act→List Frame→World→Prop} {a:Act} {cs:List Frame} {w:World},(∀e a cs w,Q e a cs w→Q' e a cs w)→c.wpS P Q a cs w→c.wpS P Q' a cs w:=by
      intro c Q Q' a cs w hq h b k hb hr
      obtain⟨e,a',cs',w',h1,h2⟩:=h b k hb hr
      exact⟨e,a',cs',w',hq _ _ _ _ h1,h2⟩
    unfold codeV at h
    split at h
    · rename_i a b
      simp only [noRF,Bool.and_eq_true]at hnr
      refine wpS_seq ?_
      cases hr:evV (mkT tt) eq call ih n N a s with
      |bad=>rw [hr]at h;subst h;exact absurd rfl hb
      |nrm s1=>
        rw [hr]at h
        refine wpS_mono ?_ (ihv _ _ _ _ hr (by simp) hnr.1 K w tmps β hsim)
        rintro e ⟨t1,d1⟩ cs1 w1 ⟨rfl,rfl,ms,β1,h0,hd,hmo,hm,h2⟩
        obtain rfl:=h0 rfl
        rw [KM_nil]at h2
        simp only at hd h2
        have hd:d1=[]:=hd
        subst hd
        show b.wpS P _ ⟨t1,[]⟩ _ w1
        have h9:=(hih _ _ _ _ h hb none (fun h=>absurd rfl h) K [] w1 t1 β1 h2).1
        rw [hnr.2]at h9
        refine wpS_of_wp (wp_mono ((wpIn_wide (n:=0)).1 h9) fun e a w hp=>⟨rfl,?_⟩)
        exact PostR.mono (ms:=[]) (nr1:=true) (fun _=>⟨rfl,rfl⟩) hmo hm (by rw [KM_nil];exact hp)
      |ext id s1=>
        rw [hr]at h;subst h
        refine wpS_mono ?_ (ihv _ _ _ _ hr (by simp) hnr.1 K w tmps β hsim)
        rintro e a1 cs1 w1 ⟨rfl,rfl,h2⟩
        exact⟨rfl,rfl,h2⟩
      |ret s1=>
        rw [hr]at h;subst h
        refine wpS_mono ?_ (ihv _ _ _ _ hr (by simp) hnr.1 K w tmps β hsim)
        rintro e a1 cs1 w1 ⟨rfl,rfl,h2⟩
        exact⟨rfl,rfl,h2⟩
    · rename_i id ops
      split at h
      case h_2=>exact plain rfl h
      rename_i o l hops
      split at h
      case h_2=>exact plain rfl h
      rename_i q hq
      rw [Bool.cond_eq_ite]at h
      split at h
      case isFalse=>subst h;exact absurd rfl hb
      rename_i hlt
      rw [Nat.blt_eq]at hlt
      obtain⟨⟨c,k1,k2,k3⟩,k4,k5⟩:=isRec_spec hq
      cases hst:steps (mkT tt) eq call N ops.toList l ⟨s.env.put q (some .nili),s.H,s.nx⟩ with
      |none=>rw [hst]at h;subst h;exact absurd rfl hb
      |some s1=>
        rw [hst]at h
        refine wpS_region ?_
        have hsz:ops.size=l.length+1:=by
                                                 have:ops.size=ops.toList.length:=by simp
                                                 rw [this,hops];rfl
        have hr:List.range ops.size=0::List.range' 1 l.length:=by rw [hsz,List.range_eq_range',List.range'_succ]
        have ho:ops[0]? = some o:=by rw [←Array.getElem?_toList,hops];rfl
        have hw:Region.wanted o (yielded ops tmps)=true:=by simp [Region.wanted,k4]
        have hrun:(execOp (Act.eval ⟨tmps,[]⟩) o).run P w = .ok .recover w:=by simp [execOp,k1,resolve,k2,k3,invoke,builtin]
        have hrec:recoverD (c0::cs0)=none:=by simp [recoverD,hc0]
        rw [hr]
        simp only [wpOpsS,ho,hw,if_true,hrun,hrec]
        rw [k5]
        have hs2:SimC P K N β ⟨s.env.put q (some .nili),s.H,s.nx⟩ (tmps.setIfInBounds q .nilIface) w:=hsim.put hlt .nili
        show wpOpsS P ops _ _ ⟨tmps.setIfInBounds q .nilIface,[]⟩ _ w
        refine steps_wpS htt heq hcall hy l 1 _ _ w β s1 (fun j o hj=>by rw [hops,Nat.add_comm];simpa using hj) hs2 hst fun tmps' w' β' hm h'=>?_
        subst h
        exact⟨rfl,rfl,St'.of hm h'⟩
    · exact plain hnr h
def VCalls(P:Program)(f:FuncId)(args:List CV)(H:T Blk)(nx:Nat)(n:New):Prop:=
 (∃ fd, P.funcs[f]? = some fd ∧ fd.body.isSome = true ∧ decide (fd.name = "runtime.NumGoroutine") = false) ∧
 ∀(K:Ctx) (w:World) (vs:List Value) (β:Nat→Option BI),vs.length=args.length→(∀(i:Nat) u c,vs[i]? = some u→args[i]? = some c→CR β u c)→SimC P K 0 β ⟨.e,H,nx⟩ #[] w→
  CallsD P f ⟨vs⟩ .returning w fun e u' w'=>∃u β',e = .returned u∧u' = .returning∧Ext nx n.nx β β'∧SimC P K 0 β' ⟨.e,n.H,n.nx⟩ #[] w'
theorem callV_ok(htt:TTok P tt=true)(heq:EqOk P tt eq)(hfs:FsOk P fs){ih:Ev}(hih:EvOk P ih):∀f args H nx n,callV (mkT tt) eq fs ih f args H nx=some n→VCalls P f args H nx n:=by
  intro f args H nx n h
  unfold callV at h
  split at h
  case h_2=>cases h
  rename_i fn hf
  obtain⟨k1,k2⟩:=hfs _ _ hf
  split at h
  case h_2=>cases h
  rename_i c hb
  rw [Bool.cond_eq_ite]at h
  split at h
  case isFalse=>cases h
  rename_i hle
  rw [Bool.and_eq_true,lenR_eq,Nat.ble_eq]at hle
  obtain⟨hle,hnr⟩:=hle
  refine⟨⟨fn,k1,by rw [hb];rfl,k2⟩,fun K w vs β hlen hargs hsim=>?_⟩
  refine callsD_of_wpS k1 hb fun c0 cs0 hc0=>?_
  have fin:∀r,evV (mkT tt) eq (callN (mkT tt) fs ih) ih 100 fn.ntmps c ⟨putL args 0 .e,H,nx⟩=r→(∃s,(r = .nrm s∨r = .ret s)∧(resC (mkT tt) s fn.results.toList).map (fun v=>(⟨v,s.H,s.nx⟩:New))=some n)→
      c.wpS P (bodyPostS P fn c0 cs0 fun e u' w'=>∃u β',e = .returned u∧u' = .returning∧Ext nx n.nx β β'∧SimC P K 0 β' ⟨.e,n.H,n.nx⟩ #[] w') {tmps:=(⟨vs⟩:Array Value)++Array.replicate (fn.ntmps-(⟨vs⟩:Array Value).size) undef,defers:=[]} (c0::cs0) w:=by
    rintro r hr ⟨s,hrs,hv⟩
    have hwp:=evV_ok htt heq (callN_ok htt hfs hih) hih (fun _ _ _ _=>rfl) c0 cs0 hc0 _ _ _ _ _ hr (by rcases hrs with rfl|rfl<;>simp) hnr K w _ β (start_ok hlen hargs hle hsim)
    rw [Option.map_eq_some_iff]at hv
    obtain⟨v,hv,rfl⟩:=hv
    intro b k hb hro
    obtain⟨e,a',cs',w',hp,harr⟩:=hwp b k hb hro
    refine⟨e,a',cs',w',?_,harr⟩
    obtain⟨rfl,hp⟩:=hp
    have hc0':({c0 with mode:=.returning}:Frame)=c0:=by rw [←hc0]
    rcases hrs with rfl|rfl
    all_goals
      obtain⟨rfl,ms,β',h0,hd,_,hm,hs⟩:=hp
      obtain rfl:=h0 rfl
      rw [KM_nil]at hs
      obtain⟨u,h1,h2⟩:=res_run hs htt hv
      exact⟨hd,.returning,by rw [hc0'],u,h1,u,β',rfl,rfl,hm,hs.heap⟩
  split at h
  · rename_i s hr;exact fin _ hr ⟨s,.inl rfl,h⟩
  · rename_i s hr;exact fin _ hr ⟨s,.inr rfl,h⟩
  · cases h
theorem runDs_ok{cv:CallC}(hcv:∀f args H nx n,cv f args H nx=some n→VCalls P f args H nx n){fn:Func}{Q:Ending→World→Prop}{K:Ctx}{N:Nat}{env:T CV}{tmps:Array Value}:∀(ds:List Dfr) (dv:List Deferred) (H:T Blk) (nx:Nat) (x:Hn) (w:World) (β:Nat→Option BI),
    runDs cv ds H nx=some x→DsR P β dv ds→SimC P K N β ⟨env,H,nx⟩ tmps w→(∀w' β',Ext nx x.nx β β'→SimC P K N β' ⟨env,x.H,x.nx⟩ tmps w'→∃v,(results fn tmps).run P w' = .ok v w'∧Q (.returned v) w')→Leaves P fn tmps Q dv .returning w
  |[],dv,H,nx,x,w,β,h,hds,hs,hQ=>by
    cases h
    cases hds
    exact hQ w β (.refl _ _) hs
  |d::ds,dv,H,nx,x,w,β,h,hds,hs,hQ=>by
    have h:Option.rec (motive:=fun _=>Option Hn) none (fun n=>runDs cv ds n.H n.nx) (cv d.1 d.2 H nx)=some x:=h
    cases hn:cv d.1 d.2 H nx with
    |none=>rw [hn]at h;cases h
    |some n=>
      rw [hn]at h
      have h2:runDs cv ds n.H n.nx=some x:=h
      clear h
      cases hds with
      |cons f caps args vs dv' _ hl hr ht=>
        obtain⟨⟨fd,k1,k2,k3⟩,k4⟩:=hcv _ _ _ _ _ hn
        have hbn:fd.body≠none:=by intro hh;rw [hh]at k2;cases k2
        have hnm : fd.name ≠ "runtime.NumGoroutine" := by simpa using k3
        refine leaves_cons (f:=f) (args:=args++caps) (by simp) (by simp [invoke,callFunc,k1,hbn,hnm]) ?_
        refine(k4 K w (args++caps).toList β hl hr hs.heap).mono ?_
        rintro e u' w' ⟨u,β',rfl,rfl,hE,hs'⟩
        exact runDs_ok hcv ds dv' n.H n.nx x w' β' h2 (ht.mono hE.mono) (hs.back hE.mono hs') fun w2 β2 hE2 hs2=>hQ w2 β2 (hE.trans hE2) hs2
theorem callT_ok(htt:TTok P tt=true)(heq:EqOk P tt eq)(hfs:FsOk P fs){ih:Ev}(hih:EvOk P ih):∀f args H nx n,callT (mkT tt) eq fs ih f args H nx=some n→CCalls P f args H nx n:=by
  intro f args H nx n h
  unfold callT at h
  split at h
  case h_2=>cases h
  rename_i fn hf
  obtain⟨k1,k2⟩:=hfs _ _ hf
  split at h
  case h_2=>cases h
  rename_i c hb
  rw [Bool.cond_eq_ite]at h
  split at h
  case isFalse=>cases h
  rename_i hle
  rw [Bool.and_eq_true,lenR_eq,Nat.ble_eq]at hle
  obtain⟨hle,hnr⟩:=hle
  refine⟨⟨fn,k1,by rw [hb];rfl,by simpa using k2⟩,fun K w vs β hlen hargs hsim=>?_⟩
  have fin:∀r,evT (mkT tt) eq (callN (mkT tt) fs ih) ih 1000 fn.ntmps c [] ⟨putL args 0 .e,H,nx⟩=r→(∃ds s,(r = .nrm ds s∨r = .ret ds s)∧∃x,runDs (callV (mkT tt) eq fs ih) ds s.H s.nx=some x∧(resC (mkT tt) ⟨s.env,x.H,x.nx⟩ fn.results.toList).map (fun v=>(⟨v,x.H,x.nx⟩:New))=some n)→
      Calls P f ⟨vs⟩ w fun e w'=>∃u β',e = .returned u∧Ext nx n.nx β β'∧SimC P K 0 β' ⟨.e,n.H,n.nx⟩ #[] w'∧CR β' u n.v:=by
    rintro r hr ⟨ds,s,hrs,x,hx,hv⟩
    have hwp:=evT_ok htt heq (callN_ok htt hfs hih) hih _ _ _ _ _ _ hr (by rcases hrs with rfl|rfl<;>simp) hnr K [] w _ β (start_ok hlen hargs hle hsim) .nil
    rw [Option.map_eq_some_iff]at hv
    obtain⟨v,hv,rfl⟩:=hv
    refine calls_of_wp_defers k1 hb (wp_mono hwp ?_)
    intro e a' w' hp
    rcases hrs with rfl|rfl
    all_goals
      obtain⟨rfl,β',hm,hd,hs⟩:=hp
      refine runDs_ok (callV_ok htt heq hfs hih) ds a'.defers s.H s.nx x w' β' hx hd hs fun w2 β2 hE2 hs2=>?_
      obtain⟨u,h1,h2⟩:=res_run hs2 htt hv
      exact⟨u,h1,u,β2,rfl,hm.trans hE2,hs2.heap,h2⟩
  split at h
  · rename_i ds s hr
    split at h
    case h_2=>cases h
    rename_i x hx
    exact fin _ hr ⟨ds,s,.inl rfl,x,hx,h⟩
  · rename_i ds s hr
    split at h
    case h_2=>cases h
    rename_i x hx
    exact fin _ hr ⟨ds,s,.inr rfl,x,hx,h⟩
  · cases h
end
end Go.Ab.Cm
namespace Go.Ab.Cm
section
variable {P:Program} {tt:TT} {eq:EqT} {fs:T Func} {sp:T Spec}
theorem callF_ok{eq:EqT}(heq:EqOk P tt eq)(htt:TTok P tt=true)(hfs:FsOk P fs)(hsp:SpOk P sp){ih:Ev}(hih:EvOk P ih):∀f args H nx n,callF (mkT tt) eq fs sp ih f args H nx=some n→CCalls P f args H nx n:=by
 intro f args H nx n h
 unfold callF at h
 split at h
 ·exact callT_ok htt heq hfs hih _ _ _ _ _ h
 ·rename_i ms hk;exact(orE_some h).elim (memoC_ok (hsp _ _ hk)) (callB_ok htt hfs hih _ _ _ _ _)
 ·rename_i k _ _ hk;exact spC_ok htt (hsp _ _ hk) h
 ·exact callB_ok htt hfs hih _ _ _ _ _ h
theorem setPs_sim{β:Nat→Option BI}{N:Nat}:∀(ps:List Nat) (vs:List Value) (args:List CV) (env:T CV) (tmps:Array Value),vs.length=args.length→(∀(i:Nat) u c,vs[i]? = some u→args[i]? = some c→CR β u c)→(∀t,t∈ps→t<N)→tmps.size=N→(∀t v,env.at' t=some v→CR β (tmps.getD t undef) v)→
    ((ps.zip vs).foldl (fun(tmps:Array Value) (x:Nat×Value)=>tmps.setIfInBounds x.1 x.2) tmps).size=N∧∀t v,(setPs ps args env).at' t=some v→CR β (((ps.zip vs).foldl (fun(tmps:Array Value) (x:Nat×Value)=>tmps.setIfInBounds x.1 x.2) tmps).getD t undef) v
  |[],vs,args,env,tmps,_,_,_,hs,he=>⟨by simpa using hs,by simpa [setPs]using he⟩
  |t::ps,[],[],env,tmps,_,_,_,hs,he=>⟨by simpa using hs,by simpa [setPs]using he⟩
  |t::ps,[],a::args,env,tmps,hl,_,_,hs,he=>by simp at hl
  |t::ps,v::vs,[],env,tmps,hl,_,_,hs,he=>by simp at hl
  |t::ps,v::vs,a::args,env,tmps,hl,hr,hp,hs,he=>by
    have ht:=hp t (by simp)
    refine setPs_sim ps vs args (env.put t (some a)) (tmps.setIfInBounds t v) (by simpa using hl) (fun i u c hu hc=>hr (i+1) u c (by simpa using hu) (by simpa using hc)) (fun x hx=>hp x (List.mem_cons_of_mem _ hx)) (by simpa using hs) fun q c hq=>?_
    rw [T.at_put]at hq
    by_cases htq:t=q
    · rw [if_pos htq]at hq;cases hq;subst htq
      have:(tmps.setIfInBounds t v).getD t undef=v:=by simp [hs,ht]
      rw [this];exact hr 0 v _ rfl rfl
    · rw [if_neg htq]at hq
      rw [Array.getD_eq_getD_getElem?,Array.getElem?_setIfInBounds_ne htq,←Array.getD_eq_getD_getElem?]
      exact he q c hq
theorem SimC.loop{P:Program}{K:Ctx}{N:Nat}{β:Nat→Option BI}{s:S}{tmps:Array Value}{w:World}(h:SimC P K N β s tmps w){q:Nat}{st:LoopState}{pend:Option Code}{N':Nat}{env:T CV}{ps:List Nat}{as bo:Code}(hq:s.H.at' q=some (.lp st pend N' env ps as bo)){bi:BI}(hb:β q=some bi):
 ∃x:Loop,w.heap[bi.b]? = some (.loop x)∧x.state=st∧x.pending=pend∧x.params=⟨ps⟩∧x.assign=as∧x.body=bo∧x.tmps.size=N'∧∀t v,env.at' t=some v→CR β (x.tmps.getD t undef) v:=(h.old hq hb).2
theorem putObj_other{w:World}{b:Nat}{o:Obj}:∀k,k≠b→(w.putObj b o).heap[k]? = w.heap[k]? := fun k hk=>World.putObj_heap_other hk
theorem callY_ok{ih:Ev}(hih:EvOk P ih):∀q args H nx n,callY ih q args H nx=some n→YCalls P q args H nx n:=by
  intro q args H nx n h K w vs β bi hlen hargs hsim hb
  unfold callY at h
  split at h
  case h_2=>cases h
  rename_i pend N env ps as bo hq
  rw [Bool.cond_eq_ite]at h
  split at h
  case isFalse=>cases h
  rename_i hc
  simp only [Bool.and_eq_true,Nat.beq_eq,lenR_eq]at hc
  obtain⟨hla,hps,hn1,hn2⟩:=hc
  obtain⟨x,x1,x2,x3,x4,x5,x6,x7,x8⟩:=hsim.loop hq hb
  have hy:=run_yield (P:=P) (args:=⟨vs⟩) x1 (by rw [x4];simp;omega)
  have hps':∀t,t∈ps→t<N:=fun t ht=>by simpa using List.all_eq_true.1 hps t ht
  obtain⟨t1,t2⟩:=setPs_sim ps vs args env x.tmps hlen hargs hps' x7 x8
  have hfold:((x.params.zip (⟨vs⟩:Array Value)).foldl (fun tmps (x:Nat×Value)=>tmps.setIfInBounds x.1 x.2) x.tmps)=(ps.zip vs).foldl (fun(tmps:Array Value) (x:Nat×Value)=>tmps.setIfInBounds x.1 x.2) x.tmps:=by
    rw [x4,←Array.foldl_toList];simp
  refine⟨_,_,_,_,hy,?_⟩
  rw [x5,x6]
  have hy2:((x.params.zip (⟨vs⟩:Array Value)).foldl (fun tmps (x:Nat×Value)=>match x with|(t,a)=>tmps.setIfInBounds t a) x.tmps)=(ps.zip vs).foldl (fun(tmps:Array Value) (x:Nat×Value)=>tmps.setIfInBounds x.1 x.2) x.tmps:=hfold
  rw [hy2]
  generalize (ps.zip vs).foldl (fun(tmps:Array Value) (x:Nat×Value)=>tmps.setIfInBounds x.1 x.2) x.tmps=tm at t1 t2
  have hs0:SimC P K N β ⟨setPs ps args env,H,nx⟩ tm w:=⟨t1,t2,hsim.blk,hsim.inj,hsim.lt,hsim.frame,hsim.oo,hsim.good⟩
  refine roundIn_of_wpIn (F:=FW none) trivial ?_
  split at h
  case h_2=>cases h
  rename_i s1 hr1
  have h1:=(hih _ _ _ _ hr1 (by simp) (some bi.b) (fun _=>hn1) K [] w tm β hs0).1
  rw [hn1]at h1
  refine wpIn_mono h1 ?_
  rintro e ⟨a1,d1⟩ w1 ⟨rfl,ms,β1,h0,hd,_,hE1,hs1⟩
  obtain rfl:=h0 rfl
  rw [KM_nil]at hs1
  have hd:d1=[]:=hd
  subst hd
  split at h
  case h_2=>cases h
  rename_i pend1 N1 env1 ps1 as1 bo1 hq1
  have hb1:=hE1.mono _ _ hb
  obtain⟨y,y1,y2,y3,y4,y5,y6,y7,y8⟩:=hs1.loop hq1 hb1
  have hlt1:bi.b<w1.heap.size:=lt_of_heap y1
  refine⟨_,run_beginRound y1 y2,?_⟩
  have hs2:SimC P K N β1 ⟨s1.env,s1.H.put q (some (.lp .busy pend1 N1 env1 ps1 as1 bo1)),s1.nx⟩ a1 (w1.putObj bi.b (.loop {y with state:=.busy})):=
    hs1.setBlk hq1 hb1 ⟨_,World.putObj_heap_same hlt1,rfl,y3,y4,y5,y6,y7,y8⟩ putObj_other rfl
  have last:∀{a2:Act} {w2:World} {b:Bool} {st:LoopState} {j:Option Code} {s2:S},b=j.isNone→st=(if j.isNone then .ready else .done)→endY q b st j s2=some n→St' P K N s1.nx β1 [] true s2 a2 w2→
      ∃v w',(Instr.endRound bi.b j).run P w2 = .ok v w'∧∃u β',Ending.returned v = .returned u∧Ext nx n.nx β β'∧SimC P K 0 β' ⟨.e,n.H,n.nx⟩ #[] w'∧CR β' u n.v:=by
    intro a2 w2 b st j s2 hbj hst hn h2
    obtain⟨ms,β2,h0,_,_,hE2,hs3⟩:=h2
    obtain rfl:=h0 rfl
    rw [KM_nil]at hs3
    unfold endY at hn
    split at hn
    case h_2=>cases hn
    rename_i st2 pend2 N2 env2 ps2 as2 bo2 hq2
    cases hn
    have hb2:=hE2.mono _ _ hb1
    obtain⟨z,z1,z2,z3,z4,z5,z6,z7,z8⟩:=hs3.loop hq2 hb2
    have hlt2:bi.b<w2.heap.size:=lt_of_heap z1
    have hs4:SimC P K N β2 ⟨s2.env,s2.H.put q (some (.lp st j N2 env2 ps2 as2 bo2)),s2.nx⟩ a2.tmps (w2.putObj bi.b (.loop {z with state:=if j.isNone then .ready else .done,pending:=j})):=
      hs3.setBlk hq2 hb2 ⟨_,World.putObj_heap_same hlt2,hst.symm,rfl,z4,z5,z6,z7,z8⟩ putObj_other rfl
    refine⟨_,_,run_endRound j z1,_,β2,rfl,hE1.trans hE2,hs4.heap,?_⟩
    rw [hbj];exact .bool _
  have bodyR:∀r,ih N bo ⟨s1.env,s1.H.put q (some (.lp .busy pend1 N1 env1 ps1 as1 bo1)),s1.nx⟩=r→r ≠ .bad→bo.wpIn (FW (some bi.b)) 0 P (PostR P K N s1.nx β1 [] true r) ⟨a1,[]⟩ (w1.putObj bi.b (.loop {y with state:=.busy})):=by
    intro r hr hb
    have:=(hih _ _ _ _ hr hb (some bi.b) (fun _=>hn2) K [] _ a1 β1 hs2).1
    rwa [hn2]at this
  split at h
  · rename_i s2 hr2
    refine wpIn_mono (bodyR _ hr2 (by simp)) ?_
    rintro e a2 w2 ⟨rfl,h2⟩
    exact last (j:=none) rfl rfl h h2
  · rename_i s2 hr2
    refine wpIn_mono (bodyR _ hr2 (by simp)) ?_
    rintro e a2 w2 ⟨rfl,h2⟩
    exact last (j:=some .ret) rfl rfl h h2
  · rename_i id s2 hr2
    refine wpIn_mono (bodyR _ hr2 (by simp)) ?_
    rintro e a2 w2 ⟨rfl,h2⟩
    exact last (j:=some (.exit id)) rfl rfl h h2
  · cases h
end
end Go.Ab.Cm
namespace Go.Ab.Cm
section
variable {P:Program} {tt:TT} {eq:EqT} {fs:T Func} {sp:T Spec}
theorem old_alloc{w:World}{o:Obj}:∀(b:Nat) (ob:Obj),w.heap[b]? = some ob→(w.alloc o).heap[b]? = some ob:=fun b ob hb=>by
 have:=Go.Lib.alloc_old w o b (lt_of_heap hb)
 rw [this];exact hb
theorem SimC.mark{K:Ctx}{N:Nat}{β:Nat→Option BI}{s:S}{tmps:Array Value}{w:World}(h:SimC P K N β s tmps w):MOk K [w.heap.size]∧SimC P (KM K [w.heap.size]) N β s tmps (w.alloc (.deferred (some []))):=by
 have hF:K.F w.heap.size=none:=by
  cases hF:K.F w.heap.size with
  |none=>rfl
  |some ob=>have:=lt_of_heap (h.frame _ ob hF);omega
 refine⟨⟨by simp,fun b hb=>by simp at hb;subst hb;exact hF⟩,h.size,h.slot,fun r x hr=>?_,h.inj,h.lt,fun b ob hb=>?_,h.oo,gd_KM ⟨by simp,fun b hb=>by simp at hb;subst hb;exact hF⟩ h.good⟩
 ·obtain⟨bi,h1,h2,h3⟩:=h.blk r x hr
  obtain⟨ob,h4⟩:=h3.ob
  have hlt:=lt_of_heap h4
  refine⟨bi,h1,?_,h3.keep (fun _ _ h=>h) (by rw [old_alloc _ _ h4,h4])⟩
  simp only [KM,List.mem_singleton]
  rw [if_neg (by omega)];exact h2
 ·simp only [KM,List.mem_singleton]at hb
  split at hb
  ·rename_i hbs;subst hbs;cases hb;exact World.alloc_heap_new w _
  ·exact old_alloc _ _ (h.frame b ob hb)
theorem endR_idle{s:S}{pend:Option Code}{st:LoopState}{H:T Blk}{nx:Nat}(h:st ≠ .busy):endR s pend st H nx=endR s pend .ready H nx:=by
 cases st with
 |busy=>exact absurd rfl h
 |_=>cases pend with
  |none=>rfl
  |some c=>cases c<;>rfl
theorem range_ok{ρ:Option Nat}{call:Call'}(hcall:CallOk P call){N:Nat}{s:S}{r:R}{f:Operand}{ps:Array Tmp}{as bo:Code}{K:Ctx}{ds:List Deferred}{w:World}{tmps:Array Value}{β:Nat→Option BI}(hρ:ρ=none)(hsim:SimC P K N β s tmps w){g:FuncId}{caps:List CV}(hg:evO s.env f=some (.fn g caps))
    {n:New} (hn:call.c g (.yld s.nx::caps) (s.H.put s.nx (some (.lp .ready none N s.env ps.toList as bo))) (Nat.succ s.nx)=some n) {st:LoopState} {pend:Option Code} {N':Nat} {env':T CV} {ps':List Nat} {as' bo':Code} (hl:n.H.at' s.nx=some (.lp st pend N' env' ps' as' bo'))
    (hr:endR s pend st (n.H.put s.nx (some (.lp .exhausted pend N' env' ps' as' bo'))) n.nx=r) (hb:r ≠ .bad):(Code.rangeFunc f ps as bo).wpIn (FW ρ) 0 P (PostR P K N s.nx β ds false r) ⟨tmps,ds⟩ w:=by
  subst hρ
  obtain⟨hmo,hs1⟩:=hsim.mark
  refine wpIn_rangeFunc fun fn _=>?_
  have hrep:=evO_rep hsim hg
  generalize hv:(⟨tmps,[]⟩:Act).eval f=uf at hrep
  cases hrep with
  |fn _ us _ hnu hru=>
  generalize hrec:({state:=.ready,pending:=none,fn,tmps,params:=ps,assign:=as,body:=bo,defers:=w.heap.size}:Loop)=rec
  have hsz1:(w.alloc (.deferred (some []))).heap.size=w.heap.size+1:=by simp
  obtain⟨hE,hs2⟩:=hs1.newBlk (x:=.lp .ready none N s.env ps.toList as bo) (L:=0) (ob:=.loop rec) (w':=(w.alloc (.deferred (some []))).alloc (.loop rec))
    ⟨rec,World.alloc_heap_new _ _,by rw [←hrec],by rw [←hrec],by rw [←hrec],by rw [←hrec],by rw [←hrec],by rw [←hrec];exact hsim.size,fun t v ht=>by
      rw [←hrec]
      exact(hsim.slot t v ht).mono fun q b hq=>by have:=hsim.lt q b hq;rw [if_neg (by omega)];exact hq⟩ rfl rfl
  generalize hβ:(fun r=>if r=s.nx then some (⟨(w.alloc (.deferred (some []))).heap.size,0⟩:BI)else β r)=β1 at hE hs2
  have hb1:β1 s.nx=some ⟨w.heap.size+1,0⟩:=by rw [←hβ];simp [hsz1]
  obtain⟨⟨fd,k1,k2,k3⟩,k4⟩:=hcall.c _ _ _ _ _ hn
  have hbn:fd.body≠none:=by intro hh;rw [hh]at k2;cases k2
  have hev:(⟨tmps,ds⟩:Act).eval f = .func (.func g) #[] ⟨us⟩:=hv
  have e1:(Instr.enterLoop fn tmps ps as bo (FW none).round).run P w = .ok (w.heap.size+1,marks [w.heap.size]) ((w.alloc (.deferred (some []))).alloc (.loop rec)):=by
    have:=run_enterLoop_outer (P:=P) (w:=w) fn tmps ps as bo
    rw [hrec]at this
    exact this
  have e2:∀W,(resolve (⟨tmps,ds⟩:Act).eval (rangeCall f (w.heap.size+1)) 0).run P W = .ok {target:=.fn (.func g) ⟨us⟩,args := #[.func (.yield (w.heap.size+1)) #[] #[]]} W:=fun W=>by
    have hcst:∀v,(⟨tmps,ds⟩:Act).eval (.const v)=v:=fun _=>rfl
    simp [resolve,rangeCall,hev,Deferred.ofValue,hcst]
  have e3:∀W,(invoke (.fn (.func g) ⟨us⟩) #[.func (.yield (w.heap.size+1)) #[] #[]]).run P W = .ok (.enter g ⟨.func (.yield (w.heap.size+1)) #[] #[]::us⟩) W:=fun W=>by
    simp [invoke,callFunc,k1,hbn,k3]
  refine⟨w.heap.size+1,marks [w.heap.size],(w.alloc (.deferred (some []))).alloc (.loop rec),{target:=.fn (.func g) ⟨us⟩,args := #[.func (.yield (w.heap.size+1)) #[] #[]]},(w.alloc (.deferred (some []))).alloc (.loop rec),g,⟨.func (.yield (w.heap.size+1)) #[] #[]::us⟩,(w.alloc (.deferred (some []))).alloc (.loop rec),e1,e2 _,fun _ _=>trivial,e3 _,fun h=>by simp [FW,Fence.wide]at h,?_⟩
  · refine callsFW ((k4 (KM K [w.heap.size]) _ (.func (.yield (w.heap.size+1)) #[] #[]::us) β1 (by simp [hnu]) (fun i u c hu hc=>?_) hs2.heap).mono ?_)
    · cases i with
      |zero=>simp at hu hc;subst hu;subst hc;exact .yld s.nx ⟨w.heap.size+1,0⟩ hb1
      |succ i=>exact(hru i u c (by simpa using hu) (by simpa using hc)).mono hE.mono
    · rintro e w3 ⟨u,β2,rfl,hE2,hs3,_⟩
      have hb2:=hE2.mono _ _ hb1
      have hs4:=hs2.back hE2.mono hs3
      obtain⟨x,x1,x2,x3,x4,x5,x6,x7,x8⟩:=hs4.loop hl hb2
      have hlt:=lt_of_heap x1
      have hst:x.state ≠ .busy:=by
        rw [x2]
        rintro rfl
        exact hb (by rw [←hr];rfl)
      refine⟨_,_,run_endLoop x1 hst,?_⟩
      rw [x3]
      have hEE:Ext s.nx n.nx β β2:=hE.trans hE2
      have hs5:SimC P (KM K [w.heap.size]) N β2 ⟨s.env,n.H.put s.nx (some (.lp .exhausted pend N' env' ps' as' bo')),n.nx⟩ tmps (w3.putObj (w.heap.size+1) (.loop {x with state:=.exhausted,pending:=pend})):=by
        exact hs4.setBlk hl hb2 ⟨_,World.putObj_heap_same hlt,rfl,rfl,x4,x5,x6,x7,x8⟩ putObj_other rfl
      have fin:St' P K N s.nx β ds false ⟨s.env,n.H.put s.nx (some (.lp .exhausted pend N' env' ps' as' bo')),n.nx⟩ ⟨tmps,marks [w.heap.size]++ds⟩ (w3.putObj (w.heap.size+1) (.loop {x with state:=.exhausted,pending:=pend})):=
        ⟨[w.heap.size],β2,fun h=>(by cases h),rfl,hmo,hEE,hs5⟩
      rw [x2]at hst
      rw [endR_idle hst]at hr
      clear x3 hs5 hl
      cases pend with
      |none=>subst hr;exact⟨rfl,fin⟩
      |some c=>
        cases c with
        |ret=>subst hr;exact wpIn_ret ⟨rfl,fin⟩
        |exit id=>subst hr;exact wpIn_exit ⟨rfl,fin⟩
        |_=>exact absurd hr.symm hb
theorem code_ok(hm:P.follows .mixedOrders=true)(htt:TTok P tt=true)(heq:EqOk P tt eq){call:Call'}(hcall:CallOk P call){ih:Ev}(hih:EvOk P ih):EvOk P (codeC (mkT tt) eq call ih):=by
 intro N c s r h hb ρ hρ K ds w tmps β hsim
 have h0:∀nr,St' P K N s.nx β ds nr s ⟨tmps,ds⟩ w:=fun nr=>.of (.refl _ _) hsim
 unfold codeC at h
 split at h
 ·subst h;exact⟨wpIn_skip ⟨rfl,h0 _⟩,fun b hb=>by cases hb⟩
 ·subst h;exact⟨wpIn_label ⟨rfl,h0 _⟩,fun b hb=>by cases hb⟩
 ·rename_i id ops
  refine⟨wpIn_region ?_,fun b hb=>by cases hb⟩
  cases hst:steps (mkT tt) eq call N ops.toList ops.toList s with
  |none=>rw [hst]at h;subst h;exact absurd rfl hb
  |some s'=>
   rw [hst]at h
   have hlen:List.range ops.size=List.range' 0 ops.toList.length:=by rw [List.range_eq_range'];simp
   rw [hlen]
   refine steps_wp htt heq hcall ops.toList 0 s tmps w β s' (fun j=>by simp) hsim hst fun tmps' w' β' hm h'=>?_
   subst h
   exact⟨rfl,.of hm h'⟩
 ·rename_i id ops
  refine⟨?_,fun b hb=>by cases hb⟩
  cases hst:drawC (mkT tt) eq call N ops.toList s with
  |none=>rw [hst]at h;subst h;exact absurd rfl hb
  |some s'=>
   rw [hst]at h
   subst h
   exact draw_wp hm htt heq hcall hst hsim fun tmps' w' β' hm h'=>⟨rfl,.of hm h'⟩
 ·rename_i a b
  refine⟨?_,fun b hb=>by cases hb⟩
  have hρa:ρ≠none→noRF a=true:=fun hh=>by have:=hρ hh;simp only [noRF,Bool.and_eq_true]at this;exact this.1
  have hρb:ρ≠none→noRF b=true:=fun hh=>by have:=hρ hh;simp only [noRF,Bool.and_eq_true]at this;exact this.2
  cases hr:ih N a s with
  |bad=>rw [hr]at h;subst h;exact absurd rfl hb
  |nrm s1=>
   rw [hr]at h
   obtain⟨h1,_⟩:=hih _ _ _ _ hr (by simp) ρ hρa K ds w tmps β hsim
   refine wpIn_seq (wpIn_mono h1 ?_)
   rintro e ⟨t1,d1⟩ w1 ⟨rfl,ms,β1,h00,hd,hmo,hE,h2⟩
   have hd:d1=marks ms++ds:=hd
   subst hd
   obtain⟨h3,_⟩:=hih _ _ _ _ h hb ρ hρb (KM K ms) (marks ms++ds) w1 t1 β1 h2
   refine wpIn_mono h3 fun e a' w hp=>hp.mono (fun hh=>?_) hmo hE
   have hh:(noRF a&&noRF b)=true:=hh
   rw [Bool.and_eq_true]at hh
   exact⟨h00 hh.1,hh.2⟩
  |ext id s1=>
   rw [hr]at h;subst h
   obtain⟨h1,_⟩:=hih _ _ _ _ hr (by simp) ρ hρa K ds w tmps β hsim
   refine wpIn_seq (wpIn_mono h1 ?_)
   rintro e a1 w1 ⟨rfl,ms,β1,h00,h2⟩
   exact⟨rfl,ms,β1,fun hh=>h00 (by have hh:(noRF a&&noRF b)=true:=hh;rw [Bool.and_eq_true]at hh;exact hh.1),h2⟩
  |ret s1=>
   rw [hr]at h;subst h
   obtain⟨h1,_⟩:=hih _ _ _ _ hr (by simp) ρ hρa K ds w tmps β hsim
   refine wpIn_seq (wpIn_mono h1 ?_)
   rintro e a1 w1 ⟨rfl,ms,β1,h00,h2⟩
   exact⟨rfl,ms,β1,fun hh=>h00 (by have hh:(noRF a&&noRF b)=true:=hh;rw [Bool.and_eq_true]at hh;exact hh.1),h2⟩
 ·rename_i x a b
  refine⟨?_,fun b hb=>by cases hb⟩
  have up:∀{c:Code} {r:R} {e:Exit} {a':Act} {w':World},((noRF a&&noRF b)=true→noRF c=true)→PostR P K N s.nx β ds (noRF c) r e a' w'→PostR P K N s.nx β ds (noRF a&&noRF b) r e a' w':=by
   intro c r e a' w' hc hp
   cases r with
   |bad=>exact hp
   |_=>obtain⟨g0,ms,β1,g1,g2⟩:=hp;exact⟨g0,ms,β1,fun hh=>g1 (hc hh),g2⟩
  split at h
  ·rename_i hx
   exact wpIn_cond_true (cr_bool (evO_rep hsim hx)) (wpIn_mono (hih _ _ _ _ h hb ρ (fun hh=>by have:=hρ hh;simp only [noRF,Bool.and_eq_true]at this;exact this.1) K ds w tmps β hsim).1 fun e a' w' hp=>up (fun hh=>by rw [Bool.and_eq_true]at hh;exact hh.1) hp)
  ·rename_i hx
   exact wpIn_cond_false (cr_bool (evO_rep hsim hx)) (wpIn_mono (hih _ _ _ _ h hb ρ (fun hh=>by have:=hρ hh;simp only [noRF,Bool.and_eq_true]at this;exact this.2) K ds w tmps β hsim).1 fun e a' w' hp=>up (fun hh=>by rw [Bool.and_eq_true]at hh;exact hh.2) hp)
  ·exact absurd h.symm hb
 ·rename_i id b
  refine⟨?_,fun b hb=>by cases hb⟩
  cases hr:ih N b s with
  |bad=>rw [hr]at h;subst h;exact absurd rfl hb
  |nrm s1=>
   rw [hr]at h;subst h
   refine wpIn_block (wpIn_mono (hih _ _ _ _ hr (by simp) ρ hρ K ds w tmps β hsim).1 ?_)
   rintro e a1 w1 ⟨rfl,h2⟩
   exact⟨rfl,h2⟩
  |ret s1=>
   rw [hr]at h;subst h
   refine wpIn_block (wpIn_mono (hih _ _ _ _ hr (by simp) ρ hρ K ds w tmps β hsim).1 ?_)
   rintro e a1 w1 ⟨rfl,h2⟩
   exact⟨rfl,h2⟩
  |ext i s1=>
   rw [hr]at h
   refine wpIn_block (wpIn_mono (hih _ _ _ _ hr (by simp) ρ hρ K ds w tmps β hsim).1 ?_)
   rintro e a1 w1 ⟨rfl,h2⟩
   simp only [Exit.inBlock]
   have h:(Bool.rec (motive:=fun _=>R) (.ext i s1) (.nrm s1) (Nat.beq i id):R)=r:=h
   by_cases hi:i=id
   ·rw [if_pos hi]
    have:Nat.beq i id=true:=by simpa using hi
    rw [this]at h;subst h
    exact⟨rfl,h2⟩
   ·rw [if_neg hi]
    have:Nat.beq i id=false:=by rw [Bool.eq_false_iff];simpa using hi
    rw [this]at h;subst h
    exact⟨rfl,h2⟩
 ·rename_i b
  have hlw:LW ρ P b (PostR P K N s.nx β ds (noRF b) r) ⟨tmps,ds⟩ w:=by
   cases hr:ih N b s with
   |bad=>rw [hr]at h;subst h;exact absurd rfl hb
   |nrm s1=>
    rw [hr]at h
    refine LW.round (hih _ _ _ _ hr (by simp) ρ hρ K ds w tmps β hsim).1 (fun s2 a1 w1 he h2=>?_) (fun e a w hn=>absurd rfl (hn s1))
    cases he
    obtain⟨t1,d1⟩:=a1
    obtain⟨ms,β1,h00,hd,hmo,hE,h2⟩:=h2
    have hd:d1=marks ms++ds:=hd
    subst hd
    have h3:=(hih _ _ _ _ h hb ρ hρ (KM K ms) (marks ms++ds) w1 t1 β1 h2).2 b rfl
    intro b0 k cs hro
    obtain⟨e,a',w',hq,harr⟩:=h3 b0 k cs hro
    exact⟨e,a',w',hq.mono (fun hh=>⟨h00 hh,hh⟩) hmo hE,harr⟩
   |ext id s1=>
    rw [hr]at h;subst h
    exact LW.round (hih _ _ _ _ hr (by simp) ρ hρ K ds w tmps β hsim).1 (fun s2 a1 w1 he=>by cases he) (fun e a w _ hp=>hp)
   |ret s1=>
    rw [hr]at h;subst h
    exact LW.round (hih _ _ _ _ hr (by simp) ρ hρ K ds w tmps β hsim).1 (fun s2 a1 w1 he=>by cases he) (fun e a w _ hp=>hp)
  exact⟨hlw.wp,fun b' hb'=>by cases hb';exact hlw⟩
 ·rename_i b
  refine⟨wpIn_scope (wpIn_mono (hih _ _ _ _ h hb ρ hρ K ds w tmps β hsim).1 ?_),fun b hb=>by cases hb⟩
  intro e a1 w1 hp
  cases r with
  |bad=>exact absurd rfl hb
  |nrm s1=>obtain⟨rfl,h2⟩:=hp;exact⟨rfl,h2⟩
  |ext i s1=>obtain⟨rfl,h2⟩:=hp;exact⟨rfl,h2⟩
  |ret s1=>obtain⟨rfl,h2⟩:=hp;exact⟨rfl,h2⟩
 ·subst h;exact⟨wpIn_exit ⟨rfl,h0 _⟩,fun b hb=>by cases hb⟩
 ·subst h;exact⟨wpIn_ret ⟨rfl,h0 _⟩,fun b hb=>by cases hb⟩
 ·rename_i f ps as bo
  refine⟨?_,fun b hb=>by cases hb⟩
  have hρ0:ρ=none:=by
   cases ρ with
   |none=>rfl
   |some l=>have:=hρ (by simp);cases this
  rw [Bool.cond_eq_ite]at h
  split at h
  case isFalse=>exact absurd h.symm hb
  split at h
  case h_2=>exact absurd h.symm hb
  rename_i g caps hg
  split at h
  case h_2=>exact absurd h.symm hb
  rename_i nn hn
  split at h
  case h_2=>exact absurd h.symm hb
  rename_i st pend N' env' ps' as' bo' hl
  exact range_ok hcall hρ0 hsim hg hn hl h hb
 ·exact absurd h.symm hb
theorem ev_ok(hm:P.follows .mixedOrders=true)(htt:TTok P tt=true)(heq:EqOk P tt eq)(hfs:FsOk P fs)(hsp:SpOk P sp):∀n,EvOk P (evC (mkT tt) eq fs sp n)
 | 0=>fun N c s r h hb=>by cases h;exact absurd rfl hb
 |n+1=>
  have ih:=ev_ok hm htt heq hfs hsp n
  fun N c s r h=>code_ok hm htt heq ⟨callF_ok heq htt hfs hsp ih,callY_ok ih⟩ ih N c s r (by rw [←codeF_eq];exact h)
end
end Go.Ab.Cm
namespace Go.Ab.Cm
section
variable {P:Program} {tt:TT} {eq:EqT} {fs:T Func} {sp:T Spec}
end
end Go.Ab.Cm
namespace Go.Ab.Cm
def eqC(P:Program)(tt:TT)(t:TypeId):Option (TypeId×List (Option TK)):=
 match look tt t with
 |some {k:=.strct fs,..}=>bif eqOk P t then some (t,ksOf tt 4 fs)else none
 |_=>none
def mpC(P:Program)(t:TypeId):Option (TypeId×(TypeId×TypeId)):=
 match P.underlying t with
 |some (.map k e)=>some (t,(k,e))
 |_=>none
noncomputable def eqOf(P:Program)(tt:TT)(eqs mps:List TypeId)(xs:List (FuncId×XK)):EqT:=⟨mkT (eqs.filterMap (eqC P tt)),mkT (mps.filterMap (mpC P)),mkT xs⟩
theorem eqOf_ok(P:Program)(tt:TT)(eqs mps:List TypeId)(xs:List (FuncId×XK))(hx:∀x,x∈xs→XOk P x.1 x.2):EqOk P tt (eqOf P tt eqs mps xs):=by
 refine⟨fun t ks h=>?_,fun t x h=>?_,fun f k h=>by
  have h:(mkT xs).at' f=some k:=h
  rw [mkT_at]at h
  exact hx _ (look_mem h)⟩
 ·have h:(mkT (eqs.filterMap (eqC P tt))).at' t=some ks:=h
  rw [mkT_at]at h
  obtain⟨u,_,hu⟩:=List.mem_filterMap.1 (look_mem h)
  unfold eqC at hu
  split at hu
  ·rename_i fs sz by_ z bd hl
   rw [Bool.cond_eq_ite]at hu
   split at hu
   case isFalse=>cases hu
   rename_i hek
   cases hu
   exact⟨fs,sz,by_,z,bd,hl,hek,rfl⟩
  ·cases hu
 ·have h:(mkT (mps.filterMap (mpC P))).at' t=some x:=h
  rw [mkT_at]at h
  obtain⟨u,_,hu⟩:=List.mem_filterMap.1 (look_mem h)
  unfold mpC at hu
  split at hu
  ·rename_i k e hk
   cases hu
   exact hk
  ·cases hu
end Go.Ab.Cm
namespace Go.Ab.Cm
noncomputable instance:TO Unit:=gTO Unit
variable {P:Program}
noncomputable def closT(lk:T Func)(lead:Func→List FuncId)(n:Nat):List FuncId→List FuncId→T Unit→List FuncId:=
 Nat.rec (motive:=fun _=>List FuncId→List FuncId→T Unit→List FuncId) (fun _ seen _=>seen.reverse)
  (fun _ ih todo seen tr=>List.rec (motive:=fun _=>List FuncId) seen.reverse (fun f rest _=>
   Option.rec (motive:=fun _=>List FuncId) (ih (Option.rec (motive:=fun _=>List FuncId) rest (fun fn=>lead fn++rest) (lk.at' f)) (f::seen) (tr.put f (some ()))) (fun _=>ih rest seen tr) (tr.at' f)) todo) n
noncomputable def mkA(l:List Func):Nat→T Func:=
 List.rec (motive:=fun _=>Nat→T Func) (fun _=>.e) (fun fn _ ih i=>(ih (Nat.succ i)).put i (some fn)) l
theorem mkA_at:∀(l:List Func) (i j:Nat),(mkA l i).at' j=if i≤j then l[j-i]? else none
 |[],i,j=>by
  have:mkA [] i = .e:=rfl
  rw [this,T.at_e];simp
 |fn::l,i,j=>by
  have h:mkA (fn::l) i=(mkA l (i+1)).put i (some fn):=rfl
  rw [h,T.at_put,mkA_at l (i+1) j]
  by_cases hj:i=j
  ·subst hj;simp
  ·rw [if_neg hj]
   by_cases hle:i+1≤j
   ·rw [if_pos hle,if_pos (by omega),show j-i=(j-(i+1))+1 by omega];simp
   ·rw [if_neg hle,if_neg (by omega)]
def LkOk(P:Program)(lk:T Func):Prop:=∀f,P.funcs[f]? = lk.at' f
theorem mkA_ok(P:Program):LkOk P (mkA P.funcs.toList 0):=fun f=>by
 rw [mkA_at,if_pos (Nat.zero_le _),Nat.sub_zero,Array.getElem?_toList]
theorem closT_ok{lk:T Func}(h:LkOk P lk):∀(n:Nat) (todo seen:List FuncId) (tr:T Unit),(∀x,seen.contains x=(tr.at' x).isSome)→closT lk P.leadsTo n todo seen tr=P.closureVia n todo seen
 | 0,todo,seen,tr,_=>by unfold Program.closureVia;rfl
 |n+1,[],seen,tr,_=>by unfold Program.closureVia;rfl
 |n+1,f::rest,seen,tr,hs=>by
  have e:closT lk P.leadsTo (n+1) (f::rest) seen tr=Option.rec (motive:=fun _=>List FuncId) (closT lk P.leadsTo n (Option.rec (motive:=fun _=>List FuncId) rest (fun fn=>P.leadsTo fn++rest) (lk.at' f)) (f::seen) (tr.put f (some ()))) (fun _=>closT lk P.leadsTo n rest seen tr) (tr.at' f):=rfl
  rw [e,Program.closureVia]
  have hf:=hs f
  cases ht:tr.at' f with
  |some u=>
   rw [ht]at hf
   rw [if_pos (by simpa using hf)]
   exact closT_ok h n rest seen tr hs
  |none=>
   rw [ht]at hf
   rw [if_neg (by simp only [Option.isSome_none]at hf;rw [hf];simp)]
   have e2:(Option.rec (motive:=fun _=>List FuncId) rest (fun fn=>P.leadsTo fn++rest) (lk.at' f):List FuncId)=(P.funcs[f]?).elim [] P.leadsTo++rest:=by
    rw [h f];cases lk.at' f<;>rfl
   show closT lk P.leadsTo n _ (f::seen) _=_
   rw [e2]
   refine closT_ok h n _ _ _ fun x=>?_
   rw [T.at_put,List.contains_cons]
   by_cases hx:f=x
   ·subst hx;simp
   ·rw [if_neg hx,←hs x]
    have:(x == f)=false:=by simp;exact fun e=>hx e.symm
    rw [this,Bool.false_or]
theorem closure_of{lk:T Func}(h:LkOk P lk){f:FuncId}{C:List FuncId}(hc:closT lk P.leadsTo (1+(P.funcs.toList.map fun g=>(P.leadsTo g).length+1).sum) [f] [] .e=C):P.closure f=C:=by
 unfold Program.closure
 rw [←closT_ok h _ _ _ .e fun x=>by rw [T.at_e];rfl,hc]
theorem inPlace_of {lk : T Func} (h : LkOk P lk) {f : FuncId} {C : List FuncId} (hC : P.closure f = C) : P.inPlace f = C.filterMap fun g => (lk.at' g).bind fun fn => if fn.ours || fn.body.isNone || fn.name == "runtime.NumGoroutine" then some fn.name else none := by
 unfold Program.inPlace
 rw [hC]
 simp only [h _]
theorem unfollowed_of{lk:T Func}(h:LkOk P lk){f:FuncId}{C:List FuncId}(hC:P.closure f=C):P.unfollowed f=C.any fun g=>(lk.at' g).any fun fn=>match fn.body with|some c=>c.unfollowed|none=>entryCalls fn:=by
 unfold Program.unfollowed
 rw [hC]
 simp only [h _]
 rfl
theorem varsNamed_of{lk:T Func}(h:LkOk P lk){f:FuncId}{C:List FuncId}(hC:P.closure f=C):P.varsNamed f=(((C.flatMap fun g=>((lk.at' g).bind (·.body)).elim [] Code.globalsNamed).eraseDups).filterMap (fun g=>(P.globals[g]?).map (·.name)) ++
   C.filterMap fun g=>(lk.at' g).bind fun fn=>if fn.body.isNone then entryReads.lookup fn.name else none).eraseDups:=by
  unfold Program.varsNamed
  rw [hC]
  simp only [h _]
end Go.Ab.Cm
namespace Go.Ab.Cm
section
variable {P:Program}
theorem says_of_calls{f:FuncId}{l:List (IntKind×Int)}{b:Bool}{x:New}(h:CCalls P f (l.map fun x=>CV.int x.1 x.2) .e 0 x)(hv:x.v = .bool b):
    saysOf P f (l.map fun x=>D.v (.int x.1 x.2)) [] [] (.ret (.v (.bool b)) none) []:=by
  obtain⟨h1,h2⟩:=h
  refine⟨h1,fun K w vs M β hlen hsim _=>?_⟩
  have hargs:∀(i:Nat) u c,vs[i]? = some u→(l.map fun x=>CV.int x.1 x.2)[i]? = some c→CR (fun _=>none) u c:=by
    intro i u c hu hc
    rw [List.getElem?_map,Option.map_eq_some_iff]at hc
    obtain⟨y,hy,rfl⟩:=hc
    have hs:({env:=envOf (l.map fun x=>D.v (.int x.1 x.2)) [],H:=enumFrom' 0 [],nxt:=([]:List (List Ent)).length}:St).at (.slot i)=some {d:=D.v (.int y.1 y.2)}:=by
      show look (envOf _ _) i=_
      unfold envOf
      rw [look_enum,if_pos (Nat.zero_le _),Nat.sub_zero,withOwn_get,List.getElem?_map,hy]
      rfl
    have he:=hsim.ents _ _ hs
    have hv:valAt (⟨vs⟩:Array Value) w β (.slot i)=u:=by
      show(⟨vs⟩:Array Value).getD i undef=u
      rw [Array.getD_eq_getD_getElem?];simp [hu]
    rw [hv]at he
    cases he with
    |v _ _ h=>cases h;exact .int _ _
  refine(h2 {K with F:=fun b=>w.heap[b]?} w vs (fun _=>none) (by rw [hlen,List.length_map,List.length_map]) hargs ⟨rfl,(fun t v ht=>by rw [T.at_e]at ht;cases ht),(fun r x hr=>by rw [T.at_e]at hr;cases hr),(fun _ _ _ _ _ _ hr=>by rw [T.at_e]at hr;cases hr),(fun r bi hb=>by cases hb),(fun _ _ h=>h),hsim.oo,hsim.good.mono fun b ob hb=>(hsim.frame b ob hb).1⟩).mono ?_
  rintro e w' ⟨u,β',rfl,_,h3,h4⟩
  rw [hv]at h4
  obtain rfl:=cr_bool h4
  have hg:SimAt P K M β {env:=envOf (l.map fun x=>D.v (.int x.1 x.2)) [],H:=enumFrom' 0 [],nxt:=([]:List (List Ent)).length} ⟨vs⟩ w':=
    hsim.grow (fun b hb=>by rw [h3.frame b w.heap[b] (by simp [hb]),Array.getElem?_eq_getElem hb]) (h3.oo.trans hsim.oo.symm)
  have h5:=(hg.noEnv #[undef]).put (t:=0) (v:=.bool b) (e:={d:=.v (.bool b)}) (by simp) (.v _ _ (.bool b)) (fun T hT=>by cases hT)
  exact⟨_,[],.bool b,M,β,⟨rfl,rfl⟩,rfl,h5⟩
end
end Go.Ab.Cm
namespace Go.Ab.Cm
section
variable {P:Program}
def Wk(P:Program)(s1 s:S):Prop:=s1.nx=s.nx∧∀(K:Ctx) (N:Nat) (β:Nat→Option BI) (tmps:Array Value) (w:World),SimC P K N β s tmps w→SimC P K N β s1 tmps w
open Classical in
noncomputable def wkE(P:Program)(ev:Ev)(s1:S)(isB:Code→Bool):Ev:=fun N c s=>if isB c=true∧Wk P s1 s then ev N c s1 else ev N c s
structure SL where
 env:List (Nat×CV)
 H:List MR
 nx:Nat
noncomputable def SL.s(x:SL):S:=⟨mkT x.env,rowsOf x.H,x.nx⟩
theorem wk_of{x:SL}{s:S}(hn:x.nx=s.nx)(he:∀y,y∈x.env→s.env.at' y.1=some y.2)(hH:∀y,y∈x.H→∃cs,s.H.at' y.r=some (.row y.n cs y.t)∧∀z,z∈y.cs→cs.at' z.1=some z.2):Wk P x.s s:=by
 refine⟨hn,fun K N β tmps w h=>?_⟩
 have hw:WkH (rowsOf x.H) s.H:=by
  intro r b hr
  obtain⟨i,y,hi,rfl,rfl⟩:=rowsOf_at hr
  obtain⟨cs,h1,h2⟩:=hH y (List.mem_of_getElem? hi)
  refine⟨_,h1,rfl,rfl,fun j v hj=>?_⟩
  rw [mkT_at]at hj
  exact h2 _ (look_mem hj)
 have:=h.weak (H:=rowsOf x.H) hw
 refine⟨this.size,fun t v ht=>h.slot t v ?_,this.blk,this.inj,fun r bi hb=>?_,this.frame,this.oo,this.good⟩
 ·have ht:(mkT x.env).at' t=some v:=ht
  rw [mkT_at]at ht
  exact he _ (look_mem ht)
 ·show r<x.nx
  rw [hn];exact h.lt r bi hb
end
end Go.Ab.Cm
namespace Go.Ab.Cm
section
variable {P:Program} {tt:TT} {eq:EqT} {fs:T Func} {sp:T Spec}
open Classical in
end
end Go.Ab.Cm
namespace Go.Ab.Cm
noncomputable def byN(f:Nat):Nat→List UInt8→List UInt8:=
 Nat.rec (motive:=fun _=>Nat→List UInt8→List UInt8) (fun _ l=>l) (fun _ ih n l=>Bool.rec (motive:=fun _=>List UInt8) (ih (Nat.div n 256) (UInt8.ofNat (Nat.mod n 256)::l)) l (Nat.ble n 1)) f
noncomputable abbrev st(n:Nat):CV:=.str (byN 100000 n [])
noncomputable def nu(l:List CV):List (Nat×CV):=List.rec (motive:=fun _=>Nat→List (Nat×CV)) (fun _=>[]) (fun c _ ih i=>(i,c)::ih (Nat.succ i)) l 0
noncomputable def fl(n:Nat)(c:CV)(l:List (Nat×CV)):List (Nat×CV):=
 Nat.rec (motive:=fun _=>List (Nat×CV)→List (Nat×CV)) (fun r=>r) (fun k ih r=>ih ((k,match look l k with|some d=>d|none=>c)::r)) n []
end Go.Ab.Cm
namespace Go.Ab.Cm
def memW(w:World):Mem:=fun b o=>w.cell? ⟨b,o,none⟩
section
variable {P:Program} {K:Ctx} {H:T Blk} {nx:Nat} {β:Nat→Option BI} {w:World} {α γ:Type}
def DecN(H:T Blk)(k:Nat)(f:List CV→Option α)(e:α→V):Prop:=
 ∀{P:Program} {K:Ctx} {nx:Nat} {β:Nat→Option BI} {w:World},SimC P K 0 β ⟨.e,H,nx⟩ #[] w→∀(cs:List CV) (vs:List Value) (a:α),f cs=some a→vs.length=cs.length→(∀v,v∈vs→v.oneCell'=true)→
  (∀(i:Nat) v c,vs[i]? = some v→cs[i]? = some c→CR β v c)→(e a).cells.length=k∧cs.length=k∧∀(i:Nat) v x,vs[i]? = some v→(e a).cells[i]? = some x→RepV (memW w) v x
def Dec1(H:T Blk)(f:CV→Option α)(e:α→V):Prop:=
 ∀{P:Program} {K:Ctx} {nx:Nat} {β:Nat→Option BI} {w:World},SimC P K 0 β ⟨.e,H,nx⟩ #[] w→∀(c:CV) (v:Value) (a:α),f c=some a→CR β v c→RepV (memW w) v (e a)
noncomputable def dStr(c:CV):Option (List UInt8):=match c with|.str l=>some l|_=>none
noncomputable def dOne(f:CV→Option α)(cs:List CV):Option α:=match cs with|[c]=>f c|_=>none
noncomputable def dAgg(f:List CV→Option α)(c:CV):Option α:=match c with|.agg cs=>f cs|_=>none
noncomputable def chop(k:Nat)(f:List CV→Option α)(n:Nat):List CV→Option (List α):=
 Nat.rec (motive:=fun _=>List CV→Option (List α)) (fun _=>some []) (fun _ ih cs=>match f (cs.take k),ih (cs.drop k) with
  |some a,some l=>some (a::l)
  |_,_=>none) n
noncomputable def dList(H:T Blk)(k:Nat)(f:List CV→Option α)(c:CV):Option (List α):=
 match c with
 |.slc r off n _ _ k'=>bif Nat.beq k' k then(cellsAt H r (Nat.mul n k) off).bind (chop k f n)else none
 |.nils=>some []
 |_=>none
theorem dec_str:Dec1 H dStr .str:=by
 intro P K nx β w _ c v a hf hv
 unfold dStr at hf
 split at hf<;>cases hf
 cases hv;exact .str _
theorem Dec1.one{f:CV→Option α}{e:α→V}(h:Dec1 H f e)(he:∀a,(e a).cells=[e a]):DecN H 1 (dOne f) e:=by
 intro P K nx β w hs cs vs a hf hl h1 hr
 unfold dOne at hf
 split at hf
 case h_2=>cases hf
 rename_i c
 rw [he]
 refine⟨rfl,rfl,fun i v x hv hx=>?_⟩
 match i with
 | 0=>cases hx;exact h hs c v a hf (hr 0 v c hv rfl)
 |i+1=>simp at hx
theorem DecN.agg{k:Nat}{f:List CV→Option α}{e:α→V}(h:DecN H k f e)(he:∀a,∃xs,e a = .agg xs):Dec1 H (dAgg f) e:=by
 intro P K nx β w hs c v a hf hv
 unfold dAgg at hf
 split at hf
 case h_2=>cases hf
 rename_i cs
 cases hv with
 |agg vs _ hn h1 hr=>
 obtain⟨g1,g2,g3⟩:=h hs cs vs a hf hn h1 hr
 obtain⟨xs,hx⟩:=he a
 rw [hx]at g1 g3 ⊢
 have g1:xs.length=k:=g1
 exact .agg vs xs (by omega) h1 fun i v x hv hx=>g3 i v x hv hx
theorem chop_spec{k:Nat}{f:List CV→Option α}:∀(n:Nat) (cs:List CV) (l:List α),chop k f n cs=some l→l.length=n∧∀(i:Nat) a,l[i]? = some a→f ((cs.drop (i*k)).take k)=some a
 | 0,cs,l,h=>by cases h;exact⟨rfl,fun i a hi=>by simp at hi⟩
 |n+1,cs,l,h=>by
  have e:chop k f (n+1) cs=match f (cs.take k),chop k f n (cs.drop k) with|some a,some l=>some (a::l)|_,_=>none:=rfl
  rw [e]at h
  split at h
  case h_2=>cases h
  rename_i a l' ha hl
  cases h
  obtain⟨g1,g2⟩:=chop_spec n _ _ hl
  refine⟨by simp [g1],fun i x hi=>?_⟩
  cases i with
  |zero=>simp at hi;subst hi;simpa using ha
  |succ i=>
   simp at hi
   have:=g2 i x hi
   rw [List.drop_drop]at this
   rw [show(i+1)*k=k+i*k by rw [Nat.add_mul];omega]
   exact this
def encL(k:Nat)(e:α→V)[Inhabited α](l:List α):V:=.slc k l.length fun i=>e (l.getD i default)
theorem DecN.list[Inhabited α]{k:Nat}{f:List CV→Option α}{e:α→V}(h:DecN H k f e):Dec1 H (dList H k f) (encL k e):=by
 intro P K nx β w hs c v l hf hv
 unfold dList at hf
 split at hf
 case h_3=>cases hf
 ·rename_i r off n cc xx k'
  rw [Bool.cond_eq_ite]at hf
  split at hf
  case isFalse=>cases hf
  rename_i hk
  simp only [Nat.beq_eq]at hk
  subst hk
  rw [Option.bind_eq_some_iff]at hf
  obtain⟨cs,hcs,hch⟩:=hf
  obtain⟨c1,c2⟩:=chop_spec _ _ _ hch
  cases hv with
  |slc _ _ _ _ c' _ _ bi hb hn hc hx hL=>
  obtain⟨us,o1,o2,o3,o4,o5⟩:=cellsAt_rep (s:=⟨.e,H,nx⟩) hs hcs hb
  have o1:us.length=n*k':=o1
  have o2:cs.length=n*k':=o2
  have key:∀i,i<n→∃a,l[i]? = some a∧((e a).cells.length=k'∧∀(j:Nat) v x,us[i*k'+j]? = some v→j<k'→(e a).cells[j]? = some x→RepV (memW w) v x):=by
   intro i hi
   have hla:l[i]? = some l[i]:=List.getElem?_eq_getElem (by omega)
   refine⟨_,hla,?_⟩
   have hle:i*k'+k'≤n*k':=by
    have:=Nat.mul_le_mul_right k' (show i+1≤n from hi)
    rw [Nat.add_mul]at this;omega
   obtain⟨g1,g2,g3⟩:=h hs ((cs.drop (i*k')).take k') ((us.drop (i*k')).take k') _ (c2 i _ hla) (by simp;omega) (fun v hv=>o3 v (List.mem_of_mem_drop (List.mem_of_mem_take hv))) (fun j v c hv hc=>by
    rw [List.getElem?_take]at hv hc
    split at hv
    ·rename_i hj
     rw [if_pos hj]at hc
     rw [List.getElem?_drop]at hv hc
     exact o5 _ _ _ hv hc
    ·cases hv)
   refine⟨g1,fun j v x hv hj hx=>g3 j v x ?_ hx⟩
   rw [List.getElem?_take,if_pos hj,List.getElem?_drop];exact hv
  unfold encL
  rw [c1]
  refine .slc bi.b off k' n c' _ (fun i j=>us.getD (i*k'+j) undef) (Nat.le_trans hn hc) (fun i hi=>?_) (fun i j hi hj=>?_) (fun i j hi hj=>?_) (fun i j x hi hx=>?_)
  ·obtain⟨a,ha,h1,_⟩:=key i hi
   rw [List.getD_eq_getElem?_getD,ha];exact h1
  ·have hlt:i*k'+j<us.length:=by
    have:=Nat.mul_le_mul_right k' (show i+1≤n from hi)
    rw [Nat.add_mul]at this;omega
   have:=o4 (i*k'+j) us[i*k'+j] (List.getElem?_eq_getElem hlt)
   rw [List.getD_eq_getElem?_getD,List.getElem?_eq_getElem hlt]
   rw [←Nat.add_assoc]at this
   exact this
  ·have hlt:i*k'+j<us.length:=by
    have:=Nat.mul_le_mul_right k' (show i+1≤n from hi)
    rw [Nat.add_mul]at this;omega
   rw [List.getD_eq_getElem?_getD,List.getElem?_eq_getElem hlt]
   exact o3 _ (List.getElem_mem _)
  ·obtain⟨a,ha,h1,h2⟩:=key i hi
   rw [List.getD_eq_getElem?_getD,ha]at hx
   have hj:j<k':=by
    have:=(List.getElem?_eq_some_iff.1 hx).1
    have h1:(e a).cells.length=k':=h1
    simp only [Option.getD_some]at this
    omega
   have hlt:i*k'+j<us.length:=by
    have:=Nat.mul_le_mul_right k' (show i+1≤n from hi)
    rw [Nat.add_mul]at this;omega
   rw [List.getD_eq_getElem?_getD,List.getElem?_eq_getElem hlt]
   exact h2 j _ x (List.getElem?_eq_getElem hlt) hj hx
 ·cases hf;cases hv;exact .slc0 k _
noncomputable def pvV(x:V):Option CV:=match x with
 |.int k n=>some (.int k n)
 |.bool b=>some (.bool b)
 |.str s=>some (.str s)
 |.nili=>some .nili
 |.nilp=>some .nilp
 |_=>none
noncomputable def cvD1(d:D):Option CV:=match d with|.v x=>pvV x|_=>none
noncomputable def cvD(d:D):Option CV:=match d with
 |.tup ds=>(mapO cvD1 ds).map .tup
 |d=>cvD1 d
theorem pvV_rep{M:Mem}{u:Value}{x:V}{c:CV}{β:Nat→Option BI}(h:RepV M u x)(hc:pvV x=some c):CR β u c:=by
 unfold pvV at hc
 split at hc<;>cases hc<;>cases h
 ·exact .int _ _
 ·exact .bool _
 ·exact .str _
 ·exact .nili
 ·exact .nilp
theorem cvD1_rep{M:Mem}{β0:Nat→Option Nat}{u:Value}{d:D}{c:CV}{β:Nat→Option BI}(h:RepD M β0 u d)(hc:cvD1 d=some c):CR β u c:=by
 unfold cvD1 at hc
 split at hc
 case h_2=>cases hc
 cases h with
 |v _ _ h=>exact pvV_rep h hc
theorem cvD_rep{M:Mem}{β0:Nat→Option Nat}{u:Value}{d:D}{c:CV}{β:Nat→Option BI}(h:RepD M β0 u d)(hc:cvD d=some c):CR β u c:=by
 unfold cvD at hc
 split at hc
 ·rename_i ds
  rw [Option.map_eq_some_iff]at hc
  obtain⟨cs,hcs,rfl⟩:=hc
  obtain⟨g1,g2⟩:=mapO_get hcs
  cases h with
  |tup vs _ hn hr=>
  exact .tup vs cs (by omega) fun i v c hv hc=>by
   have hi:i<ds.length:=by have:=(List.getElem?_eq_some_iff.1 hc).1;omega
   have hd:ds[i]? = some ds[i]:=List.getElem?_eq_getElem hi
   exact cvD1_rep (hr i v _ hv hd) (g2 i _ c hd hc)
 ·exact cvD1_rep h hc
theorem fn_of_says{f:FuncId}{g:List CV→T Blk→Option CV}(has:HasF P f)
    (h:∀(args:List CV) (H:T Blk) (c:CV),g args H=some c→∃(xs:List V) (d:D),xs.length=args.length∧
      (∀{K:Ctx} {nx:Nat} {β:Nat→Option BI} {w:World},SimC P K 0 β ⟨.e,H,nx⟩ #[] w→∀(i:Nat) c x u,args[i]? = some c→xs[i]? = some x→CR β u c→RepV (memW w) u x)∧
      saysOf P f (xs.map .v) [] [] (.ret d none) []∧cvD d=some c):FnOk P f g:=by
  refine⟨has,fun args H c hg K nx β vs w hlen hargs hs=>?_⟩
  obtain⟨xs,d,hxl,hdec,hsay,hcv⟩:=h args H c hg
  let K':Ctx:={M0:=memW w,F:=fun b=>w.heap[b]?,β0:=fun _=>none,oo:=(w.os,w.output)}
  have hF:Gd P K'.F:=hs.good.mono fun b ob hb=>hs.frame b ob hb
  have hent:∀l e,({env:=envOf (xs.map D.v) [],H:=enumFrom' 0 ([]:List (List Ent)),nxt:=0}:St).at l=some e→RepD (memW w) (fun _=>none) (valAt ⟨vs⟩ w (fun _=>none) l) e.d∧e.own=none:=by
    intro l e hl
    cases l with
    |slot i=>
      simp only [St.at,envOf,look_enum0,withOwn_get,List.getElem?_map,Option.map_map,Option.map_eq_some_iff]at hl
      obtain⟨x,hx,rfl⟩:=hl
      refine⟨?_,by simp [look]⟩
      have hi:i<vs.length:=by have:=(List.getElem?_eq_some_iff.1 hx).1;omega
      have hv:vs[i]? = some vs[i]:=List.getElem?_eq_getElem hi
      have ha:args[i]? = some args[i]:=List.getElem?_eq_getElem (by omega)
      have e1:valAt (⟨vs⟩:Array Value) w (fun _=>none) (.slot i)=vs[i]:=by simp [valAt,hv]
      rw [e1]
      exact .v _ _ (hdec hs i _ x _ ha hx (hargs i _ _ hv ha))
    |cell r i=>simp [St.at,enumFrom',look]at hl
  have hsim:SimAt P K' (memW w) (fun _=>none) {env:=envOf (xs.map D.v) [],H:=enumFrom' 0 ([]:List (List Ent)),nxt:=([]:List (List Ent)).length} ⟨vs⟩ w:=by
    refine⟨fun l e hl=>(hent l e hl).1,fun l e T hl ho=>?_,fun l l' e e' T T' b hl ho _ _ _ _=>?_,fun l e T b r cs hl ho _ hr=>?_,fun r cs hr=>?_,fun r r' b cs cs' hr=>?_,fun r b hb=>(by cases hb),fun b o v h=>h,fun _ _ _ h=>h,fun b ob hb=>⟨hb,fun _=>rfl⟩,fun r b hb=>(by cases hb),hF,rfl⟩
    · rw [(hent l e hl).2]at ho;cases ho
    · rw [(hent l e hl).2]at ho;cases ho
    · simp [enumFrom',look]at hr
    · simp [enumFrom',look]at hr
    · simp [enumFrom',look]at hr
  refine(hsay.2 K' w vs (memW w) (fun _=>none) (by simp;omega) hsim (fun r b hb=>by cases hb)).mono ?_
  rintro e w' ⟨o',H',v,M',β',⟨rfl,rfl⟩,rfl,hS⟩
  refine⟨v,rfl,?_,fun b ob hb=>(hS.frame b ob hb).1,hS.oo⟩
  have:=hS.ents (.slot 0) {d:=d,own:=none} (by simp [St.at,resEnv,look])
  exact cvD_rep (by simpa [valAt]using this) hcv
end
end Go.Ab.Cm

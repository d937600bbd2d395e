/- For every n and every engine, WorldProgresses returns true: part Shlf of the proof. -/
import Derived.Shelf.Small.Bits
import Derived.Shelf.Small.Strs
import Derived.Shelf.Strconv.Itoa0
import Derived.Shelf.Strconv.ParseIntEmpty
import Derived.Shelf.LaysM
import Derived.Shelf.Strconv.Clone
import Derived.Shelf.Strconv.SyntaxError
import Derived.Shelf.LaysC
import Derived.Shelf.Strconv.ToError
import Derived.Shelf.Strconv.Lower
import Derived.Shelf.Strconv.ParseUint10
import Derived.Shelf.Strconv.ParseUint10Empty
import Derived.Shelf.Strconv.ParseUint10Any
import Derived.Shelf.Strconv.ParseInt10
import Derived.Shelf.Strconv.RangeError
import Derived.Shelf.Strconv.ToErrorRange
import Derived.Shelf.Strconv.ParseUintEmpty
import Derived.Shelf.Strconv.ParseUint10b64
import Derived.Shelf.Strconv.ParseUint10b32
import Derived.Shelf.Strconv.ParseUint10b16
import Derived.Shelf.Strconv.ParseUint10b8
import Derived.Shelf.Strconv.ParseUint10At
import Derived.Shelf.Strconv.ParseInt10At64
import Derived.Shelf.Strconv.ParseInt10At32
import Derived.Shelf.Strconv.ParseInt10At16
import Derived.Shelf.Strconv.ParseInt10At8
import Derived.Shelf.Strconv.ParseInt10All
import Derived.Shelf.Strconv.ParseIntPublic10
import Derived.Shelf.Strings.Search1
import Derived.Shelf.Bits.Mul64
import Derived.Ground.Names2Prog
import Derived.Shelf.Slices.ReverseS
import Derived.Shelf.Slices.Clone
import Derived.Shelf.Slices.CompactI
import Derived.Shelf.Slices.CompactS
import Derived.Shelf.Slices.SearchI
import Derived.Shelf.Slices.Cells
import Derived.Ground.SlgnProg
import Derived.Shelf.SlicesE.Clone
import Derived.Test.YtogmkmomikjmiaaGreatDoorProg
import Derived.Lib.Builder
import Derived.Lib.UnsafeStr
import Derived.WalkKit
import Derived.Laws.Externs
import Derived.Shelf.RegionOpenPlain
import Derived.Test.YtogmkmomikjmiaaGreatDoorCmB
set_option linter.all false
namespace Go.Proofs
open Go.Shelf
open Go.RowKit in
def Tryz.laysM316_ren:Go.Shelf.Ren:=⟨fun | 316=>652|n=>n,fun | 9=>9 | 3=>3 | 4=>4 | 37=>137 | 0=>0 | 127=>588 | 5=>5|n=>n,fun|n=>n⟩
theorem Tryz.laysM316:Go.Proofs.LaysM.n316 Tryz.prog Tryz.laysM316_ren:={
 mixed:=by kernel_rfl
 f316:=Tryz.func652.trans (congrArg some (by kernel_rfl))
 t0:=Tryz.underlying0
 a0:=Tryz.isAgg0
 z0:=Tryz.sizeOf0
 v0:=Tryz.zeroValue0
 t3:=Tryz.underlying3
 a3:=Tryz.isAgg3
 z3:=Tryz.sizeOf3
 v3:=Tryz.zeroValue3
 t4:=Tryz.underlying4
 a4:=Tryz.isAgg4
 z4:=Tryz.sizeOf4
 v4:=Tryz.zeroValue4
 t9:=Tryz.underlying9
 a9:=Tryz.isAgg9
 z9:=Tryz.sizeOf9
 v9:=Tryz.zeroValue9
 t37:=Tryz.underlying137
 a37:=Tryz.isAgg137
 z37:=Tryz.sizeOf137
 v37:=Tryz.zeroValue137
 t127:=Tryz.underlying588
 a127:=Tryz.isAgg588
 z127:=Tryz.sizeOf588
 v127:=Tryz.zeroValue588
 t5:=Tryz.underlying5
 a5:=Tryz.isAgg5
 z5:=Tryz.sizeOf5
 v5:=Tryz.zeroValue5
 i0:=by kernel_rfl
 i3:=by kernel_rfl
 i4:=by kernel_rfl
 i5:=by kernel_rfl
 i9:=by kernel_rfl
 i37:=by kernel_rfl
 i127:=by kernel_rfl}
open Go.RowKit in
theorem Tryz.stringslite_Clone(s:ByteArray)(w:World)(hlim:s.size≤281474976710656):
 Calls Tryz.prog 652 #[.string s] w fun e w'=>e = .returned (.string s)∧Below w.heap.size w w':=Any.stringslite_Clone Tryz.laysM316 s w hlim
def Tryz.laysC174_ren:Go.Shelf.Ren:=⟨fun | 174=>732 | 247=>755 | 245=>756 | 287=>773 | 279=>774 | 280=>775 | 281=>776 | 282=>777 | 321=>790 | 322=>791 | 316=>652 | 171=>793 | 205=>792 | 243=>797 | 246=>741 | 283=>759 | 284=>760 | 285=>761 | 286=>762 | 129=>577 | 317=>780 | 318=>781 | 319=>782 | 320=>783 | 337=>794 | 338=>795|n=>n,fun | 9=>9 | 3=>3 | 2=>2 | 75=>421 | 85=>912 | 4=>4 | 167=>938 | 5=>5 | 53=>89 | 175=>939 | 46=>184 | 168=>941 | 37=>137 | 0=>0 | 210=>953 | 21=>21 | 127=>588 | 145=>957 | 143=>955 | 171=>929 | 173=>931 | 212=>946 | 51=>277 | 20=>20 | 213=>947 | 232=>958 | 233=>589 | 80=>425|n=>n,fun | 15=>2 | 16=>3 | 17=>1 | 18=>4 | 19=>5|n=>n⟩
theorem Tryz.laysC174:Go.Proofs.LaysC.n174 Tryz.prog Tryz.laysC174_ren:={
 mixed:=by kernel_rfl
 f129:=Tryz.func577.trans (congrArg some (by kernel_rfl))
 f171:=Tryz.func793.trans (congrArg some (by kernel_rfl))
 f174:=Tryz.func732.trans (congrArg some (by kernel_rfl))
 f205:=Tryz.func792.trans (congrArg some (by kernel_rfl))
 f243:=Tryz.func797.trans (congrArg some (by kernel_rfl))
 f245:=Tryz.func756.trans (congrArg some (by kernel_rfl))
 f246:=Tryz.func741.trans (congrArg some (by kernel_rfl))
 f247:=Tryz.func755.trans (congrArg some (by kernel_rfl))
 f279:=Tryz.func774.trans (congrArg some (by kernel_rfl))
 f280:=Tryz.func775.trans (congrArg some (by kernel_rfl))
 f281:=Tryz.func776.trans (congrArg some (by kernel_rfl))
 f282:=Tryz.func777.trans (congrArg some (by kernel_rfl))
 f283:=Tryz.func759.trans (congrArg some (by kernel_rfl))
 f284:=Tryz.func760.trans (congrArg some (by kernel_rfl))
 f285:=Tryz.func761.trans (congrArg some (by kernel_rfl))
 f286:=Tryz.func762.trans (congrArg some (by kernel_rfl))
 f287:=Tryz.func773.trans (congrArg some (by kernel_rfl))
 f316:=Tryz.func652.trans (congrArg some (by kernel_rfl))
 f317:=Tryz.func780.trans (congrArg some (by kernel_rfl))
 f318:=Tryz.func781.trans (congrArg some (by kernel_rfl))
 f319:=Tryz.func782.trans (congrArg some (by kernel_rfl))
 f320:=Tryz.func783.trans (congrArg some (by kernel_rfl))
 f321:=Tryz.func790.trans (congrArg some (by kernel_rfl))
 f322:=Tryz.func791.trans (congrArg some (by kernel_rfl))
 f337:=Tryz.func794.trans (congrArg some (by kernel_rfl))
 f338:=Tryz.func795.trans (congrArg some (by kernel_rfl))
 t0:=Tryz.underlying0
 a0:=Tryz.isAgg0
 z0:=Tryz.sizeOf0
 v0:=Tryz.zeroValue0
 t2:=Tryz.underlying2
 a2:=Tryz.isAgg2
 z2:=Tryz.sizeOf2
 v2:=Tryz.zeroValue2
 t3:=Tryz.underlying3
 a3:=Tryz.isAgg3
 z3:=Tryz.sizeOf3
 v3:=Tryz.zeroValue3
 t4:=Tryz.underlying4
 a4:=Tryz.isAgg4
 z4:=Tryz.sizeOf4
 v4:=Tryz.zeroValue4
 t5:=Tryz.underlying5
 a5:=Tryz.isAgg5
 z5:=Tryz.sizeOf5
 v5:=Tryz.zeroValue5
 t9:=Tryz.underlying9
 a9:=Tryz.isAgg9
 z9:=Tryz.sizeOf9
 v9:=Tryz.zeroValue9
 t20:=Tryz.underlying20
 a20:=Tryz.isAgg20
 z20:=Tryz.sizeOf20
 v20:=Tryz.zeroValue20
 t21:=Tryz.underlying21
 a21:=Tryz.isAgg21
 z21:=Tryz.sizeOf21
 v21:=Tryz.zeroValue21
 t37:=Tryz.underlying137
 a37:=Tryz.isAgg137
 z37:=Tryz.sizeOf137
 v37:=Tryz.zeroValue137
 t46:=Tryz.underlying184
 a46:=Tryz.isAgg184
 z46:=Tryz.sizeOf184
 v46:=Tryz.zeroValue184
 t51:=Tryz.underlying277
 a51:=Tryz.isAgg277
 z51:=Tryz.sizeOf277
 v51:=Tryz.zeroValue277
 t53:=Tryz.underlying89
 a53:=Tryz.isAgg89
 z53:=Tryz.sizeOf89
 v53:=Tryz.zeroValue89
 t75:=Tryz.underlying421
 a75:=Tryz.isAgg421
 z75:=Tryz.sizeOf421
 v75:=Tryz.zeroValue421
 t85:=Tryz.underlying912
 a85:=Tryz.isAgg912
 z85:=Tryz.sizeOf912
 v85:=Tryz.zeroValue912
 t127:=Tryz.underlying588
 a127:=Tryz.isAgg588
 z127:=Tryz.sizeOf588
 v127:=Tryz.zeroValue588
 t143:=Tryz.underlying955
 a143:=Tryz.isAgg955
 z143:=Tryz.sizeOf955
 v143:=Tryz.zeroValue955
 t145:=Tryz.underlying957
 a145:=Tryz.isAgg957
 z145:=Tryz.sizeOf957
 v145:=Tryz.zeroValue957
 t167:=Tryz.underlying938
 a167:=Tryz.isAgg938
 z167:=Tryz.sizeOf938
 v167:=Tryz.zeroValue938
 t168:=Tryz.underlying941
 a168:=Tryz.isAgg941
 z168:=Tryz.sizeOf941
 v168:=Tryz.zeroValue941
 t171:=Tryz.underlying929
 a171:=Tryz.isAgg929
 z171:=Tryz.sizeOf929
 v171:=Tryz.zeroValue929
 t173:=Tryz.underlying931
 a173:=Tryz.isAgg931
 z173:=Tryz.sizeOf931
 v173:=Tryz.zeroValue931
 t175:=Tryz.underlying939
 a175:=Tryz.isAgg939
 z175:=Tryz.sizeOf939
 v175:=Tryz.zeroValue939
 t210:=Tryz.underlying953
 a210:=Tryz.isAgg953
 z210:=Tryz.sizeOf953
 v210:=Tryz.zeroValue953
 t212:=Tryz.underlying946
 a212:=Tryz.isAgg946
 z212:=Tryz.sizeOf946
 v212:=Tryz.zeroValue946
 t213:=Tryz.underlying947
 a213:=Tryz.isAgg947
 z213:=Tryz.sizeOf947
 t232:=Tryz.underlying958
 a232:=Tryz.isAgg958
 z232:=Tryz.sizeOf958
 v232:=Tryz.zeroValue958
 t233:=Tryz.underlying589
 a233:=Tryz.isAgg589
 z233:=Tryz.sizeOf589
 v233:=Tryz.zeroValue589
 g15:=by kernel_rfl
 g16:=by kernel_rfl
 g17:=by kernel_rfl
 g18:=by kernel_rfl
 g19:=by kernel_rfl
 t80:=Tryz.underlying425
 a80:=Tryz.isAgg425
 z80:=Tryz.sizeOf425
 v80:=Tryz.zeroValue425
 i0:=by kernel_rfl
 i2:=by kernel_rfl
 i3:=by kernel_rfl
 i4:=by kernel_rfl
 i5:=by kernel_rfl
 i9:=by kernel_rfl
 i20:=by kernel_rfl
 i21:=by kernel_rfl
 i37:=by kernel_rfl
 i46:=by kernel_rfl
 i51:=by kernel_rfl
 i53:=by kernel_rfl
 i75:=by kernel_rfl
 i80:=by kernel_rfl
 i85:=by kernel_rfl
 i127:=by kernel_rfl
 i143:=by kernel_rfl
 i145:=by kernel_rfl
 i167:=by kernel_rfl
 i168:=by kernel_rfl
 i171:=by kernel_rfl
 i173:=by kernel_rfl
 i175:=by kernel_rfl
 i210:=by kernel_rfl
 i212:=by kernel_rfl
 i232:=by kernel_rfl
 i233:=by kernel_rfl
 m15:=by kernel_rfl
 m16:=by kernel_rfl
 m17:=by kernel_rfl
 m18:=by kernel_rfl
 m19:=by kernel_rfl
 c0:=by kernel_rfl
 c2:=by kernel_rfl
 c3:=by kernel_rfl
 c4:=by kernel_rfl
 c5:=by kernel_rfl
 c9:=by kernel_rfl
 c20:=by kernel_rfl
 c21:=by kernel_rfl
 c37:=by kernel_rfl
 c46:=by kernel_rfl
 c51:=by kernel_rfl
 c53:=by kernel_rfl
 c75:=by kernel_rfl
 c80:=by kernel_rfl
 c85:=by kernel_rfl
 c127:=by kernel_rfl
 c143:=by kernel_rfl
 c145:=by kernel_rfl
 c167:=by kernel_rfl
 c168:=by kernel_rfl
 c171:=by kernel_rfl
 c173:=by kernel_rfl
 c175:=by kernel_rfl
 c210:=by kernel_rfl
 c212:=by kernel_rfl
 c213:=by kernel_rfl
 c232:=by kernel_rfl
 c233:=by kernel_rfl}
open Go.RowKit in
theorem Tryz.strconv_ParseInt_10_at64_ok(s:ByteArray)(hmax:s.size≤9223372036854775806)(v:Int)(h:Lib.parseIntB 64 s.data.toList = .ok v)(w:World):
 Calls Tryz.prog 732 #[.string s,.int .i64 10,.int .i64 64] w fun e w'=>e = .returned (.tuple #[.int .i64 v,.nilIface])∧(w'=w∨∃t,w'=Lib.bytesWorld w 5 t):=Any.strconv_ParseInt_10_at64_ok Tryz.laysC174 s hmax v h w
def Tryz.lays217_ren:Go.Shelf.Ren:=⟨fun | 217=>733 | 266=>757|n=>n,fun | 9=>9 | 5=>5 | 3=>3|n=>n,fun|n=>n⟩
theorem Tryz.lays217:Go.Proofs.Lays.n217 Tryz.prog Tryz.lays217_ren:={
 mixed:=by kernel_rfl
 f217:=Tryz.func733.trans (congrArg some (by kernel_rfl))
 f266:=Tryz.func757.trans (congrArg some (by kernel_rfl))
 t3:=Tryz.underlying3
 a3:=Tryz.isAgg3
 z3:=Tryz.sizeOf3
 v3:=Tryz.zeroValue3
 t5:=Tryz.underlying5
 a5:=Tryz.isAgg5
 z5:=Tryz.sizeOf5
 v5:=Tryz.zeroValue5
 t9:=Tryz.underlying9
 a9:=Tryz.isAgg9
 z9:=Tryz.sizeOf9
 v9:=Tryz.zeroValue9}
open Go.RowKit Go.Lib in
theorem Tryz.stringslite_IndexByte(s:ByteArray)(c:Int)(w:World):
 Calls Tryz.prog 733 #[.string s,.int .u8 c] w fun e w'=>e = .returned (.int .i64 (Lib.indexByte s.data.toList c.toNat.toUInt8))∧w'=w:=Any.stringslite_IndexByte Tryz.lays217 s c w
end Go.Proofs
namespace Go.Ab.Y
open Go Go.Proofs Go.RowKit
theorem szB:(Tryz.prog.info? 419).map (·.size)=some 2:=by kernel_rfl
set_option maxHeartbeats 1000000 in
set_option maxRecDepth 100000 in
theorem copyCheck_used(b:Nat)(w:World)(h0:w.cell? ⟨b,0,none⟩=some (.pointer (some ⟨b,0,none⟩))):
    Calls Tryz.prog 388 #[.pointer (some ⟨b,0,none⟩)] w fun e w'=>e = .returned (.tuple #[])∧w'=w:=by
  obtain⟨j,hj,_⟩:=Option.map_eq_some_iff.1 szB
  go_enter Tryz.func388,Tryz.ntmps388
  go_wp2
  rw [Lib.run_neq_ptr_same w _ Tryz.underlying417 hj]
  go_wp2
  go_end0
  exact⟨rfl,rfl⟩
set_option maxHeartbeats 1000000 in
set_option maxRecDepth 100000 in
theorem copyCheck_fresh(b:Nat)(w:World)(T:TypeId)(k:Nat)(h0:w.cell? ⟨b,0,none⟩=some (.pointer none))(hsh:w.shape? b=some (T,k))(hk:0<k)(hlies:liesAt Tryz.prog Tryz.prog.depth T (k / Tryz.prog.cellsOf T) 0 419 1=true)(hfz:w.frozen? ⟨b,0,none⟩=false):
    Calls Tryz.prog 388 #[.pointer (some ⟨b,0,none⟩)] w fun e w'=>e = .returned (.tuple #[])∧w'=w.setCell ⟨b,0,none⟩ (.pointer (some ⟨b,0,none⟩)):=by
  obtain⟨j,hj,hjs⟩:=Option.map_eq_some_iff.1 szB
  go_enter Tryz.func388,Tryz.ntmps388
  go_wp2
  rw [Lib.run_to_unsafe w ⟨b,0,none⟩ Tryz.underlying417 Tryz.underlying714 hj (by rw [hjs];decide) hsh hk]
  simp only [Result.andThen]
  rw [Oper.upon_value]
  go_wp2
  rw [run_callFunc_extern Tryz.func503 (by kernel_rfl) (by kernel_rfl) (by kernel_rfl) (e:=Extern.AbiNoEscape.same) (by kernel_rfl)]
  rw [Lib.run_noEscape]
  simp only [Result.andThen]
  rw [Oper.upon_value]
  go_wp2
  rw [Lib.run_from_unsafe w ⟨b,0,none⟩ Tryz.underlying714 Tryz.underlying417 hj hsh hlies]
  simp only [Result.andThen]
  rw [Oper.upon_value]
  go_wp2
  go_end0
  exact⟨rfl,rfl⟩
end Go.Ab.Y
namespace Go.Ab.Y
open Go Go.Proofs Go.RowKit
theorem cellsByte:Tryz.prog.cellsOf 5=1:=by kernel_rfl
set_option maxHeartbeats 2000000 in
set_option maxRecDepth 100000 in
theorem bstr_nil(b:Nat)(w:World)(h:w.cell? ⟨b,1,none⟩=some (.slice none 0 0)):
    Calls Tryz.prog 259 #[.pointer (some ⟨b,0,none⟩)] w fun e w'=>e = .returned (.string ⟨#[]⟩)∧w'=w.drew:=by
  have hUS:(Builtin.unsafeString_ #[588,3] 9 #[.pointer none,.int .i64 0]).run Tryz.prog w.drew = .ok (.string .empty) w.drew:=Lib.run_unsafeString_none w.drew _ _ _ none
  have c1:w.drew.cell? ⟨b,1,none⟩=some (.slice none 0 0):=h
  have hSD:(Builtin.unsafeSliceData_ #[137] 588 #[.slice none 0 0]).run Tryz.prog w.drew = .ok (.pointer none) w.drew:=rfl
  have mixed:Tryz.prog.follows .mixedOrders=true:=by kernel_rfl
  go_enter Tryz.func259,Tryz.ntmps259
  go_wp2
  go_region_o
  all_goals (go_wp2;go_ret;exact⟨rfl,rfl⟩)
set_option maxHeartbeats 2000000 in
set_option maxRecDepth 100000 in
theorem bstr_room(b g cap:Nat)(w:World)(hc0:cap≠0)(h:w.cell? ⟨b,1,none⟩=some (.slice (some ⟨g,0,none⟩) 0 cap)):
    Calls Tryz.prog 259 #[.pointer (some ⟨b,0,none⟩)] w fun e w'=>e = .returned (.string ⟨#[]⟩)∧w'=w.drew:=by
  have hUS:(Builtin.unsafeString_ #[588,3] 9 #[.pointer (some ⟨g,0,none⟩),.int .i64 0]).run Tryz.prog w.drew = .ok (.string .empty) w.drew:=Lib.run_unsafeString_none w.drew _ _ _ _
  have c1:w.drew.cell? ⟨b,1,none⟩=some (.slice (some ⟨g,0,none⟩) 0 cap):=h
  have hSD:(Builtin.unsafeSliceData_ #[137] 588 #[.slice (some ⟨g,0,none⟩) 0 cap]).run Tryz.prog w.drew = .ok (.pointer (some ⟨g,0,none⟩)) w.drew:=Lib.run_unsafeSliceData_row _ _ _ _ _ _ hc0
  clear hc0
  have mixed:Tryz.prog.follows .mixedOrders=true:=by kernel_rfl
  go_enter Tryz.func259,Tryz.ntmps259
  go_wp2
  go_region_o
  all_goals (go_wp2;go_ret;exact⟨rfl,rfl⟩)
set_option maxHeartbeats 2000000 in
set_option maxRecDepth 100000 in
theorem bstr_noroom(b g:Nat)(w:World)(vs:List Value)(h:w.cell? ⟨b,1,none⟩=some (.slice (some ⟨g,0,none⟩) 0 0))(hb:b<w.heap.size)(hg:w.heap[g]? = some (.cells ⟨vs⟩ 5 (0,0))):
    Calls Tryz.prog 259 #[.pointer (some ⟨b,0,none⟩)] w fun e w'=>e = .returned (.string ⟨#[]⟩)∧w'=(w.drew.alloc (.view ⟨g,0,none⟩ 5)):=by
  have hUS:∀(q:Option Addr) (W:World),(Builtin.unsafeString_ #[588,3] 9 #[.pointer q,.int .i64 0]).run Tryz.prog W = .ok (.string .empty) W:=fun q W=>Lib.run_unsafeString_none W _ _ _ q
  have c1:w.drew.cell? ⟨b,1,none⟩=some (.slice (some ⟨g,0,none⟩) 0 0):=h
  have hSD:(Builtin.unsafeSliceData_ #[137] 588 #[.slice (some ⟨g,0,none⟩) 0 0]).run Tryz.prog w.drew = .ok (.pointer (some ⟨w.drew.heap.size,0,none⟩)) (w.drew.alloc (.view ⟨g,0,none⟩ 5)):=
    Lib.run_unsafeSliceData_zero w.drew _ _ 5 Tryz.underlying588 ⟨g,0,none⟩ 0 (5,vs.length) (by have hg':w.drew.heap[g]? = some (.cells ⟨vs⟩ 5 (0,0)):=hg;simp [World.shape?,hg'])
  have c2:(w.drew.alloc (.view ⟨g,0,none⟩ 5)).cell? ⟨b,1,none⟩=some (.slice (some ⟨g,0,none⟩) 0 0):=by
    unfold World.cell? at h ⊢
    rw [show(w.drew.alloc (.view ⟨g,0,none⟩ 5)).heap[b]? = w.heap[b]? from Lib.alloc_old w.drew _ b hb];exact h
  have c3:(w.alloc (.view ⟨g,0,none⟩ 5)).drew.cell? ⟨b,1,none⟩=some (.slice (some ⟨g,0,none⟩) 0 0):=c2
  have mixed:Tryz.prog.follows .mixedOrders=true:=by kernel_rfl
  go_enter Tryz.func259,Tryz.ntmps259
  go_wp2
  go_region_o
  all_goals (go_wp2;go_ret;exact⟨rfl,rfl⟩)
set_option maxHeartbeats 2000000 in
set_option maxRecDepth 100000 in
theorem bstr_some(b g cap:Nat)(w:World)(vs:List Value)(l:List UInt8)(h0:l≠[])(h:w.cell? ⟨b,1,none⟩=some (.slice (some ⟨g,0,none⟩) l.length cap))(hg:w.heap[g]? = some (.cells ⟨vs⟩ 5 (0,0)))
    (hn:l.length≤cap) (hcap:cap≤vs.length) (h63:l.length≤9223372036854775807) (hc:∀(j:Nat) (x:UInt8),l[j]? = some x→vs[j]? = some (Value.int .u8 x.toNat)):
    Calls Tryz.prog 259 #[.pointer (some ⟨b,0,none⟩)] w fun e w'=>e = .returned (.string ⟨l.toArray⟩)∧w'=w.drew.freeze ⟨g,0,none⟩ l.length:=by
  have hl0:l.length≠0:=by simpa using h0
  have c1:w.drew.cell? ⟨b,1,none⟩=some (.slice (some ⟨g,0,none⟩) l.length cap):=h
  have hg':w.drew.heap[g]? = some (.cells ⟨vs⟩ 5 (0,0)):=hg
  have hSD:(Builtin.unsafeSliceData_ #[137] 588 #[.slice (some ⟨g,0,none⟩) l.length cap]).run Tryz.prog w.drew = .ok (.pointer (some ⟨g,0,none⟩)) w.drew:=Lib.run_unsafeSliceData_row _ _ _ _ _ _ (by omega)
  have hUS:(Builtin.unsafeString_ #[588,3] 9 #[.pointer (some ⟨g,0,none⟩),.int .i64 l.length]).run Tryz.prog w.drew = .ok (.string ⟨l.toArray⟩) (w.drew.freeze ⟨g,0,none⟩ l.length):=
    Lib.run_unsafeString_row w.drew 588 3 9 5 Tryz.underlying588 cellsByte g vs.length (by simp [World.shape?,hg']) l h0 (by omega) h63 (fun j x hx=>by
      have:=hc j x hx
      rw [show(⟨g,0,none⟩:Addr).add j=⟨g,j,none⟩by unfold Addr.add;split<;>simp_all,Go.Ab.cell_of_heap hg',this])
  have mixed:Tryz.prog.follows .mixedOrders=true:=by kernel_rfl
  go_enter Tryz.func259,Tryz.ntmps259
  go_wp2
  go_region_o
  all_goals (go_wp2;go_ret;exact⟨rfl,rfl⟩)
end Go.Ab.Y

/- Contracts of the library at this program, in plain words. -/
import Derived.Shelf.Strings.Builder1
import Derived.Shelf.Strings.Builder2
import Derived.Shelf.Strings.OnBuilder
import Derived.Shelf.Small.Strs
import Derived.Shelf.Strings.BuilderF
import Derived.Shelf.Strings.BuilderK
import Derived.Shelf.Strconv.Itoa0
import Derived.Shelf.Strconv.Itoa1
import Derived.Shelf.LaysM
import Derived.Shelf.Strconv.Itoa2
import Derived.Shelf.Strconv.Itoa3
import Derived.Shelf.Strconv.Itoa4
import Derived.Shelf.Strconv.ParseIntEmpty
import Derived.Shelf.Strconv.Clone
import Derived.Shelf.Strconv.SyntaxError
import Derived.Shelf.LaysC
import Derived.Shelf.Strconv.ToError
import Derived.Shelf.Strconv.Lower
import Derived.Shelf.Strconv.ParseUint10
import Derived.Shelf.Strconv.ParseUint10Empty
import Derived.Shelf.Strconv.ParseUint10Any
import Derived.Shelf.Strconv.ParseInt10
import Derived.Shelf.Strconv.RangeError
import Derived.Shelf.Strconv.ToErrorRange
import Derived.Shelf.Strconv.ParseUintEmpty
import Derived.Shelf.Strconv.ParseUint10b64
import Derived.Shelf.Strconv.ParseUint10b32
import Derived.Shelf.Strconv.ParseUint10b16
import Derived.Shelf.Strconv.ParseUint10b8
import Derived.Shelf.Strconv.ParseUint10At
import Derived.Shelf.Strconv.ParseInt10At64
import Derived.Shelf.Strconv.ParseInt10At32
import Derived.Shelf.Strconv.ParseInt10At16
import Derived.Shelf.Strconv.ParseInt10At8
import Derived.Shelf.Strconv.ParseInt10All
import Derived.Shelf.Strconv.ParseIntPublic10
import Derived.Shelf.Strings.Search1
import Derived.Test.YtcjbfnojhpfchaaGreatDoorProg
import Derived.Test.YtcjbfnojhpfchaaGreatDoorMachC
namespace Go.Proofs
open Go.Shelf
def Tryz.X0:Go.Shelf.Ren:=⟨fun | 156=>119 | 165=>191 | 166=>57 | 169=>66 | 240=>113 | 241=>238 | 276=>184 | 277=>288|n=>n,fun | 31=>55 | 9=>9 | 3=>3 | 4=>4 | 0=>0 | 20=>20 | 72=>120 | 76=>123 | 70=>117 | 37=>118 | 75=>122 | 127=>191 | 164=>256 | 5=>5 | 80=>133|n=>n,fun|n=>n⟩
theorem Tryz.Pc:Go.Proofs.Lays.n156 Tryz.prog Tryz.X0:={
  mixed:=by kernel_rfl
  f156:=Tryz.func119.trans (congrArg some (by kernel_rfl))
  f165:=Tryz.func191.trans (congrArg some (by kernel_rfl))
  f166:=Tryz.func57.trans (congrArg some (by kernel_rfl))
  f169:=Tryz.func66.trans (congrArg some (by kernel_rfl))
  f240:=Tryz.func113.trans (congrArg some (by kernel_rfl))
  f241:=Tryz.func238.trans (congrArg some (by kernel_rfl))
  f276:=Tryz.func184.trans (congrArg some (by kernel_rfl))
  f277:=Tryz.func288.trans (congrArg some (by kernel_rfl))
  t0:=Tryz.underlying0
  a0:=Tryz.isAgg0
  z0:=Tryz.sizeOf0
  v0:=Tryz.zeroValue0
  t3:=Tryz.underlying3
  a3:=Tryz.isAgg3
  z3:=Tryz.sizeOf3
  v3:=Tryz.zeroValue3
  t4:=Tryz.underlying4
  a4:=Tryz.isAgg4
  z4:=Tryz.sizeOf4
  v4:=Tryz.zeroValue4
  t9:=Tryz.underlying9
  a9:=Tryz.isAgg9
  z9:=Tryz.sizeOf9
  v9:=Tryz.zeroValue9
  t20:=Tryz.underlying20
  a20:=Tryz.isAgg20
  z20:=Tryz.sizeOf20
  v20:=Tryz.zeroValue20
  t31:=Tryz.underlying55
  a31:=Tryz.isAgg55
  z31:=Tryz.sizeOf55
  v31:=Tryz.zeroValue55
  t37:=Tryz.underlying118
  a37:=Tryz.isAgg118
  z37:=Tryz.sizeOf118
  v37:=Tryz.zeroValue118
  t70:=Tryz.underlying117
  a70:=Tryz.isAgg117
  z70:=Tryz.sizeOf117
  v70:=Tryz.zeroValue117
  t72:=Tryz.underlying120
  a72:=Tryz.isAgg120
  z72:=Tryz.sizeOf120
  v72:=Tryz.zeroValue120
  t75:=Tryz.underlying122
  a75:=Tryz.isAgg122
  z75:=Tryz.sizeOf122
  v75:=Tryz.zeroValue122
  t76:=Tryz.underlying123
  a76:=Tryz.isAgg123
  z76:=Tryz.sizeOf123
  v76:=Tryz.zeroValue123
  t127:=Tryz.underlying191
  a127:=Tryz.isAgg191
  z127:=Tryz.sizeOf191
  v127:=Tryz.zeroValue191
  t164:=Tryz.underlying256
  a164:=Tryz.isAgg256
  z164:=Tryz.sizeOf256
  v164:=Tryz.zeroValue256}
def Tryz.ahI:Go.Shelf.Ren:=⟨fun | 173=>320 | 246=>337 | 283=>347 | 284=>348 | 285=>349 | 286=>350 | 129=>357 | 317=>356 | 318=>358 | 319=>359 | 320=>360 | 337=>364 | 338=>365|n=>n,fun | 2=>2 | 3=>3 | 9=>9 | 4=>4 | 171=>375 | 0=>0 | 53=>32 | 37=>118 | 5=>5 | 173=>378 | 212=>384 | 51=>385 | 20=>20 | 213=>386 | 46=>179 | 232=>396 | 233=>397|n=>n,fun | 17=>1 | 18=>2 | 19=>3|n=>n⟩
theorem Tryz.ahJ:Go.Proofs.LaysM.n173 Tryz.prog Tryz.ahI:={
  mixed:=by kernel_rfl
  f129:=Tryz.func357.trans (congrArg some (by kernel_rfl))
  f173:=Tryz.func320.trans (congrArg some (by kernel_rfl))
  f246:=Tryz.func337.trans (congrArg some (by kernel_rfl))
  f283:=Tryz.func347.trans (congrArg some (by kernel_rfl))
  f284:=Tryz.func348.trans (congrArg some (by kernel_rfl))
  f285:=Tryz.func349.trans (congrArg some (by kernel_rfl))
  f286:=Tryz.func350.trans (congrArg some (by kernel_rfl))
  f317:=Tryz.func356.trans (congrArg some (by kernel_rfl))
  f318:=Tryz.func358.trans (congrArg some (by kernel_rfl))
  f319:=Tryz.func359.trans (congrArg some (by kernel_rfl))
  f320:=Tryz.func360.trans (congrArg some (by kernel_rfl))
  f337:=Tryz.func364.trans (congrArg some (by kernel_rfl))
  f338:=Tryz.func365.trans (congrArg some (by kernel_rfl))
  t0:=Tryz.underlying0
  a0:=Tryz.isAgg0
  z0:=Tryz.sizeOf0
  v0:=Tryz.zeroValue0
  t2:=Tryz.underlying2
  a2:=Tryz.isAgg2
  z2:=Tryz.sizeOf2
  v2:=Tryz.zeroValue2
  t3:=Tryz.underlying3
  a3:=Tryz.isAgg3
  z3:=Tryz.sizeOf3
  v3:=Tryz.zeroValue3
  t4:=Tryz.underlying4
  a4:=Tryz.isAgg4
  z4:=Tryz.sizeOf4
  v4:=Tryz.zeroValue4
  t5:=Tryz.underlying5
  a5:=Tryz.isAgg5
  z5:=Tryz.sizeOf5
  v5:=Tryz.zeroValue5
  t9:=Tryz.underlying9
  a9:=Tryz.isAgg9
  z9:=Tryz.sizeOf9
  v9:=Tryz.zeroValue9
  t20:=Tryz.underlying20
  a20:=Tryz.isAgg20
  z20:=Tryz.sizeOf20
  v20:=Tryz.zeroValue20
  t37:=Tryz.underlying118
  a37:=Tryz.isAgg118
  z37:=Tryz.sizeOf118
  v37:=Tryz.zeroValue118
  t46:=Tryz.underlying179
  a46:=Tryz.isAgg179
  z46:=Tryz.sizeOf179
  v46:=Tryz.zeroValue179
  t51:=Tryz.underlying385
  a51:=Tryz.isAgg385
  z51:=Tryz.sizeOf385
  v51:=Tryz.zeroValue385
  t53:=Tryz.underlying32
  a53:=Tryz.isAgg32
  z53:=Tryz.sizeOf32
  v53:=Tryz.zeroValue32
  t171:=Tryz.underlying375
  a171:=Tryz.isAgg375
  z171:=Tryz.sizeOf375
  v171:=Tryz.zeroValue375
  t173:=Tryz.underlying378
  a173:=Tryz.isAgg378
  z173:=Tryz.sizeOf378
  v173:=Tryz.zeroValue378
  t212:=Tryz.underlying384
  a212:=Tryz.isAgg384
  z212:=Tryz.sizeOf384
  v212:=Tryz.zeroValue384
  t213:=Tryz.underlying386
  a213:=Tryz.isAgg386
  z213:=Tryz.sizeOf386
  t232:=Tryz.underlying396
  a232:=Tryz.isAgg396
  z232:=Tryz.sizeOf396
  v232:=Tryz.zeroValue396
  t233:=Tryz.underlying397
  a233:=Tryz.isAgg397
  z233:=Tryz.sizeOf397
  v233:=Tryz.zeroValue397
  g17:=by kernel_rfl
  g18:=by kernel_rfl
  g19:=by kernel_rfl
  i0:=by kernel_rfl
  i2:=by kernel_rfl
  i3:=by kernel_rfl
  i4:=by kernel_rfl
  i5:=by kernel_rfl
  i9:=by kernel_rfl
  i20:=by kernel_rfl
  i37:=by kernel_rfl
  i46:=by kernel_rfl
  i51:=by kernel_rfl
  i53:=by kernel_rfl
  i171:=by kernel_rfl
  i173:=by kernel_rfl
  i212:=by kernel_rfl
  i232:=by kernel_rfl
  i233:=by kernel_rfl
  m17:=by kernel_rfl
  m18:=by kernel_rfl
  m19:=by kernel_rfl}
open Go.RowKit Go.Sort Go.Lib in
theorem Tryz.strconv_FormatInt_10 (n : Int) (h0 : -9223372036854775808 ≤ n) (Z : n ≤ 9223372036854775807) (w : World) (ahK : Lib.TabIs Tryz.prog w "internal/strconv.uint64pow10" .u64 Lib.pow10Tab) :
    Calls Tryz.prog 320 #[.int .i64 n,.int .i64 10] w λe w'=>e = .returned (.string ⟨(Lib.itoa n).toArray⟩)∧∃k os,w'=grow (w.drewN k) os:=Any.strconv_FormatInt_10 Tryz.ahJ n h0 Z w ahK
def Tryz.ahL:Go.Shelf.Ren:=⟨fun | 316=>326|n=>n,fun | 9=>9 | 3=>3 | 4=>4 | 37=>118 | 0=>0 | 127=>191 | 5=>5|n=>n,fun|n=>n⟩
theorem Tryz.ahM:Go.Proofs.LaysM.n316 Tryz.prog Tryz.ahL:={
  mixed:=by kernel_rfl
  f316:=Tryz.func326.trans (congrArg some (by kernel_rfl))
  t0:=Tryz.underlying0
  a0:=Tryz.isAgg0
  z0:=Tryz.sizeOf0
  v0:=Tryz.zeroValue0
  t3:=Tryz.underlying3
  a3:=Tryz.isAgg3
  z3:=Tryz.sizeOf3
  v3:=Tryz.zeroValue3
  t4:=Tryz.underlying4
  a4:=Tryz.isAgg4
  z4:=Tryz.sizeOf4
  v4:=Tryz.zeroValue4
  t9:=Tryz.underlying9
  a9:=Tryz.isAgg9
  z9:=Tryz.sizeOf9
  v9:=Tryz.zeroValue9
  t37:=Tryz.underlying118
  a37:=Tryz.isAgg118
  z37:=Tryz.sizeOf118
  v37:=Tryz.zeroValue118
  t127:=Tryz.underlying191
  a127:=Tryz.isAgg191
  z127:=Tryz.sizeOf191
  v127:=Tryz.zeroValue191
  t5:=Tryz.underlying5
  a5:=Tryz.isAgg5
  z5:=Tryz.sizeOf5
  v5:=Tryz.zeroValue5
  i0:=by kernel_rfl
  i3:=by kernel_rfl
  i4:=by kernel_rfl
  i5:=by kernel_rfl
  i9:=by kernel_rfl
  i37:=by kernel_rfl
  i127:=by kernel_rfl}
open Go.RowKit in
theorem Tryz.stringslite_Clone(s:ByteArray)(w:World)(Df:s.size≤281474976710656):
    Calls Tryz.prog 326 #[.string s] w λe w'=>e = .returned (.string s)∧Below w.heap.size w w':=Any.stringslite_Clone Tryz.ahM s w Df
def Tryz.ahN:Go.Shelf.Ren:=⟨fun | 174=>351 | 247=>361 | 245=>362 | 287=>366 | 279=>367 | 280=>368 | 281=>369 | 282=>370 | 321=>371 | 322=>372 | 316=>326 | 171=>374 | 205=>373 | 243=>375 | 246=>337 | 283=>347 | 284=>348 | 285=>349 | 286=>350 | 129=>357 | 317=>356 | 318=>358 | 319=>359 | 320=>360 | 337=>364 | 338=>365|n=>n,fun | 9=>9 | 3=>3 | 2=>2 | 75=>122 | 85=>380 | 4=>4 | 167=>390 | 5=>5 | 53=>32 | 175=>391 | 46=>179 | 168=>393 | 37=>118 | 0=>0 | 210=>400 | 21=>21 | 127=>191 | 145=>404 | 143=>402 | 171=>375 | 173=>378 | 212=>384 | 51=>385 | 20=>20 | 213=>386 | 232=>396 | 233=>397 | 80=>133|n=>n,fun | 15=>4 | 16=>5 | 17=>1 | 18=>2 | 19=>3|n=>n⟩
theorem Tryz.Pd:Go.Proofs.LaysC.n174 Tryz.prog Tryz.ahN:={
  mixed:=by kernel_rfl
  f129:=Tryz.func357.trans (congrArg some (by kernel_rfl))
  f171:=Tryz.func374.trans (congrArg some (by kernel_rfl))
  f174:=Tryz.func351.trans (congrArg some (by kernel_rfl))
  f205:=Tryz.func373.trans (congrArg some (by kernel_rfl))
  f243:=Tryz.func375.trans (congrArg some (by kernel_rfl))
  f245:=Tryz.func362.trans (congrArg some (by kernel_rfl))
  f246:=Tryz.func337.trans (congrArg some (by kernel_rfl))
  f247:=Tryz.func361.trans (congrArg some (by kernel_rfl))
  f279:=Tryz.func367.trans (congrArg some (by kernel_rfl))
  f280:=Tryz.func368.trans (congrArg some (by kernel_rfl))
  f281:=Tryz.func369.trans (congrArg some (by kernel_rfl))
  f282:=Tryz.func370.trans (congrArg some (by kernel_rfl))
  f283:=Tryz.func347.trans (congrArg some (by kernel_rfl))
  f284:=Tryz.func348.trans (congrArg some (by kernel_rfl))
  f285:=Tryz.func349.trans (congrArg some (by kernel_rfl))
  f286:=Tryz.func350.trans (congrArg some (by kernel_rfl))
  f287:=Tryz.func366.trans (congrArg some (by kernel_rfl))
  f316:=Tryz.func326.trans (congrArg some (by kernel_rfl))
  f317:=Tryz.func356.trans (congrArg some (by kernel_rfl))
  f318:=Tryz.func358.trans (congrArg some (by kernel_rfl))
  f319:=Tryz.func359.trans (congrArg some (by kernel_rfl))
  f320:=Tryz.func360.trans (congrArg some (by kernel_rfl))
  f321:=Tryz.func371.trans (congrArg some (by kernel_rfl))
  f322:=Tryz.func372.trans (congrArg some (by kernel_rfl))
  f337:=Tryz.func364.trans (congrArg some (by kernel_rfl))
  f338:=Tryz.func365.trans (congrArg some (by kernel_rfl))
  t0:=Tryz.underlying0
  a0:=Tryz.isAgg0
  z0:=Tryz.sizeOf0
  v0:=Tryz.zeroValue0
  t2:=Tryz.underlying2
  a2:=Tryz.isAgg2
  z2:=Tryz.sizeOf2
  v2:=Tryz.zeroValue2
  t3:=Tryz.underlying3
  a3:=Tryz.isAgg3
  z3:=Tryz.sizeOf3
  v3:=Tryz.zeroValue3
  t4:=Tryz.underlying4
  a4:=Tryz.isAgg4
  z4:=Tryz.sizeOf4
  v4:=Tryz.zeroValue4
  t5:=Tryz.underlying5
  a5:=Tryz.isAgg5
  z5:=Tryz.sizeOf5
  v5:=Tryz.zeroValue5
  t9:=Tryz.underlying9
  a9:=Tryz.isAgg9
  z9:=Tryz.sizeOf9
  v9:=Tryz.zeroValue9
  t20:=Tryz.underlying20
  a20:=Tryz.isAgg20
  z20:=Tryz.sizeOf20
  v20:=Tryz.zeroValue20
  t21:=Tryz.underlying21
  a21:=Tryz.isAgg21
  z21:=Tryz.sizeOf21
  v21:=Tryz.zeroValue21
  t37:=Tryz.underlying118
  a37:=Tryz.isAgg118
  z37:=Tryz.sizeOf118
  v37:=Tryz.zeroValue118
  t46:=Tryz.underlying179
  a46:=Tryz.isAgg179
  z46:=Tryz.sizeOf179
  v46:=Tryz.zeroValue179
  t51:=Tryz.underlying385
  a51:=Tryz.isAgg385
  z51:=Tryz.sizeOf385
  v51:=Tryz.zeroValue385
  t53:=Tryz.underlying32
  a53:=Tryz.isAgg32
  z53:=Tryz.sizeOf32
  v53:=Tryz.zeroValue32
  t75:=Tryz.underlying122
  a75:=Tryz.isAgg122
  z75:=Tryz.sizeOf122
  v75:=Tryz.zeroValue122
  t85:=Tryz.underlying380
  a85:=Tryz.isAgg380
  z85:=Tryz.sizeOf380
  v85:=Tryz.zeroValue380
  t127:=Tryz.underlying191
  a127:=Tryz.isAgg191
  z127:=Tryz.sizeOf191
  v127:=Tryz.zeroValue191
  t143:=Tryz.underlying402
  a143:=Tryz.isAgg402
  z143:=Tryz.sizeOf402
  v143:=Tryz.zeroValue402
  t145:=Tryz.underlying404
  a145:=Tryz.isAgg404
  z145:=Tryz.sizeOf404
  v145:=Tryz.zeroValue404
  t167:=Tryz.underlying390
  a167:=Tryz.isAgg390
  z167:=Tryz.sizeOf390
  v167:=Tryz.zeroValue390
  t168:=Tryz.underlying393
  a168:=Tryz.isAgg393
  z168:=Tryz.sizeOf393
  v168:=Tryz.zeroValue393
  t171:=Tryz.underlying375
  a171:=Tryz.isAgg375
  z171:=Tryz.sizeOf375
  v171:=Tryz.zeroValue375
  t173:=Tryz.underlying378
  a173:=Tryz.isAgg378
  z173:=Tryz.sizeOf378
  v173:=Tryz.zeroValue378
  t175:=Tryz.underlying391
  a175:=Tryz.isAgg391
  z175:=Tryz.sizeOf391
  v175:=Tryz.zeroValue391
  t210:=Tryz.underlying400
  a210:=Tryz.isAgg400
  z210:=Tryz.sizeOf400
  v210:=Tryz.zeroValue400
  t212:=Tryz.underlying384
  a212:=Tryz.isAgg384
  z212:=Tryz.sizeOf384
  v212:=Tryz.zeroValue384
  t213:=Tryz.underlying386
  a213:=Tryz.isAgg386
  z213:=Tryz.sizeOf386
  t232:=Tryz.underlying396
  a232:=Tryz.isAgg396
  z232:=Tryz.sizeOf396
  v232:=Tryz.zeroValue396
  t233:=Tryz.underlying397
  a233:=Tryz.isAgg397
  z233:=Tryz.sizeOf397
  v233:=Tryz.zeroValue397
  g15:=by kernel_rfl
  g16:=by kernel_rfl
  g17:=by kernel_rfl
  g18:=by kernel_rfl
  g19:=by kernel_rfl
  t80:=Tryz.underlying133
  a80:=Tryz.isAgg133
  z80:=Tryz.sizeOf133
  v80:=Tryz.zeroValue133
  i0:=by kernel_rfl
  i2:=by kernel_rfl
  i3:=by kernel_rfl
  i4:=by kernel_rfl
  i5:=by kernel_rfl
  i9:=by kernel_rfl
  i20:=by kernel_rfl
  i21:=by kernel_rfl
  i37:=by kernel_rfl
  i46:=by kernel_rfl
  i51:=by kernel_rfl
  i53:=by kernel_rfl
  i75:=by kernel_rfl
  i80:=by kernel_rfl
  i85:=by kernel_rfl
  i127:=by kernel_rfl
  i143:=by kernel_rfl
  i145:=by kernel_rfl
  i167:=by kernel_rfl
  i168:=by kernel_rfl
  i171:=by kernel_rfl
  i173:=by kernel_rfl
  i175:=by kernel_rfl
  i210:=by kernel_rfl
  i212:=by kernel_rfl
  i232:=by kernel_rfl
  i233:=by kernel_rfl
  m15:=by kernel_rfl
  m16:=by kernel_rfl
  m17:=by kernel_rfl
  m18:=by kernel_rfl
  m19:=by kernel_rfl
  c0:=by kernel_rfl
  c2:=by kernel_rfl
  c3:=by kernel_rfl
  c4:=by kernel_rfl
  c5:=by kernel_rfl
  c9:=by kernel_rfl
  c20:=by kernel_rfl
  c21:=by kernel_rfl
  c37:=by kernel_rfl
  c46:=by kernel_rfl
  c51:=by kernel_rfl
  c53:=by kernel_rfl
  c75:=by kernel_rfl
  c80:=by kernel_rfl
  c85:=by kernel_rfl
  c127:=by kernel_rfl
  c143:=by kernel_rfl
  c145:=by kernel_rfl
  c167:=by kernel_rfl
  c168:=by kernel_rfl
  c171:=by kernel_rfl
  c173:=by kernel_rfl
  c175:=by kernel_rfl
  c210:=by kernel_rfl
  c212:=by kernel_rfl
  c213:=by kernel_rfl
  c232:=by kernel_rfl
  c233:=by kernel_rfl}
open Go.RowKit in
theorem Tryz.strconv_ParseInt_10_at64_ok(s:ByteArray)(ahO:s.size≤9223372036854775806)(v:Int)(h:Lib.parseIntB 64 s.data.toList = .ok v)(w:World):
    Calls Tryz.prog 351 #[.string s,.int .i64 10,.int .i64 64] w λe w'=>e = .returned (.tuple #[.int .i64 v,.nilIface])∧(w'=w∨∃t,w'=Lib.bytesWorld w 5 t):=Any.strconv_ParseInt_10_at64_ok Tryz.Pd s ahO v h w
open Go.RowKit in
theorem Tryz.strconv_ParseInt_10_at64_syntax(s:ByteArray)(Df:s.size≤281474976710656)(h:(∀v,Lib.parseIntB 64 s.data.toList ≠ .ok v)∧Lib.parseIntB 64 s.data.toList ≠ .range)(fN:Value)(w:World)(av:w.cell? ⟨4,0,none⟩=some fN)(Pe:fN = .nilIface∨∃ci sr,fN = .iface ci sr):
    Calls Tryz.prog 351 #[.string s,.int .i64 10,.int .i64 64] w λe w'=>∃N,e = .returned (.tuple #[.int .i64 (0),.iface 393 (.pointer (some ⟨N,0,none⟩))])∧w.heap.size≤N∧w'.heap[N]? = some (.cells #[.string ⟨#[80,97,114,115,101,73,110,116]⟩,.string s,fN] 400 (0,0))∧Below w.heap.size w w':=Any.strconv_ParseInt_10_at64_syntax Tryz.Pd s Df (by rcases hp:Lib.parseIntB 64 s.data.toList with v|_|_;exact absurd hp (h.1 v);rfl;exact absurd hp h.2) fN w av Pe
open Go.RowKit in
theorem Tryz.strconv_ParseInt_10_at64_range(s:ByteArray)(Df:s.size≤281474976710656)(h:Lib.parseIntB 64 s.data.toList = .range)(fN:Value)(w:World)(av:w.cell? ⟨5,0,none⟩=some fN)(Pe:fN = .nilIface∨∃ci sr,fN = .iface ci sr):
    Calls Tryz.prog 351 #[.string s,.int .i64 10,.int .i64 64] w λe w'=>∃N,e = .returned (.tuple #[.int .i64 (Lib.intSat 64 s.data.toList),.iface 393 (.pointer (some ⟨N,0,none⟩))])∧w.heap.size≤N∧w'.heap[N]? = some (.cells #[.string ⟨#[80,97,114,115,101,73,110,116]⟩,.string s,fN] 400 (0,0))∧Below w.heap.size w w':=Any.strconv_ParseInt_10_at64_range Tryz.Pd s Df h fN w av Pe
def Tryz.ahP:Go.Shelf.Ren:=⟨fun | 217=>352 | 266=>363|n=>n,fun | 9=>9 | 5=>5 | 3=>3|n=>n,fun|n=>n⟩
theorem Tryz.ahQ:Go.Proofs.Lays.n217 Tryz.prog Tryz.ahP:={
  mixed:=by kernel_rfl
  f217:=Tryz.func352.trans (congrArg some (by kernel_rfl))
  f266:=Tryz.func363.trans (congrArg some (by kernel_rfl))
  t3:=Tryz.underlying3
  a3:=Tryz.isAgg3
  z3:=Tryz.sizeOf3
  v3:=Tryz.zeroValue3
  t5:=Tryz.underlying5
  a5:=Tryz.isAgg5
  z5:=Tryz.sizeOf5
  v5:=Tryz.zeroValue5
  t9:=Tryz.underlying9
  a9:=Tryz.isAgg9
  z9:=Tryz.sizeOf9
  v9:=Tryz.zeroValue9}
open Go.RowKit Go.Lib in
theorem Tryz.stringslite_IndexByte(s:ByteArray)(c:Int)(w:World):
    Calls Tryz.prog 352 #[.string s,.int .u8 c] w λe w'=>e = .returned (.int .i64 (Lib.indexByte s.data.toList c.toNat.toUInt8))∧w'=w:=Any.stringslite_IndexByte Tryz.ahQ s c w
end Go.Proofs

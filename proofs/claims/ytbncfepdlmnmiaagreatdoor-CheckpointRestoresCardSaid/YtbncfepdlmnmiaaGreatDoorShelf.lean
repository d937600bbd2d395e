/- Contracts of the library at this program, in plain words. -/
import Derived.Shelf.Strings.Builder1
import Derived.Shelf.Strings.Builder2
import Derived.Shelf.Strings.OnBuilder
import Derived.Shelf.Small.Strs
import Derived.Shelf.Strings.BuilderF
import Derived.Shelf.Strings.BuilderK
import Derived.Shelf.Strings.Builder2Cap
import Derived.Shelf.Strconv.Itoa0
import Derived.Shelf.Strconv.Itoa1
import Derived.Shelf.LaysM
import Derived.Shelf.Strconv.Itoa2
import Derived.Shelf.Strconv.Itoa3
import Derived.Shelf.Strconv.Itoa4
import Derived.Shelf.Strconv.ParseIntEmpty
import Derived.Shelf.Strconv.Clone
import Derived.Shelf.Strconv.SyntaxError
import Derived.Shelf.LaysC
import Derived.Shelf.Strconv.ToError
import Derived.Shelf.Strconv.Lower
import Derived.Shelf.Strconv.ParseUint10
import Derived.Shelf.Strconv.ParseUint10Empty
import Derived.Shelf.Strconv.ParseUint10Any
import Derived.Shelf.Strconv.ParseInt10
import Derived.Shelf.Strconv.RangeError
import Derived.Shelf.Strconv.ToErrorRange
import Derived.Shelf.Strconv.ParseUintEmpty
import Derived.Shelf.Strconv.ParseUint10b64
import Derived.Shelf.Strconv.ParseUint10b32
import Derived.Shelf.Strconv.ParseUint10b16
import Derived.Shelf.Strconv.ParseUint10b8
import Derived.Shelf.Strconv.ParseUint10At
import Derived.Shelf.Strconv.ParseInt10At64
import Derived.Shelf.Strconv.ParseInt10At32
import Derived.Shelf.Strconv.ParseInt10At16
import Derived.Shelf.Strconv.ParseInt10At8
import Derived.Shelf.Strconv.ParseInt10All
import Derived.Shelf.Strconv.ParseIntPublic10
import Derived.Shelf.Strings.Search1
import Derived.Shelf.Strings.BuilderCap
import Derived.Ground.Names2Prog
import Derived.Shelf.Slices.Clone
import Derived.Ground.SlgnProg
import Derived.Shelf.SlicesE.Clone
import Derived.Test.YtbncfepdlmnmiaaGreatDoorProg
import Derived.Test.YtbncfepdlmnmiaaGreatDoorMachC
namespace Go.Proofs
open Go.Shelf
def Tryz.YY:Go.Shelf.Ren:=⟨fun | 156=>196 | 165=>258 | 166=>50 | 169=>54 | 240=>104 | 241=>297 | 276=>158 | 277=>342|n=>n,fun | 31=>38 | 9=>9 | 3=>3 | 4=>4 | 0=>0 | 20=>20 | 72=>106 | 76=>109 | 70=>103 | 37=>104 | 75=>108 | 127=>157 | 164=>213 | 5=>5 | 80=>114|n=>n,fun|n=>n⟩
theorem Tryz.Pt:Go.Proofs.Lays.n156 Tryz.prog Tryz.YY:={
  mixed:=by kernel_rfl
  f156:=Tryz.func196.trans (congrArg some (by kernel_rfl))
  f165:=Tryz.func258.trans (congrArg some (by kernel_rfl))
  f166:=Tryz.func50.trans (congrArg some (by kernel_rfl))
  f169:=Tryz.func54.trans (congrArg some (by kernel_rfl))
  f240:=Tryz.func104.trans (congrArg some (by kernel_rfl))
  f241:=Tryz.func297.trans (congrArg some (by kernel_rfl))
  f276:=Tryz.func158.trans (congrArg some (by kernel_rfl))
  f277:=Tryz.func342.trans (congrArg some (by kernel_rfl))
  t0:=Tryz.underlying0
  a0:=Tryz.isAgg0
  z0:=Tryz.sizeOf0
  v0:=Tryz.zeroValue0
  t3:=Tryz.underlying3
  a3:=Tryz.isAgg3
  z3:=Tryz.sizeOf3
  v3:=Tryz.zeroValue3
  t4:=Tryz.underlying4
  a4:=Tryz.isAgg4
  z4:=Tryz.sizeOf4
  v4:=Tryz.zeroValue4
  t9:=Tryz.underlying9
  a9:=Tryz.isAgg9
  z9:=Tryz.sizeOf9
  v9:=Tryz.zeroValue9
  t20:=Tryz.underlying20
  a20:=Tryz.isAgg20
  z20:=Tryz.sizeOf20
  v20:=Tryz.zeroValue20
  t31:=Tryz.underlying38
  a31:=Tryz.isAgg38
  z31:=Tryz.sizeOf38
  v31:=Tryz.zeroValue38
  t37:=Tryz.underlying104
  a37:=Tryz.isAgg104
  z37:=Tryz.sizeOf104
  v37:=Tryz.zeroValue104
  t70:=Tryz.underlying103
  a70:=Tryz.isAgg103
  z70:=Tryz.sizeOf103
  v70:=Tryz.zeroValue103
  t72:=Tryz.underlying106
  a72:=Tryz.isAgg106
  z72:=Tryz.sizeOf106
  v72:=Tryz.zeroValue106
  t75:=Tryz.underlying108
  a75:=Tryz.isAgg108
  z75:=Tryz.sizeOf108
  v75:=Tryz.zeroValue108
  t76:=Tryz.underlying109
  a76:=Tryz.isAgg109
  z76:=Tryz.sizeOf109
  v76:=Tryz.zeroValue109
  t127:=Tryz.underlying157
  a127:=Tryz.isAgg157
  z127:=Tryz.sizeOf157
  v127:=Tryz.zeroValue157
  t164:=Tryz.underlying213
  a164:=Tryz.isAgg213
  z164:=Tryz.sizeOf213
  v164:=Tryz.zeroValue213}
def Tryz.ai2:Go.Shelf.Ren:=⟨fun | 173=>365 | 246=>382 | 283=>390 | 284=>391 | 285=>392 | 286=>393 | 129=>400 | 317=>399 | 318=>401 | 319=>402 | 320=>403 | 337=>407 | 338=>408|n=>n,fun | 2=>2 | 3=>3 | 9=>9 | 4=>4 | 171=>419 | 0=>0 | 53=>32 | 37=>104 | 5=>5 | 173=>422 | 212=>427 | 51=>428 | 20=>20 | 213=>429 | 46=>156 | 232=>439 | 233=>440|n=>n,fun | 17=>1 | 18=>2 | 19=>3|n=>n⟩
theorem Tryz.ai3:Go.Proofs.LaysM.n173 Tryz.prog Tryz.ai2:={
  mixed:=by kernel_rfl
  f129:=Tryz.func400.trans (congrArg some (by kernel_rfl))
  f173:=Tryz.func365.trans (congrArg some (by kernel_rfl))
  f246:=Tryz.func382.trans (congrArg some (by kernel_rfl))
  f283:=Tryz.func390.trans (congrArg some (by kernel_rfl))
  f284:=Tryz.func391.trans (congrArg some (by kernel_rfl))
  f285:=Tryz.func392.trans (congrArg some (by kernel_rfl))
  f286:=Tryz.func393.trans (congrArg some (by kernel_rfl))
  f317:=Tryz.func399.trans (congrArg some (by kernel_rfl))
  f318:=Tryz.func401.trans (congrArg some (by kernel_rfl))
  f319:=Tryz.func402.trans (congrArg some (by kernel_rfl))
  f320:=Tryz.func403.trans (congrArg some (by kernel_rfl))
  f337:=Tryz.func407.trans (congrArg some (by kernel_rfl))
  f338:=Tryz.func408.trans (congrArg some (by kernel_rfl))
  t0:=Tryz.underlying0
  a0:=Tryz.isAgg0
  z0:=Tryz.sizeOf0
  v0:=Tryz.zeroValue0
  t2:=Tryz.underlying2
  a2:=Tryz.isAgg2
  z2:=Tryz.sizeOf2
  v2:=Tryz.zeroValue2
  t3:=Tryz.underlying3
  a3:=Tryz.isAgg3
  z3:=Tryz.sizeOf3
  v3:=Tryz.zeroValue3
  t4:=Tryz.underlying4
  a4:=Tryz.isAgg4
  z4:=Tryz.sizeOf4
  v4:=Tryz.zeroValue4
  t5:=Tryz.underlying5
  a5:=Tryz.isAgg5
  z5:=Tryz.sizeOf5
  v5:=Tryz.zeroValue5
  t9:=Tryz.underlying9
  a9:=Tryz.isAgg9
  z9:=Tryz.sizeOf9
  v9:=Tryz.zeroValue9
  t20:=Tryz.underlying20
  a20:=Tryz.isAgg20
  z20:=Tryz.sizeOf20
  v20:=Tryz.zeroValue20
  t37:=Tryz.underlying104
  a37:=Tryz.isAgg104
  z37:=Tryz.sizeOf104
  v37:=Tryz.zeroValue104
  t46:=Tryz.underlying156
  a46:=Tryz.isAgg156
  z46:=Tryz.sizeOf156
  v46:=Tryz.zeroValue156
  t51:=Tryz.underlying428
  a51:=Tryz.isAgg428
  z51:=Tryz.sizeOf428
  v51:=Tryz.zeroValue428
  t53:=Tryz.underlying32
  a53:=Tryz.isAgg32
  z53:=Tryz.sizeOf32
  v53:=Tryz.zeroValue32
  t171:=Tryz.underlying419
  a171:=Tryz.isAgg419
  z171:=Tryz.sizeOf419
  v171:=Tryz.zeroValue419
  t173:=Tryz.underlying422
  a173:=Tryz.isAgg422
  z173:=Tryz.sizeOf422
  v173:=Tryz.zeroValue422
  t212:=Tryz.underlying427
  a212:=Tryz.isAgg427
  z212:=Tryz.sizeOf427
  v212:=Tryz.zeroValue427
  t213:=Tryz.underlying429
  a213:=Tryz.isAgg429
  z213:=Tryz.sizeOf429
  t232:=Tryz.underlying439
  a232:=Tryz.isAgg439
  z232:=Tryz.sizeOf439
  v232:=Tryz.zeroValue439
  t233:=Tryz.underlying440
  a233:=Tryz.isAgg440
  z233:=Tryz.sizeOf440
  v233:=Tryz.zeroValue440
  g17:=by kernel_rfl
  g18:=by kernel_rfl
  g19:=by kernel_rfl
  i0:=by kernel_rfl
  i2:=by kernel_rfl
  i3:=by kernel_rfl
  i4:=by kernel_rfl
  i5:=by kernel_rfl
  i9:=by kernel_rfl
  i20:=by kernel_rfl
  i37:=by kernel_rfl
  i46:=by kernel_rfl
  i51:=by kernel_rfl
  i53:=by kernel_rfl
  i171:=by kernel_rfl
  i173:=by kernel_rfl
  i212:=by kernel_rfl
  i232:=by kernel_rfl
  i233:=by kernel_rfl
  m17:=by kernel_rfl
  m18:=by kernel_rfl
  m19:=by kernel_rfl}
open Go.RowKit Go.Sort Go.Lib in
theorem Tryz.strconv_FormatInt_10 (n : Int) (h0 : -9223372036854775808 ≤ n) (Z : n ≤ 9223372036854775807) (w : World) (ai4 : Lib.TabIs Tryz.prog w "internal/strconv.uint64pow10" .u64 Lib.pow10Tab) :
    Calls Tryz.prog 365 #[.int .i64 n,.int .i64 10] w λe w'=>e = .returned (.string ⟨(Lib.itoa n).toArray⟩)∧∃k os,w'=grow (w.drewN k) os:=Any.strconv_FormatInt_10 Tryz.ai3 n h0 Z w ai4
def Tryz.ai5:Go.Shelf.Ren:=⟨fun | 316=>369|n=>n,fun | 9=>9 | 3=>3 | 4=>4 | 37=>104 | 0=>0 | 127=>157 | 5=>5|n=>n,fun|n=>n⟩
theorem Tryz.ai6:Go.Proofs.LaysM.n316 Tryz.prog Tryz.ai5:={
  mixed:=by kernel_rfl
  f316:=Tryz.func369.trans (congrArg some (by kernel_rfl))
  t0:=Tryz.underlying0
  a0:=Tryz.isAgg0
  z0:=Tryz.sizeOf0
  v0:=Tryz.zeroValue0
  t3:=Tryz.underlying3
  a3:=Tryz.isAgg3
  z3:=Tryz.sizeOf3
  v3:=Tryz.zeroValue3
  t4:=Tryz.underlying4
  a4:=Tryz.isAgg4
  z4:=Tryz.sizeOf4
  v4:=Tryz.zeroValue4
  t9:=Tryz.underlying9
  a9:=Tryz.isAgg9
  z9:=Tryz.sizeOf9
  v9:=Tryz.zeroValue9
  t37:=Tryz.underlying104
  a37:=Tryz.isAgg104
  z37:=Tryz.sizeOf104
  v37:=Tryz.zeroValue104
  t127:=Tryz.underlying157
  a127:=Tryz.isAgg157
  z127:=Tryz.sizeOf157
  v127:=Tryz.zeroValue157
  t5:=Tryz.underlying5
  a5:=Tryz.isAgg5
  z5:=Tryz.sizeOf5
  v5:=Tryz.zeroValue5
  i0:=by kernel_rfl
  i3:=by kernel_rfl
  i4:=by kernel_rfl
  i5:=by kernel_rfl
  i9:=by kernel_rfl
  i37:=by kernel_rfl
  i127:=by kernel_rfl}
open Go.RowKit in
theorem Tryz.stringslite_Clone(s:ByteArray)(w:World)(C3:s.size≤281474976710656):
    Calls Tryz.prog 369 #[.string s] w λe w'=>e = .returned (.string s)∧Below w.heap.size w w':=Any.stringslite_Clone Tryz.ai6 s w C3
def Tryz.ai7:Go.Shelf.Ren:=⟨fun | 174=>394 | 247=>404 | 245=>405 | 287=>409 | 279=>410 | 280=>411 | 281=>412 | 282=>413 | 321=>414 | 322=>415 | 316=>369 | 171=>417 | 205=>416 | 243=>418 | 246=>382 | 283=>390 | 284=>391 | 285=>392 | 286=>393 | 129=>400 | 317=>399 | 318=>401 | 319=>402 | 320=>403 | 337=>407 | 338=>408|n=>n,fun | 9=>9 | 3=>3 | 2=>2 | 75=>108 | 85=>424 | 4=>4 | 167=>433 | 5=>5 | 53=>32 | 175=>434 | 46=>156 | 168=>436 | 37=>104 | 0=>0 | 210=>443 | 21=>21 | 127=>157 | 145=>447 | 143=>445 | 171=>419 | 173=>422 | 212=>427 | 51=>428 | 20=>20 | 213=>429 | 232=>439 | 233=>440 | 80=>114|n=>n,fun | 15=>4 | 16=>5 | 17=>1 | 18=>2 | 19=>3|n=>n⟩
theorem Tryz.Pu:Go.Proofs.LaysC.n174 Tryz.prog Tryz.ai7:={
  mixed:=by kernel_rfl
  f129:=Tryz.func400.trans (congrArg some (by kernel_rfl))
  f171:=Tryz.func417.trans (congrArg some (by kernel_rfl))
  f174:=Tryz.func394.trans (congrArg some (by kernel_rfl))
  f205:=Tryz.func416.trans (congrArg some (by kernel_rfl))
  f243:=Tryz.func418.trans (congrArg some (by kernel_rfl))
  f245:=Tryz.func405.trans (congrArg some (by kernel_rfl))
  f246:=Tryz.func382.trans (congrArg some (by kernel_rfl))
  f247:=Tryz.func404.trans (congrArg some (by kernel_rfl))
  f279:=Tryz.func410.trans (congrArg some (by kernel_rfl))
  f280:=Tryz.func411.trans (congrArg some (by kernel_rfl))
  f281:=Tryz.func412.trans (congrArg some (by kernel_rfl))
  f282:=Tryz.func413.trans (congrArg some (by kernel_rfl))
  f283:=Tryz.func390.trans (congrArg some (by kernel_rfl))
  f284:=Tryz.func391.trans (congrArg some (by kernel_rfl))
  f285:=Tryz.func392.trans (congrArg some (by kernel_rfl))
  f286:=Tryz.func393.trans (congrArg some (by kernel_rfl))
  f287:=Tryz.func409.trans (congrArg some (by kernel_rfl))
  f316:=Tryz.func369.trans (congrArg some (by kernel_rfl))
  f317:=Tryz.func399.trans (congrArg some (by kernel_rfl))
  f318:=Tryz.func401.trans (congrArg some (by kernel_rfl))
  f319:=Tryz.func402.trans (congrArg some (by kernel_rfl))
  f320:=Tryz.func403.trans (congrArg some (by kernel_rfl))
  f321:=Tryz.func414.trans (congrArg some (by kernel_rfl))
  f322:=Tryz.func415.trans (congrArg some (by kernel_rfl))
  f337:=Tryz.func407.trans (congrArg some (by kernel_rfl))
  f338:=Tryz.func408.trans (congrArg some (by kernel_rfl))
  t0:=Tryz.underlying0
  a0:=Tryz.isAgg0
  z0:=Tryz.sizeOf0
  v0:=Tryz.zeroValue0
  t2:=Tryz.underlying2
  a2:=Tryz.isAgg2
  z2:=Tryz.sizeOf2
  v2:=Tryz.zeroValue2
  t3:=Tryz.underlying3
  a3:=Tryz.isAgg3
  z3:=Tryz.sizeOf3
  v3:=Tryz.zeroValue3
  t4:=Tryz.underlying4
  a4:=Tryz.isAgg4
  z4:=Tryz.sizeOf4
  v4:=Tryz.zeroValue4
  t5:=Tryz.underlying5
  a5:=Tryz.isAgg5
  z5:=Tryz.sizeOf5
  v5:=Tryz.zeroValue5
  t9:=Tryz.underlying9
  a9:=Tryz.isAgg9
  z9:=Tryz.sizeOf9
  v9:=Tryz.zeroValue9
  t20:=Tryz.underlying20
  a20:=Tryz.isAgg20
  z20:=Tryz.sizeOf20
  v20:=Tryz.zeroValue20
  t21:=Tryz.underlying21
  a21:=Tryz.isAgg21
  z21:=Tryz.sizeOf21
  v21:=Tryz.zeroValue21
  t37:=Tryz.underlying104
  a37:=Tryz.isAgg104
  z37:=Tryz.sizeOf104
  v37:=Tryz.zeroValue104
  t46:=Tryz.underlying156
  a46:=Tryz.isAgg156
  z46:=Tryz.sizeOf156
  v46:=Tryz.zeroValue156
  t51:=Tryz.underlying428
  a51:=Tryz.isAgg428
  z51:=Tryz.sizeOf428
  v51:=Tryz.zeroValue428
  t53:=Tryz.underlying32
  a53:=Tryz.isAgg32
  z53:=Tryz.sizeOf32
  v53:=Tryz.zeroValue32
  t75:=Tryz.underlying108
  a75:=Tryz.isAgg108
  z75:=Tryz.sizeOf108
  v75:=Tryz.zeroValue108
  t85:=Tryz.underlying424
  a85:=Tryz.isAgg424
  z85:=Tryz.sizeOf424
  v85:=Tryz.zeroValue424
  t127:=Tryz.underlying157
  a127:=Tryz.isAgg157
  z127:=Tryz.sizeOf157
  v127:=Tryz.zeroValue157
  t143:=Tryz.underlying445
  a143:=Tryz.isAgg445
  z143:=Tryz.sizeOf445
  v143:=Tryz.zeroValue445
  t145:=Tryz.underlying447
  a145:=Tryz.isAgg447
  z145:=Tryz.sizeOf447
  v145:=Tryz.zeroValue447
  t167:=Tryz.underlying433
  a167:=Tryz.isAgg433
  z167:=Tryz.sizeOf433
  v167:=Tryz.zeroValue433
  t168:=Tryz.underlying436
  a168:=Tryz.isAgg436
  z168:=Tryz.sizeOf436
  v168:=Tryz.zeroValue436
  t171:=Tryz.underlying419
  a171:=Tryz.isAgg419
  z171:=Tryz.sizeOf419
  v171:=Tryz.zeroValue419
  t173:=Tryz.underlying422
  a173:=Tryz.isAgg422
  z173:=Tryz.sizeOf422
  v173:=Tryz.zeroValue422
  t175:=Tryz.underlying434
  a175:=Tryz.isAgg434
  z175:=Tryz.sizeOf434
  v175:=Tryz.zeroValue434
  t210:=Tryz.underlying443
  a210:=Tryz.isAgg443
  z210:=Tryz.sizeOf443
  v210:=Tryz.zeroValue443
  t212:=Tryz.underlying427
  a212:=Tryz.isAgg427
  z212:=Tryz.sizeOf427
  v212:=Tryz.zeroValue427
  t213:=Tryz.underlying429
  a213:=Tryz.isAgg429
  z213:=Tryz.sizeOf429
  t232:=Tryz.underlying439
  a232:=Tryz.isAgg439
  z232:=Tryz.sizeOf439
  v232:=Tryz.zeroValue439
  t233:=Tryz.underlying440
  a233:=Tryz.isAgg440
  z233:=Tryz.sizeOf440
  v233:=Tryz.zeroValue440
  g15:=by kernel_rfl
  g16:=by kernel_rfl
  g17:=by kernel_rfl
  g18:=by kernel_rfl
  g19:=by kernel_rfl
  t80:=Tryz.underlying114
  a80:=Tryz.isAgg114
  z80:=Tryz.sizeOf114
  v80:=Tryz.zeroValue114
  i0:=by kernel_rfl
  i2:=by kernel_rfl
  i3:=by kernel_rfl
  i4:=by kernel_rfl
  i5:=by kernel_rfl
  i9:=by kernel_rfl
  i20:=by kernel_rfl
  i21:=by kernel_rfl
  i37:=by kernel_rfl
  i46:=by kernel_rfl
  i51:=by kernel_rfl
  i53:=by kernel_rfl
  i75:=by kernel_rfl
  i80:=by kernel_rfl
  i85:=by kernel_rfl
  i127:=by kernel_rfl
  i143:=by kernel_rfl
  i145:=by kernel_rfl
  i167:=by kernel_rfl
  i168:=by kernel_rfl
  i171:=by kernel_rfl
  i173:=by kernel_rfl
  i175:=by kernel_rfl
  i210:=by kernel_rfl
  i212:=by kernel_rfl
  i232:=by kernel_rfl
  i233:=by kernel_rfl
  m15:=by kernel_rfl
  m16:=by kernel_rfl
  m17:=by kernel_rfl
  m18:=by kernel_rfl
  m19:=by kernel_rfl
  c0:=by kernel_rfl
  c2:=by kernel_rfl
  c3:=by kernel_rfl
  c4:=by kernel_rfl
  c5:=by kernel_rfl
  c9:=by kernel_rfl
  c20:=by kernel_rfl
  c21:=by kernel_rfl
  c37:=by kernel_rfl
  c46:=by kernel_rfl
  c51:=by kernel_rfl
  c53:=by kernel_rfl
  c75:=by kernel_rfl
  c80:=by kernel_rfl
  c85:=by kernel_rfl
  c127:=by kernel_rfl
  c143:=by kernel_rfl
  c145:=by kernel_rfl
  c167:=by kernel_rfl
  c168:=by kernel_rfl
  c171:=by kernel_rfl
  c173:=by kernel_rfl
  c175:=by kernel_rfl
  c210:=by kernel_rfl
  c212:=by kernel_rfl
  c213:=by kernel_rfl
  c232:=by kernel_rfl
  c233:=by kernel_rfl}
open Go.RowKit in
theorem Tryz.strconv_ParseInt_10_at64_ok(s:ByteArray)(ai8:s.size≤9223372036854775806)(v:Int)(h:Lib.parseIntB 64 s.data.toList = .ok v)(w:World):
    Calls Tryz.prog 394 #[.string s,.int .i64 10,.int .i64 64] w λe w'=>e = .returned (.tuple #[.int .i64 v,.nilIface])∧(w'=w∨∃t,w'=Lib.bytesWorld w 5 t):=Any.strconv_ParseInt_10_at64_ok Tryz.Pu s ai8 v h w
open Go.RowKit in
theorem Tryz.strconv_ParseInt_10_at64_syntax(s:ByteArray)(C3:s.size≤281474976710656)(h:(∀v,Lib.parseIntB 64 s.data.toList ≠ .ok v)∧Lib.parseIntB 64 s.data.toList ≠ .range)(fU:Value)(w:World)(ao:w.cell? ⟨4,0,none⟩=some fU)(Pv:fU = .nilIface∨∃cA sn,fU = .iface cA sn):
    Calls Tryz.prog 394 #[.string s,.int .i64 10,.int .i64 64] w λe w'=>∃N,e = .returned (.tuple #[.int .i64 (0),.iface 436 (.pointer (some ⟨N,0,none⟩))])∧w.heap.size≤N∧w'.heap[N]? = some (.cells #[.string ⟨#[80,97,114,115,101,73,110,116]⟩,.string s,fU] 443 (0,0))∧Below w.heap.size w w':=Any.strconv_ParseInt_10_at64_syntax Tryz.Pu s C3 (by rcases hp:Lib.parseIntB 64 s.data.toList with v|_|_;exact absurd hp (h.1 v);rfl;exact absurd hp h.2) fU w ao Pv
open Go.RowKit in
theorem Tryz.strconv_ParseInt_10_at64_range(s:ByteArray)(C3:s.size≤281474976710656)(h:Lib.parseIntB 64 s.data.toList = .range)(fU:Value)(w:World)(ao:w.cell? ⟨5,0,none⟩=some fU)(Pv:fU = .nilIface∨∃cA sn,fU = .iface cA sn):
    Calls Tryz.prog 394 #[.string s,.int .i64 10,.int .i64 64] w λe w'=>∃N,e = .returned (.tuple #[.int .i64 (Lib.intSat 64 s.data.toList),.iface 436 (.pointer (some ⟨N,0,none⟩))])∧w.heap.size≤N∧w'.heap[N]? = some (.cells #[.string ⟨#[80,97,114,115,101,73,110,116]⟩,.string s,fU] 443 (0,0))∧Below w.heap.size w w':=Any.strconv_ParseInt_10_at64_range Tryz.Pu s C3 h fU w ao Pv
def Tryz.ai9:Go.Shelf.Ren:=⟨fun | 217=>395 | 266=>406|n=>n,fun | 9=>9 | 5=>5 | 3=>3|n=>n,fun|n=>n⟩
theorem Tryz.ai':Go.Proofs.Lays.n217 Tryz.prog Tryz.ai9:={
  mixed:=by kernel_rfl
  f217:=Tryz.func395.trans (congrArg some (by kernel_rfl))
  f266:=Tryz.func406.trans (congrArg some (by kernel_rfl))
  t3:=Tryz.underlying3
  a3:=Tryz.isAgg3
  z3:=Tryz.sizeOf3
  v3:=Tryz.zeroValue3
  t5:=Tryz.underlying5
  a5:=Tryz.isAgg5
  z5:=Tryz.sizeOf5
  v5:=Tryz.zeroValue5
  t9:=Tryz.underlying9
  a9:=Tryz.isAgg9
  z9:=Tryz.sizeOf9
  v9:=Tryz.zeroValue9}
open Go.RowKit Go.Lib in
theorem Tryz.stringslite_IndexByte(s:ByteArray)(c:Int)(w:World):
    Calls Tryz.prog 395 #[.string s,.int .u8 c] w λe w'=>e = .returned (.int .i64 (Lib.indexByte s.data.toList c.toNat.toUInt8))∧w'=w:=Any.stringslite_IndexByte Tryz.ai' s c w
end Go.Proofs

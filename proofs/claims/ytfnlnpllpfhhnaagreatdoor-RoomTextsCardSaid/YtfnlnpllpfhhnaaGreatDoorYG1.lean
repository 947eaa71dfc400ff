/- The row of RoomTexts, lifted from its walk; conditions: the row's own. -/
import Derived.Test.YtfnlnpllpfhhnaaGreatDoorYD4
import Derived.Test.YtfnlnpllpfhhnaaGreatDoorYC11
import Derived.Test.YtfnlnpllpfhhnaaGreatDoorYT2
import Derived.Shelf.Strconv.Itoa3
import Derived.Shelf.Strconv.AtoiAll
import Derived.Shelf.Strings.FieldsAny
import Derived.Test.YtfnlnpllpfhhnaaGreatDoorProg
import Derived.Lib.AppendIntMem
import Derived.OpenShut
import Derived.ProofKit
import Derived.LaidMore
import Derived.ChangeSame
import Derived.Carry
import Derived.Below
import Derived.Test.YtfnlnpllpfhhnaaGreatDoorRows
import Derived.Lib.LaidU8
import Derived.Stop.LaidErr
set_option linter.unusedSimpArgs false
set_option linter.unusedVariables false
namespace Go.Proofs
open Go.Shelf
def Tryz.Ec:Go.Shelf.Ren:=⟨fun | 171=>147 | 243=>244 | 246=>314 | 283=>410 | 284=>411 | 285=>412 | 286=>413 | 129=>344 | 317=>458 | 318=>459 | 319=>460 | 320=>461 | 337=>483 | 338=>484 | n=>n,fun | 3=>3 | 9=>9 | 2=>2 | 4=>4 | 171=>471 | 0=>0 | 53=>396 | 37=>230 | 5=>5 | 173=>473 | 212=>518 | 51=>309 | 20=>20 | 213=>519 | 46=>77 | 232=>546 | 233=>547 | n=>n,fun | 17=>5 | 18=>8 | 19=>9 | n=>n⟩
theorem Tryz.Pv:Go.Proofs.LaysM.n171 Tryz.prog Tryz.Ec:={
 mixed:=by kernel_rfl
 f129:=Tryz.func344.trans (congrArg some (by kernel_rfl))
 f171:=Tryz.func147.trans (congrArg some (by kernel_rfl))
 f243:=Tryz.func244.trans (congrArg some (by kernel_rfl))
 f246:=Tryz.func314.trans (congrArg some (by kernel_rfl))
 f283:=Tryz.func410.trans (congrArg some (by kernel_rfl))
 f284:=Tryz.func411.trans (congrArg some (by kernel_rfl))
 f285:=Tryz.func412.trans (congrArg some (by kernel_rfl))
 f286:=Tryz.func413.trans (congrArg some (by kernel_rfl))
 f317:=Tryz.func458.trans (congrArg some (by kernel_rfl))
 f318:=Tryz.func459.trans (congrArg some (by kernel_rfl))
 f319:=Tryz.func460.trans (congrArg some (by kernel_rfl))
 f320:=Tryz.func461.trans (congrArg some (by kernel_rfl))
 f337:=Tryz.func483.trans (congrArg some (by kernel_rfl))
 f338:=Tryz.func484.trans (congrArg some (by kernel_rfl))
 t0:=Tryz.underlying0
 a0:=Tryz.isAgg0
 z0:=Tryz.sizeOf0
 v0:=Tryz.zeroValue0
 t2:=Tryz.underlying2
 a2:=Tryz.isAgg2
 z2:=Tryz.sizeOf2
 v2:=Tryz.zeroValue2
 t3:=Tryz.underlying3
 a3:=Tryz.isAgg3
 z3:=Tryz.sizeOf3
 v3:=Tryz.zeroValue3
 t4:=Tryz.underlying4
 a4:=Tryz.isAgg4
 z4:=Tryz.sizeOf4
 v4:=Tryz.zeroValue4
 t5:=Tryz.underlying5
 a5:=Tryz.isAgg5
 z5:=Tryz.sizeOf5
 v5:=Tryz.zeroValue5
 t9:=Tryz.underlying9
 a9:=Tryz.isAgg9
 z9:=Tryz.sizeOf9
 v9:=Tryz.zeroValue9
 t20:=Tryz.underlying20
 a20:=Tryz.isAgg20
 z20:=Tryz.sizeOf20
 v20:=Tryz.zeroValue20
 t37:=Tryz.underlying230
 a37:=Tryz.isAgg230
 z37:=Tryz.sizeOf230
 v37:=Tryz.zeroValue230
 t46:=Tryz.underlying77
 a46:=Tryz.isAgg77
 z46:=Tryz.sizeOf77
 v46:=Tryz.zeroValue77
 t51:=Tryz.underlying309
 a51:=Tryz.isAgg309
 z51:=Tryz.sizeOf309
 v51:=Tryz.zeroValue309
 t53:=Tryz.underlying396
 a53:=Tryz.isAgg396
 z53:=Tryz.sizeOf396
 v53:=Tryz.zeroValue396
 t171:=Tryz.underlying471
 a171:=Tryz.isAgg471
 z171:=Tryz.sizeOf471
 v171:=Tryz.zeroValue471
 t173:=Tryz.underlying473
 a173:=Tryz.isAgg473
 z173:=Tryz.sizeOf473
 v173:=Tryz.zeroValue473
 t212:=Tryz.underlying518
 a212:=Tryz.isAgg518
 z212:=Tryz.sizeOf518
 v212:=Tryz.zeroValue518
 t213:=Tryz.underlying519
 a213:=Tryz.isAgg519
 z213:=Tryz.sizeOf519
 t232:=Tryz.underlying546
 a232:=Tryz.isAgg546
 z232:=Tryz.sizeOf546
 v232:=Tryz.zeroValue546
 t233:=Tryz.underlying547
 a233:=Tryz.isAgg547
 z233:=Tryz.sizeOf547
 v233:=Tryz.zeroValue547
 g17:=by kernel_rfl
 g18:=by kernel_rfl
 g19:=by kernel_rfl
 i0:=by kernel_rfl
 i2:=by kernel_rfl
 i3:=by kernel_rfl
 i4:=by kernel_rfl
 i5:=by kernel_rfl
 i9:=by kernel_rfl
 i20:=by kernel_rfl
 i37:=by kernel_rfl
 i46:=by kernel_rfl
 i51:=by kernel_rfl
 i53:=by kernel_rfl
 i171:=by kernel_rfl
 i173:=by kernel_rfl
 i212:=by kernel_rfl
 i232:=by kernel_rfl
 i233:=by kernel_rfl
 m17:=by kernel_rfl
 m18:=by kernel_rfl
 m19:=by kernel_rfl}
open Go.RowKit Go.Sort Go.Lib in
theorem Tryz.strconv_Itoa (n:Int)(h0:-9223372036854775808≤n)(h1:n≤9223372036854775807)(w:World)(htab:Lib.TabIs Tryz.prog w "internal/strconv.uint64pow10" .u64 Lib.pow10Tab):
  Calls Tryz.prog 147 #[.int .i64 n] w fun e w'=>e=.returned (.string ⟨(Lib.itoa n).toArray⟩)∧∃k os,w'=grow (w.drewN k) os:=Any.strconv_Itoa Tryz.Pv n h0 h1 w htab
def Tryz.Ed:Go.Shelf.Ren:=⟨fun | 172=>93 | 244=>178 | 245=>179 | 247=>258 | 279=>259 | 280=>260 | 281=>261 | 282=>262 | 287=>329 | 316=>330 | 171=>147 | 205=>331 | 321=>424 | 322=>425 | 243=>244 | 246=>314 | 283=>410 | 284=>411 | 285=>412 | 286=>413 | 129=>344 | 317=>458 | 318=>459 | 319=>460 | 320=>461 | 337=>483 | 338=>484 | n=>n,fun | 9=>9 | 3=>3 | 75=>174 | 76=>175 | 4=>4 | 5=>5 | 167=>327 | 37=>230 | 0=>0 | 85=>328 | 2=>2 | 168=>330 | 53=>396 | 175=>397 | 46=>77 | 210=>401 | 127=>333 | 145=>488 | 143=>486 | 21=>21 | 171=>471 | 173=>473 | 212=>518 | 51=>309 | 20=>20 | 213=>519 | 232=>546 | 233=>547 | 80=>220 | n=>n,fun | 15=>2 | 16=>3 | 17=>5 | 18=>8 | 19=>9 | n=>n⟩
theorem Tryz.BG:Go.Proofs.LaysC.n172 Tryz.prog Tryz.Ed:={
 mixed:=by kernel_rfl
 f129:=Tryz.func344.trans (congrArg some (by kernel_rfl))
 f171:=Tryz.func147.trans (congrArg some (by kernel_rfl))
 f172:=Tryz.func93.trans (congrArg some (by kernel_rfl))
 f205:=Tryz.func331.trans (congrArg some (by kernel_rfl))
 f243:=Tryz.func244.trans (congrArg some (by kernel_rfl))
 f244:=Tryz.func178.trans (congrArg some (by kernel_rfl))
 f245:=Tryz.func179.trans (congrArg some (by kernel_rfl))
 f246:=Tryz.func314.trans (congrArg some (by kernel_rfl))
 f247:=Tryz.func258.trans (congrArg some (by kernel_rfl))
 f279:=Tryz.func259.trans (congrArg some (by kernel_rfl))
 f280:=Tryz.func260.trans (congrArg some (by kernel_rfl))
 f281:=Tryz.func261.trans (congrArg some (by kernel_rfl))
 f282:=Tryz.func262.trans (congrArg some (by kernel_rfl))
 f283:=Tryz.func410.trans (congrArg some (by kernel_rfl))
 f284:=Tryz.func411.trans (congrArg some (by kernel_rfl))
 f285:=Tryz.func412.trans (congrArg some (by kernel_rfl))
 f286:=Tryz.func413.trans (congrArg some (by kernel_rfl))
 f287:=Tryz.func329.trans (congrArg some (by kernel_rfl))
 f316:=Tryz.func330.trans (congrArg some (by kernel_rfl))
 f317:=Tryz.func458.trans (congrArg some (by kernel_rfl))
 f318:=Tryz.func459.trans (congrArg some (by kernel_rfl))
 f319:=Tryz.func460.trans (congrArg some (by kernel_rfl))
 f320:=Tryz.func461.trans (congrArg some (by kernel_rfl))
 f321:=Tryz.func424.trans (congrArg some (by kernel_rfl))
 f322:=Tryz.func425.trans (congrArg some (by kernel_rfl))
 f337:=Tryz.func483.trans (congrArg some (by kernel_rfl))
 f338:=Tryz.func484.trans (congrArg some (by kernel_rfl))
 t0:=Tryz.underlying0
 a0:=Tryz.isAgg0
 z0:=Tryz.sizeOf0
 v0:=Tryz.zeroValue0
 t2:=Tryz.underlying2
 a2:=Tryz.isAgg2
 z2:=Tryz.sizeOf2
 v2:=Tryz.zeroValue2
 t3:=Tryz.underlying3
 a3:=Tryz.isAgg3
 z3:=Tryz.sizeOf3
 v3:=Tryz.zeroValue3
 t4:=Tryz.underlying4
 a4:=Tryz.isAgg4
 z4:=Tryz.sizeOf4
 v4:=Tryz.zeroValue4
 t5:=Tryz.underlying5
 a5:=Tryz.isAgg5
 z5:=Tryz.sizeOf5
 v5:=Tryz.zeroValue5
 t9:=Tryz.underlying9
 a9:=Tryz.isAgg9
 z9:=Tryz.sizeOf9
 v9:=Tryz.zeroValue9
 t20:=Tryz.underlying20
 a20:=Tryz.isAgg20
 z20:=Tryz.sizeOf20
 v20:=Tryz.zeroValue20
 t21:=Tryz.underlying21
 a21:=Tryz.isAgg21
 z21:=Tryz.sizeOf21
 v21:=Tryz.zeroValue21
 t37:=Tryz.underlying230
 a37:=Tryz.isAgg230
 z37:=Tryz.sizeOf230
 v37:=Tryz.zeroValue230
 t46:=Tryz.underlying77
 a46:=Tryz.isAgg77
 z46:=Tryz.sizeOf77
 v46:=Tryz.zeroValue77
 t51:=Tryz.underlying309
 a51:=Tryz.isAgg309
 z51:=Tryz.sizeOf309
 v51:=Tryz.zeroValue309
 t53:=Tryz.underlying396
 a53:=Tryz.isAgg396
 z53:=Tryz.sizeOf396
 v53:=Tryz.zeroValue396
 t75:=Tryz.underlying174
 a75:=Tryz.isAgg174
 z75:=Tryz.sizeOf174
 v75:=Tryz.zeroValue174
 t76:=Tryz.underlying175
 a76:=Tryz.isAgg175
 z76:=Tryz.sizeOf175
 v76:=Tryz.zeroValue175
 t85:=Tryz.underlying328
 a85:=Tryz.isAgg328
 z85:=Tryz.sizeOf328
 v85:=Tryz.zeroValue328
 t127:=Tryz.underlying333
 a127:=Tryz.isAgg333
 z127:=Tryz.sizeOf333
 v127:=Tryz.zeroValue333
 t143:=Tryz.underlying486
 a143:=Tryz.isAgg486
 z143:=Tryz.sizeOf486
 v143:=Tryz.zeroValue486
 t145:=Tryz.underlying488
 a145:=Tryz.isAgg488
 z145:=Tryz.sizeOf488
 v145:=Tryz.zeroValue488
 t167:=Tryz.underlying327
 a167:=Tryz.isAgg327
 z167:=Tryz.sizeOf327
 v167:=Tryz.zeroValue327
 t168:=Tryz.underlying330
 a168:=Tryz.isAgg330
 z168:=Tryz.sizeOf330
 v168:=Tryz.zeroValue330
 t171:=Tryz.underlying471
 a171:=Tryz.isAgg471
 z171:=Tryz.sizeOf471
 v171:=Tryz.zeroValue471
 t173:=Tryz.underlying473
 a173:=Tryz.isAgg473
 z173:=Tryz.sizeOf473
 v173:=Tryz.zeroValue473
 t175:=Tryz.underlying397
 a175:=Tryz.isAgg397
 z175:=Tryz.sizeOf397
 v175:=Tryz.zeroValue397
 t210:=Tryz.underlying401
 a210:=Tryz.isAgg401
 z210:=Tryz.sizeOf401
 v210:=Tryz.zeroValue401
 t212:=Tryz.underlying518
 a212:=Tryz.isAgg518
 z212:=Tryz.sizeOf518
 v212:=Tryz.zeroValue518
 t213:=Tryz.underlying519
 a213:=Tryz.isAgg519
 z213:=Tryz.sizeOf519
 t232:=Tryz.underlying546
 a232:=Tryz.isAgg546
 z232:=Tryz.sizeOf546
 v232:=Tryz.zeroValue546
 t233:=Tryz.underlying547
 a233:=Tryz.isAgg547
 z233:=Tryz.sizeOf547
 v233:=Tryz.zeroValue547
 g15:=by kernel_rfl
 g16:=by kernel_rfl
 g17:=by kernel_rfl
 g18:=by kernel_rfl
 g19:=by kernel_rfl
 t80:=Tryz.underlying220
 a80:=Tryz.isAgg220
 z80:=Tryz.sizeOf220
 v80:=Tryz.zeroValue220
 i0:=by kernel_rfl
 i2:=by kernel_rfl
 i3:=by kernel_rfl
 i4:=by kernel_rfl
 i5:=by kernel_rfl
 i9:=by kernel_rfl
 i20:=by kernel_rfl
 i21:=by kernel_rfl
 i37:=by kernel_rfl
 i46:=by kernel_rfl
 i51:=by kernel_rfl
 i53:=by kernel_rfl
 i75:=by kernel_rfl
 i76:=by kernel_rfl
 i80:=by kernel_rfl
 i85:=by kernel_rfl
 i127:=by kernel_rfl
 i143:=by kernel_rfl
 i145:=by kernel_rfl
 i167:=by kernel_rfl
 i168:=by kernel_rfl
 i171:=by kernel_rfl
 i173:=by kernel_rfl
 i175:=by kernel_rfl
 i210:=by kernel_rfl
 i212:=by kernel_rfl
 i232:=by kernel_rfl
 i233:=by kernel_rfl
 m15:=by kernel_rfl
 m16:=by kernel_rfl
 m17:=by kernel_rfl
 m18:=by kernel_rfl
 m19:=by kernel_rfl
 c0:=by kernel_rfl
 c2:=by kernel_rfl
 c3:=by kernel_rfl
 c4:=by kernel_rfl
 c5:=by kernel_rfl
 c9:=by kernel_rfl
 c20:=by kernel_rfl
 c21:=by kernel_rfl
 c37:=by kernel_rfl
 c46:=by kernel_rfl
 c51:=by kernel_rfl
 c53:=by kernel_rfl
 c75:=by kernel_rfl
 c76:=by kernel_rfl
 c80:=by kernel_rfl
 c85:=by kernel_rfl
 c127:=by kernel_rfl
 c143:=by kernel_rfl
 c145:=by kernel_rfl
 c167:=by kernel_rfl
 c168:=by kernel_rfl
 c171:=by kernel_rfl
 c173:=by kernel_rfl
 c175:=by kernel_rfl
 c210:=by kernel_rfl
 c212:=by kernel_rfl
 c213:=by kernel_rfl
 c232:=by kernel_rfl
 c233:=by kernel_rfl}
def Tryz.FX:Go.Shelf.Ren:=⟨fun | 157=>83 | 229=>164 | 199=>165 | 261=>245 | 311=>315 | 312=>316 | n=>n,fun | 9=>9 | 31=>46 | 3=>3 | 5=>5 | 4=>4 | 119=>217 | 0=>0 | 40=>219 | 152=>306 | 21=>21 | 154=>308 | 51=>309 | 141=>311 | 196=>383 | 193=>380 | 198=>386 | 49=>384 | 194=>381 | 201=>389 | 226=>475 | 46=>77 | 227=>476 | n=>n,fun | 0=>0 | 6=>1 | n=>n⟩
theorem Tryz.XY:Go.Proofs.Lays.n157 Tryz.prog Tryz.FX:={
 mixed:=by kernel_rfl
 f157:=Tryz.func83.trans (congrArg some (by kernel_rfl))
 f199:=Tryz.func165.trans (congrArg some (by kernel_rfl))
 f229:=Tryz.func164.trans (congrArg some (by kernel_rfl))
 f261:=Tryz.func245.trans (congrArg some (by kernel_rfl))
 f311:=Tryz.func315.trans (congrArg some (by kernel_rfl))
 f312:=Tryz.func316.trans (congrArg some (by kernel_rfl))
 t0:=Tryz.underlying0
 a0:=Tryz.isAgg0
 z0:=Tryz.sizeOf0
 v0:=Tryz.zeroValue0
 t3:=Tryz.underlying3
 a3:=Tryz.isAgg3
 z3:=Tryz.sizeOf3
 v3:=Tryz.zeroValue3
 t4:=Tryz.underlying4
 a4:=Tryz.isAgg4
 z4:=Tryz.sizeOf4
 v4:=Tryz.zeroValue4
 t5:=Tryz.underlying5
 a5:=Tryz.isAgg5
 z5:=Tryz.sizeOf5
 v5:=Tryz.zeroValue5
 t9:=Tryz.underlying9
 a9:=Tryz.isAgg9
 z9:=Tryz.sizeOf9
 v9:=Tryz.zeroValue9
 t21:=Tryz.underlying21
 a21:=Tryz.isAgg21
 z21:=Tryz.sizeOf21
 v21:=Tryz.zeroValue21
 t31:=Tryz.underlying46
 a31:=Tryz.isAgg46
 z31:=Tryz.sizeOf46
 v31:=Tryz.zeroValue46
 t40:=Tryz.underlying219
 a40:=Tryz.isAgg219
 z40:=Tryz.sizeOf219
 v40:=Tryz.zeroValue219
 t46:=Tryz.underlying77
 a46:=Tryz.isAgg77
 z46:=Tryz.sizeOf77
 v46:=Tryz.zeroValue77
 t49:=Tryz.underlying384
 a49:=Tryz.isAgg384
 z49:=Tryz.sizeOf384
 v49:=Tryz.zeroValue384
 t51:=Tryz.underlying309
 a51:=Tryz.isAgg309
 z51:=Tryz.sizeOf309
 v51:=Tryz.zeroValue309
 t119:=Tryz.underlying217
 a119:=Tryz.isAgg217
 z119:=Tryz.sizeOf217
 t141:=Tryz.underlying311
 a141:=Tryz.isAgg311
 z141:=Tryz.sizeOf311
 v141:=Tryz.zeroValue311
 t152:=Tryz.underlying306
 a152:=Tryz.isAgg306
 z152:=Tryz.sizeOf306
 v152:=Tryz.zeroValue306
 t154:=Tryz.underlying308
 a154:=Tryz.isAgg308
 z154:=Tryz.sizeOf308
 v154:=Tryz.zeroValue308
 t193:=Tryz.underlying380
 a193:=Tryz.isAgg380
 z193:=Tryz.sizeOf380
 v193:=Tryz.zeroValue380
 t194:=Tryz.underlying381
 a194:=Tryz.isAgg381
 z194:=Tryz.sizeOf381
 v194:=Tryz.zeroValue381
 t196:=Tryz.underlying383
 a196:=Tryz.isAgg383
 z196:=Tryz.sizeOf383
 v196:=Tryz.zeroValue383
 t198:=Tryz.underlying386
 a198:=Tryz.isAgg386
 z198:=Tryz.sizeOf386
 v198:=Tryz.zeroValue386
 t201:=Tryz.underlying389
 a201:=Tryz.isAgg389
 z201:=Tryz.sizeOf389
 v201:=Tryz.zeroValue389
 t226:=Tryz.underlying475
 a226:=Tryz.isAgg475
 z226:=Tryz.sizeOf475
 v226:=Tryz.zeroValue475
 t227:=Tryz.underlying476
 a227:=Tryz.isAgg476
 z227:=Tryz.sizeOf476
 v227:=Tryz.zeroValue476
 g0:=by kernel_rfl
 g6:=by kernel_rfl}
def Tryz.xG:Go.Shelf.Ren:=⟨fun | 199=>165 | 261=>245 | 311=>315 | 312=>316 | n=>n,fun | 21=>21 | 4=>4 | 51=>309 | 141=>311 | 0=>0 | 196=>383 | 193=>380 | 3=>3 | 198=>386 | 49=>384 | 194=>381 | 201=>389 | 226=>475 | 46=>77 | 227=>476 | n=>n,fun | 6=>1 | n=>n⟩
theorem Tryz.XZ:Go.Proofs.Lays.n199 Tryz.prog Tryz.xG:={
 mixed:=by kernel_rfl
 f199:=Tryz.func165.trans (congrArg some (by kernel_rfl))
 f261:=Tryz.func245.trans (congrArg some (by kernel_rfl))
 f311:=Tryz.func315.trans (congrArg some (by kernel_rfl))
 f312:=Tryz.func316.trans (congrArg some (by kernel_rfl))
 t0:=Tryz.underlying0
 a0:=Tryz.isAgg0
 z0:=Tryz.sizeOf0
 v0:=Tryz.zeroValue0
 t3:=Tryz.underlying3
 a3:=Tryz.isAgg3
 z3:=Tryz.sizeOf3
 v3:=Tryz.zeroValue3
 t4:=Tryz.underlying4
 a4:=Tryz.isAgg4
 z4:=Tryz.sizeOf4
 v4:=Tryz.zeroValue4
 t21:=Tryz.underlying21
 a21:=Tryz.isAgg21
 z21:=Tryz.sizeOf21
 v21:=Tryz.zeroValue21
 t46:=Tryz.underlying77
 a46:=Tryz.isAgg77
 z46:=Tryz.sizeOf77
 v46:=Tryz.zeroValue77
 t49:=Tryz.underlying384
 a49:=Tryz.isAgg384
 z49:=Tryz.sizeOf384
 v49:=Tryz.zeroValue384
 t51:=Tryz.underlying309
 a51:=Tryz.isAgg309
 z51:=Tryz.sizeOf309
 v51:=Tryz.zeroValue309
 t141:=Tryz.underlying311
 a141:=Tryz.isAgg311
 z141:=Tryz.sizeOf311
 v141:=Tryz.zeroValue311
 t193:=Tryz.underlying380
 a193:=Tryz.isAgg380
 z193:=Tryz.sizeOf380
 v193:=Tryz.zeroValue380
 t194:=Tryz.underlying381
 a194:=Tryz.isAgg381
 z194:=Tryz.sizeOf381
 v194:=Tryz.zeroValue381
 t196:=Tryz.underlying383
 a196:=Tryz.isAgg383
 z196:=Tryz.sizeOf383
 v196:=Tryz.zeroValue383
 t198:=Tryz.underlying386
 a198:=Tryz.isAgg386
 z198:=Tryz.sizeOf386
 v198:=Tryz.zeroValue386
 t201:=Tryz.underlying389
 a201:=Tryz.isAgg389
 z201:=Tryz.sizeOf389
 v201:=Tryz.zeroValue389
 t226:=Tryz.underlying475
 a226:=Tryz.isAgg475
 z226:=Tryz.sizeOf475
 v226:=Tryz.zeroValue475
 t227:=Tryz.underlying476
 a227:=Tryz.isAgg476
 z227:=Tryz.sizeOf476
 v227:=Tryz.zeroValue476
 g6:=by kernel_rfl}
open Go.RowKit Go.Lib in
theorem Tryz.strings_Fields_any (s:ByteArray)(w:World)(hs:s.size<4294967281)(htab:Lib.TabIs Tryz.prog w "strings.asciiSpace" .u8 Lib.asciiSpaceTab)(hW:Lib.WhiteTab 1 w):
  Calls Tryz.prog 83 #[.string s] w fun e w'=>∃A,e=.returned (.slice (some ⟨A,0,none⟩) (Lib.fieldsD s.data.toList).length (Lib.fieldsD s.data.toList).length)∧w.heap.size≤A∧
   w'.ownsRow w.heap.size 9 1 (.slice (some ⟨A,0,none⟩) (Lib.fieldsD s.data.toList).length (Lib.fieldsD s.data.toList).length) (Lib.fieldsD s.data.toList).length ((Lib.fieldsD s.data.toList).map fun x=>Value.string ⟨x.toArray⟩)∧Below w.heap.size w w':=Any.strings_Fields_any Tryz.XY (by kernel_rfl) (by kernel_rfl) (by kernel_rfl) s w hs htab hW
end Go.Proofs
namespace Go.Proofs.YtfnlnpllpfhhnaaGreatDoor.TT
open Go Go.AM Go.RowKit
set_option linter.unusedSimpArgs false
set_option linter.unusedVariables false
set_option maxRecDepth 100000
section
variable {P:Program}{G:Mem}{ι:Inj}{m:Mem}{w:World}
theorem ae0 {n:String}{g:Nat}{cs:Array Value}{e:TypeId}{fz:Nat×Nat}(hn:P.globalNamed n=some g)(h:w.heap[g]?=some (.cells cs e fz)):w.var? P n=some cs:=by
 unfold World.var?;rw [hn];simp [h]
theorem Ya (hm:RM P G ι m w.heap){i:Nat}{k:IntKind}{ns:List Int}(hi:i<P.globals.size)(hG:G.get i=some (.cells ns.length 1 (T.ofList [ns.map (j5.int k)]))):
  ∃e fz,w.heap[i]?=some (.cells (ns.map (Value.int k)).toArray e fz):=by
 obtain⟨c,e,fz,hc,h1,_,hr⟩:=hm.blk i _ ((hm.base i (avu hi hm.gle)).trans hG)
 obtain⟨g1,g2,g3⟩:=hm.glob i hi
 obtain⟨c',e',fz',hc',hs⟩:=hm.gsz i _ _ _ hi hG
 rw [g1,hc'] at hc
 cases hc
 obtain⟨row,q1,q2,q3,q4⟩:=hr 0 (by omega)
 have hrow:row=ns.map (j5.int k):=by
  rw [T.aS] at q1;simpa using q1.symm
 subst hrow
 suffices h:c=(ns.map (Value.int k)).toArray by rw [h] at hc';exact⟨_,_,hc'⟩
 apply awK
 intro j
 by_cases hj:j<ns.length
 ·have:=q4 j hj
  rw [g2,awF,avS,avS] at this
  rw [this]
  simp [hj,H6]
 ·rw [awZ (by omega),awZ (by simp;omega)]
theorem Rx (hm:RM P G ι m w.heap){i:Nat}{n:String}{k:IntKind}{ns:List Int}(hn:P.globalNamed n=some i)(hi:i<P.globals.size)(hG:G.get i=some (.cells ns.length 1 (T.ofList [ns.map (j5.int k)]))):Lib.TabIs P w n k ns:=by
 obtain⟨e,fz,h⟩:=Ya hm hi hG
 exact ae0 hn h
theorem cell_of (hm:RM P G ι m w.heap){i rs:Nat}{r:List j5}(hg:m.get i=some (.cells rs 1 (T.ofList [r]))){j:Nat}{v:j5}(hj:j<rs)(hv:r[j]?=some v):w.cell? ⟨(ι i).b,(ι i).base+j,none⟩=some (H6 ι v):=by
 obtain⟨c,e,fz,hc,h1,_,hr⟩:=hm.blk i _ hg
 obtain⟨row,q1,q2,q3,q4⟩:=hr 0 (by omega)
 have hrow:row=r:=by
  rw [T.aS] at q1;simpa using q1.symm
 subst hrow
 have:=q4 j hj
 rw [awF,avS] at this
 simp [World.cell?,hc,this,hv]
theorem uT {v:j5}(n:Nat)(h1:BL n [v]=[])(h2:∀r,uh r [v]=some [v])(m:Mem):Cc n ⟨v,m⟩=some ⟨v,[]⟩:=by
 show ob (gT n [v] m) _=_
 rw [oC m h1 h2];rfl
end
section
variable {ι:Inj}{w:World}
theorem BH:Tryz.prog.globals.size=11:=by kernel_rfl
theorem gn0:Tryz.prog.globalNamed "strings.asciiSpace"=some 0:=by kernel_rfl
theorem gn1:Tryz.prog.globalNamed "unicode.White_Space"=some 1:=by kernel_rfl
theorem gn5:Tryz.prog.globalNamed "internal/strconv.uint64pow10"=some 5:=by kernel_rfl
theorem avi (hm:RM Tryz.prog base ι (P7 base []) w.heap):Lib.TabIs Tryz.prog w "strings.asciiSpace" .u8 Lib.asciiSpaceTab:=by
 have h:=Rx (ns:=nsA) (k:=.u8) hm gn0 (by rw [BH];omega) rfl
 rw [show Lib.asciiSpaceTab=nsA by decide +kernel];exact h
theorem avj (hm:RM Tryz.prog base ι (P7 base []) w.heap):Lib.TabIs Tryz.prog w "internal/strconv.uint64pow10" .u64 Lib.pow10Tab:=by
 have h:=Rx (ns:=nsP) (k:=.u64) hm gn5 (by rw [BH];omega) rfl
 rw [show Lib.pow10Tab=nsP by decide +kernel];exact h
theorem white (hm:RM Tryz.prog base ι (P7 base []) w.heap):Lib.WhiteTab 1 w:=by
 have g1:(P7 base []).get 1=some (.cells 1 1 (T.ofList [[j5.ptr 11 0]])):=rfl
 have g11:(P7 base []).get 11=some (.cells 3 1 (T.ofList [[.slice 12 0 7 7,.nilSlice,.int .i64 2]])):=rfl
 have g12:(P7 base []).get 12=some (.cells 21 1 (T.ofList [nsW.map (j5.int .u16)])):=rfl
 have s11:=hm.spot 11 _ g11 rfl
 have s12:=hm.spot 12 _ g12 rfl
 obtain⟨b1,o1,_⟩:=hm.glob 1 (by rw [BH];omega)
 refine⟨(ι 11).b,(ι 11).base,(ι 12).b,(ι 12).base,?_,?_,?_,?_,fun i hi=>?_⟩
 ·have:=cell_of hm g1 (j:=0) (by omega) rfl
  rw [b1,o1] at this
  simpa [H6,Inj.at,s11] using this
 ·have:=cell_of hm g11 (j:=0) (by omega) rfl
  simpa [H6,Inj.at,s12] using this
 ·have:=cell_of hm g11 (j:=1) (by omega) rfl
  simpa [H6] using this
 ·have:=cell_of hm g11 (j:=2) (by omega) rfl
  simpa [H6] using this
 ·have h:∀i,i<21→nsW[i]?=some ((Lib.whiteT.getD i 0:Nat):Int):=by decide
  have:=cell_of hm g12 (j:=i) (v:=.int .u16 ((Lib.whiteT.getD i 0:Nat):Int)) hi (by rw [awe,h i hi];rfl)
  simpa [H6] using this
theorem avk (hm:RM Tryz.prog base ι (P7 base []) w.heap):∃ev,w.cell? ⟨2,0,none⟩=some ev∧(ev=.nilIface∨∃te pe,ev=.iface te pe):=by
 have g2:(P7 base []).get 2=some (.cells 1 1 (T.ofList [[j5.iface 486 (.ptr 13 0)]])):=rfl
 obtain⟨b1,o1,_⟩:=hm.glob 2 (by rw [BH];omega)
 have:=cell_of hm g2 (j:=0) (by omega) rfl
 rw [b1,o1] at this
 exact⟨H6 ι (.iface 486 (.ptr 13 0)),by simpa using this,.inr ⟨_,_,rfl⟩⟩
theorem avl (hm:RM Tryz.prog base ι (P7 base []) w.heap):∃ev,w.cell? ⟨3,0,none⟩=some ev∧(ev=.nilIface∨∃te pe,ev=.iface te pe):=by
 have g3:(P7 base []).get 3=some (.cells 1 1 (T.ofList [[j5.iface 486 (.ptr 14 0)]])):=rfl
 obtain⟨b1,o1,_⟩:=hm.glob 3 (by rw [BH];omega)
 have:=cell_of hm g3 (j:=0) (by omega) rfl
 rw [b1,o1] at this
 exact⟨H6 ι (.iface 486 (.ptr 14 0)),by simpa using this,.inr ⟨_,_,rfl⟩⟩
end
theorem Pw (n:Int)(h0:-9223372036854775808≤n)(h1:n≤9223372036854775807):oM Tryz.prog base 147 [.int .i64 n] [] ⟨.str (Lib.itoa n),[]⟩:=
 Dx (uT _ rfl (fun _=>rfl) _) (fun _=>trivial) (fun _ _=>by simp [H6]) fun ι w hm=>by
  refine axU (Tryz.strconv_Itoa n h0 h1 w (avj hm)) ?_
  rintro e w' ⟨rfl,k,os,rfl⟩
  exact⟨by simp [H6],Lib.below_grow _ w (D5 _) k os⟩
theorem Px (s:List UInt8)(hs:s.length<1000000):oM Tryz.prog base 93 [.str s] [] (Bp s):=by
 unfold Bp
 cases h:Lib.atoiAll s with
 | ok v=>
  refine Dx (uT _ rfl (fun _=>rfl) _) (fun _=>⟨trivial,trivial,trivial⟩) (fun _ _=>by simp [H6,H8]) fun ι w hm=>?_
  refine axU (Any.strconv_Atoi_ok Tryz.BG ⟨s.toArray⟩ (by simp [ByteArray.size];omega) v (by simpa using h) w) ?_
  rintro e w' ⟨rfl,hw⟩
  refine⟨by simp [H6,H8],?_⟩
  rcases hw with rfl | ⟨t,rfl⟩
  ·exact Below.refl _ _
  ·exact Lib.bytesWorld_below _ _ _
 | range=>
  refine Fx (nb:=.dead) (GK lY.ok _ 330) fun ι w hm=>?_
  obtain⟨ev,hv,hev⟩:=avl hm
  refine axU (Any.strconv_Atoi_range Tryz.BG ⟨s.toArray⟩ (by simp [ByteArray.size];omega) (by simpa using h) ev w hv hev) ?_
  rintro e w' ⟨N,rfl,hN,hc,hb⟩
  refine⟨⟨N,0,0,none⟩,?_,hb,hN,?_,trivial,fun h=>by cases h⟩
  ·simp [H6,H8,Inj.at];rfl
  ·refine⟨trivial,⟨.dead,?_,rfl⟩,trivial⟩
   rw [Mem.T9 (m:=P7 base []) lY.ok];exact if_pos rfl
 | _=>
  refine Fx (nb:=.dead) (GK lY.ok 0 330) fun ι w hm=>?_
  obtain⟨ev,hv,hev⟩:=avk hm
  refine axU (Any.strconv_Atoi_syntax Tryz.BG ⟨s.toArray⟩ (by simp [ByteArray.size];omega) (by simpa using h) ev w hv hev) ?_
  rintro e w' ⟨N,rfl,hN,hc,hb⟩
  refine⟨⟨N,0,0,none⟩,?_,hb,hN,?_,trivial,fun h=>by cases h⟩
  ·simp [H6,H8,Inj.at];rfl
  ·refine⟨trivial,⟨.dead,?_,rfl⟩,trivial⟩
   rw [Mem.T9 (m:=P7 base []) lY.ok];exact if_pos rfl
theorem Jm (s:List UInt8)(hs:s.length<1000000):oM Tryz.prog base 83 [.str s] [] (Fz s):=by
 refine Fx (nb:=.cells 1 ((Lib.fieldsD s).map fun w=>[j5.str w])) (Ow lY.ok _ _ _) fun ι w hm=>?_
 refine axU (Tryz.strings_Fields_any ⟨s.toArray⟩ w (by simp [ByteArray.size];omega) (avi hm) (white hm)) ?_
 rintro e w' ⟨A,rfl,hA,⟨hl,ho⟩,hb⟩
 rcases ho with⟨ho,_⟩ | ⟨g,cap,cur,hv,hg,hh,h1,h2,h3,h4⟩
 ·simp at ho
 ·simp only [Value.slice.injEq,U0,Addr.mk.injEq] at hv
  obtain⟨⟨rfl,_,_⟩,_,rfl⟩:=hv
  rw [awt] at h3 h4
  generalize Lib.fieldsD s=ws at *
  have hlen:ws.length=cur.size:=h3.symm
  refine⟨⟨A,0,ws.length,none⟩,?_,hb,hA,⟨eD (.cells 1 (ws.map fun w=>[j5.str w])),?_,rfl⟩,?_,fun _=>⟨fun c e fz hc k hk=>?_,rfl⟩⟩
  ·simp [H6,Inj.at]
  ·rw [Mem.T9 (m:=P7 base []) lY.ok];exact if_pos rfl
  ·refine⟨cur,_,_,hh,by simp;omega,⟨by simp,ws.length,by simp,?_⟩,fun i hi=>?_⟩
   ·have:=T.iJ (ws.map fun w=>[j5.str w]);simpa using this
   ·have hi:i<ws.length:=by simpa using hi
    refine⟨[.str ws[i]],by rw [T.aS];simp [hi],rfl,⟨trivial,trivial⟩,fun j hj=>?_⟩
    obtain rfl:j=0:=by omega
    have:=congrArg (·[i]?) h4
    simp only [awe,awJ] at this
    rw [if_pos hi] at this
    simpa [hi,H6] using this
  ·rw [hh] at hc;cases hc
   simp
theorem Yb {f:FuncId}{args:List j5}{bs:List NB}{a:Ans}(h:akl f args bs=some a):oM Tryz.prog base f args bs a:=by
 unfold akl at h
 split at h
 ·split at h
  ·split at h
   ·rename_i hc
    obtain⟨rfl,h0,h1⟩:=hc
    cases h
    exact Pw _ h0 h1
   ·cases h
  ·split at h
   ·rename_i hs
    split at h
    ·rename_i hf;subst hf;cases h;exact Px _ hs
    ·split at h
     ·rename_i hf;subst hf;cases h;exact Jm _ hs
     ·cases h
   ·cases h
  ·cases h
 ·cases h
theorem Nc {P:Program}{f:FuncId}{sf:SFn}(h:xJ P f sf)(b:Bool):xJ P f {sf with pure:=b}:=
 ⟨h.ok,h.is⟩
theorem Yc:∀f args bs a,KW.sum f args bs=some a→oM Tryz.prog base f args bs a:=by
 intro f args bs a h
 have h:OD f args bs=some a:=h
 unfold OD at h
 split at h
 ·have hl:∀s∈[qS],oM Tryz.prog base s.f s.args s.bs s.a:=fun s hs=>by
   rcases W9.1 hs with rfl
   exact qoS
  exact tq [qS] hl _ _ _ _ h
 ·exact Yb h
theorem aqB:KOk Tryz.prog KW:=by
 refine⟨mixed,fun f sf h=>?_,⟨gbs,lY⟩,Yc⟩
 have h:(fns f).map (fun sf=>{sf with pure:=OC f})=some sf:=h
 cases hf:fns f with
 | none=>rw [hf] at h;cases h
 | some s0=>
  rw [hf] at h
  cases h
  exact Nc (QV f s0 hf) _
end Go.Proofs.YtfnlnpllpfhhnaaGreatDoor.TT
namespace Go.AM
open Go
def stT (P:Program)(t:TypeId):Option (List TypeId):=match P.underlying t with
 | some (.struct fs)=>some (fs.toList.map (·.type))
 | _=>none
def slT (P:Program)(t:TypeId):Option TypeId:=match P.underlying t with
 | some (.slice e)=>some e
 | _=>none
def inT (P:Program)(t:TypeId):Option IntKind:=match P.underlying t with
 | some (.int k)=>some k
 | _=>none
def Py (S:TypeId→List j5→Prop):List TypeId→List j5→Prop
 | [],vs=>vs=[]
 | t::ts,vs=>∃a b,vs=a++b∧S t a∧Py S ts b
theorem Ht {S:TypeId→List j5→Prop}:∀fs vs,IQ S fs vs→Py S (fs.map (·.type)) vs
 | [],_,h=>h
 | _::fs,_,⟨a,b,h1,h2,h3⟩=>⟨a,b,h1,h2,Ht fs b h3⟩
theorem Ac {P:Program}{m:Mem}{n:Nat}{t:TypeId}{ts:List TypeId}{vs:List j5}(h:stT P t=some ts)(hs:shp P m (n+1) t vs):Py (shp P m n) ts vs:=by
 unfold shp at hs
 unfold stT at h
 split at h
 ·rename_i fs hu
  rw [hu] at hs
  cases h
  exact Ht _ _ hs
 ·cases h
theorem FY {P:Program}{m:Mem}{n:Nat}{t:TypeId}{k:IntKind}{vs:List j5}(h:inT P t=some k)(hs:shp P m (n+1) t vs):∃i,vs=[.int k i]∧(Lit.int k i).wf=true:=by
 unfold shp at hs
 unfold inT at h
 split at h
 ·rename_i k' hu
  rw [hu] at hs
  cases h
  exact hs
 ·cases h
theorem Ng {P:Program}{m:Mem}{n:Nat}{t e:TypeId}{vs:List j5}(h:slT P t=some e)(hs:shp P m (n+1) t vs):vs=[.nilSlice]∨∃id len cap,vs=[.slice id 0 len cap]∧len≤cap∧cap≤maxLen∧
        ((cap=0∧m.get id=some .dead)∨∃rows,0<cap∧m.get id=some (.cells (P.cellsOf e) cap rows)∧∀i,i<cap→∃row,rows.get i=some row∧row.length=P.cellsOf e∧shp P m n e row):=by
 unfold shp at hs
 unfold slT at h
 split at h
 ·rename_i e' hu
  rw [hu] at hs
  cases h
  exact hs
 ·cases h
def aqC (P:Program)(t:TypeId):Bool:=match P.underlying t with
 | some .string=>true
 | _=>false
theorem Yd {P:Program}{m:Mem}{n:Nat}{t:TypeId}{vs:List j5}(h:aqC P t=true)(hs:shp P m (n+1) t vs):∃s:List UInt8,vs=[.str s]:=by
 unfold shp at hs
 unfold aqC at h
 split at h
 ·rename_i hu
  rw [hu] at hs
  obtain⟨s,h1,_⟩:=hs
  exact⟨s,h1⟩
 ·cases h
end Go.AM
namespace Go.Proofs.YtfnlnpllpfhhnaaGreatDoor.TT
open Go Go.AM
theorem t3:inT Tryz.prog 3=some .i64:=by kernel_rfl
theorem t32:slT Tryz.prog 32=some 3:=by kernel_rfl
theorem c3:Tryz.prog.cellsOf 3=1:=by kernel_rfl
theorem t40:stT Tryz.prog 40=some [3,3,3,3,23,27,29,31,34,36,38]:=by kernel_rfl
theorem t23:stT Tryz.prog 23=some [3,3]:=by kernel_rfl
theorem t25:stT Tryz.prog 25=some [3,3]:=by kernel_rfl
theorem t27:stT Tryz.prog 27=some [3,3,3,23,25,3]:=by kernel_rfl
theorem t29:stT Tryz.prog 29=some [3,3]:=by kernel_rfl
theorem t31:stT Tryz.prog 31=some [3,23,3]:=by kernel_rfl
theorem t34:stT Tryz.prog 34=some [3,3,32,32,3,3,23]:=by kernel_rfl
theorem t36:stT Tryz.prog 36=some [3,32]:=by kernel_rfl
theorem t38:stT Tryz.prog 38=some [3,3]:=by kernel_rfl
theorem t9:aqC Tryz.prog 9=true:=by kernel_rfl
set_option maxRecDepth 100000
set_option maxHeartbeats 2000000
theorem Ry {m:Mem}(hm:m.Ok){i:Nat}{b:Blk}(h:m.get i=some b):i<m.next:=Mem.M8 hm h
abbrev Rz (m:Mem)(n:Nat):=Py (shp Tryz.prog m n)
theorem ae1 {i:Int}(h:(Lit.int .i64 i).wf=true):aR i:=by
 simp only [Lit.wf,avv,decide_eq_true_eq] at h
 have h1:IntKind.min .i64=-9223372036854775808:=by decide +kernel
 have h2:IntKind.max .i64=9223372036854775807:=by decide +kernel
 rw [h1,h2] at h
 exact⟨h.1,by omega⟩
theorem bn {m:Mem}{n:Nat}{ts:List TypeId}{vs:List j5}(h:Rz m (n+1) (3::ts) vs):∃i w,vs=.int .i64 i::w∧aR i∧Rz m (n+1) ts w:=by
 obtain⟨a,b,rfl,ha,hb⟩:=h
 obtain⟨i,rfl,hi⟩:=FY t3 ha
 exact⟨i,b,rfl,ae1 hi,hb⟩
theorem xH {m:Mem}{n:Nat}{t:TypeId}{us ts:List TypeId}{vs:List j5}(ht:stT Tryz.prog t=some us)(h:Rz m (n+1) (t::ts) vs):∃a w,vs=a++w∧Rz m n us a∧Rz m (n+1) ts w:=by
 obtain⟨a,b,rfl,ha,hb⟩:=h
 exact⟨a,b,rfl,Ac ht ha,hb⟩
theorem aqD {m:Mem}(hm:m.Ok){n:Nat}{vs:List j5}(h:shp Tryz.prog m (n+2) 32 vs):∃v xs,vs=[v]∧bW m v xs:=by
 rcases Ng t32 h with rfl | ⟨id,len,cap,rfl,hlc,_,hr⟩
 ·exact⟨_,[],rfl,.inl ⟨rfl,rfl⟩⟩
 ·rcases hr with⟨rfl,hd⟩ | ⟨rows,hc,hb,hrow⟩
  ·obtain rfl:len=0:=by omega
   exact⟨_,[],rfl,.inr ⟨(id,0),.inl ⟨_,rfl⟩,Ry hm hd,.inl rfl⟩⟩
  ·let g:Nat→Int:=fun i=>match rows.get i with
    | some [.int _ x]=>x
    | _=>0
   refine⟨_,(List.range len).map g,rfl,.inr ⟨(id,0),.inl ⟨cap,by simp⟩,Ry hm hb,.inr ⟨cap,rows,by rw [hb,c3],by simpa using hlc,fun i hi=>?_⟩⟩⟩
   rw [avS]
   have hi':i<len:=by simpa using hi
   obtain⟨row,h1,_,h2⟩:=hrow i (by omega)
   obtain⟨x,rfl,_⟩:=FY t3 h2
   rw [h1]
   simp only [List.getElem_map,List.getElem_range]
   show some [j5.int .i64 x]=some [.int .i64 (g i)]
   simp only [g,h1]
theorem Ye {m:Mem}(hm:m.Ok){n:Nat}{ts:List TypeId}{vs:List j5}(h:Rz m (n+2) (32::ts) vs):∃v xs w,vs=v::w∧bW m v xs∧Rz m (n+2) ts w:=by
 obtain⟨a,b,rfl,ha,hb⟩:=h
 obtain⟨v,xs,rfl,hv⟩:=aqD hm ha
 exact⟨v,xs,b,rfl,hv,hb⟩
theorem Yf {m:Mem}(hm:m.Ok){n:Nat}{vs:List j5}(h0:shp Tryz.prog m (n+6) 40 vs):∃r:FR,vs=r.f.cells∧eu m r:=by
 have h:Rz m (n+5) [3,3,3,3,23,27,29,31,34,36,38] vs:=Ac t40 h0
 obtain⟨room,wq0,rfl,broom,q0⟩:=bn h
 obtain⟨no,wq1,rfl,bno,q1⟩:=bn q0
 obtain⟨known,wq2,rfl,bknown,q2⟩:=bn q1
 obtain⟨kind,wq3,rfl,bkind,q3⟩:=bn q2
 obtain⟨aq4,wq4,rfl,rq4,q4⟩:=xH t23 q3
 obtain⟨flo,wq5,rfl,bflo,q5⟩:=bn rq4
 obtain⟨fhi,wq6,rfl,bfhi,q6⟩:=bn q5
 obtain rfl:=q6
 obtain⟨aq8,wq8,rfl,rq8,q8⟩:=xH t27 q4
 obtain⟨gid,wq9,rfl,bgid,q9⟩:=bn rq8
 obtain⟨made,wq10,rfl,bmade,q10⟩:=bn q9
 obtain⟨nom,wq11,rfl,bnom,q11⟩:=bn q10
 obtain⟨aq12,wq12,rfl,rq12,q12⟩:=xH t23 q11
 obtain⟨tlo,wq13,rfl,btlo,q13⟩:=bn rq12
 obtain⟨thi,wq14,rfl,bthi,q14⟩:=bn q13
 obtain rfl:=q14
 obtain⟨aq16,wq16,rfl,rq16,q16⟩:=xH t25 q12
 obtain⟨gn,wq17,rfl,bgn,q17⟩:=bn rq16
 obtain⟨gd,wq18,rfl,bgd,q18⟩:=bn q17
 obtain rfl:=q18
 obtain⟨wear,wq20,rfl,bwear,q20⟩:=bn q16
 obtain rfl:=q20
 obtain⟨aq22,wq22,rfl,rq22,q22⟩:=xH t29 q8
 obtain⟨ug,wq23,rfl,bug,q23⟩:=bn rq22
 obtain⟨ud,wq24,rfl,bud,q24⟩:=bn q23
 obtain rfl:=q24
 obtain⟨aq26,wq26,rfl,rq26,q26⟩:=xH t31 q22
 obtain⟨lg,wq27,rfl,blg,q27⟩:=bn rq26
 obtain⟨aq28,wq28,rfl,rq28,q28⟩:=xH t23 q27
 obtain⟨ll,wq29,rfl,bll,q29⟩:=bn rq28
 obtain⟨lh,wq30,rfl,blh,q30⟩:=bn q29
 obtain rfl:=q30
 obtain⟨lw,wq32,rfl,blw,q32⟩:=bn q28
 obtain rfl:=q32
 obtain⟨aq34,wq34,rfl,rq34,q34⟩:=xH t34 q26
 obtain⟨cid,wq35,rfl,bcid,q35⟩:=bn rq34
 obtain⟨cday,wq36,rfl,bcday,q36⟩:=bn q35
 obtain⟨A,xa,wq37,rfl,sA,q37⟩:=Ye hm q36
 obtain⟨B,xb,wq38,rfl,sB,q38⟩:=Ye hm q37
 obtain⟨diff,wq39,rfl,bdiff,q39⟩:=bn q38
 obtain⟨err,wq40,rfl,berr,q40⟩:=bn q39
 obtain⟨aq41,wq41,rfl,rq41,q41⟩:=xH t23 q40
 obtain⟨hlo,wq42,rfl,bhlo,q42⟩:=bn rq41
 obtain⟨hhi,wq43,rfl,bhhi,q43⟩:=bn q42
 obtain rfl:=q43
 obtain rfl:=q41
 obtain⟨aq46,wq46,rfl,rq46,q46⟩:=xH t36 q34
 obtain⟨mday,wq47,rfl,bmday,q47⟩:=bn rq46
 obtain⟨L,xl,wq48,rfl,sL,q48⟩:=Ye hm q47
 obtain rfl:=q48
 obtain⟨aq50,wq50,rfl,rq50,q50⟩:=xH t38 q46
 obtain⟨tr,wq51,rfl,btr,q51⟩:=bn rq50
 obtain⟨tn,wq52,rfl,btn,q52⟩:=bn q51
 obtain rfl:=q52
 obtain rfl:=q50
 exact⟨⟨{room:=room,no:=no,known:=known,kind:=kind,flo:=flo,fhi:=fhi,gid:=gid,made:=made,nom:=nom,tlo:=tlo,thi:=thi,gn:=gn,gd:=gd,wear:=wear,ug:=ug,ud:=ud,lg:=lg,ll:=ll,lh:=lh,lw:=lw,cid:=cid,cday:=cday,A:=A,B:=B,diff:=diff,err:=err,hlo:=hlo,hhi:=hhi,mday:=mday,L:=L,tr:=tr,tn:=tn},xa,xb,xl⟩,rfl,⟨sA,sB,sL,bgn,bgd,bno⟩⟩
open Go Go.AM Go.RowKit
theorem Ad {w:World}{b o:Nat}{v:Value}(h:w.cell? ⟨b,o,none⟩=some v):∃c e fz,w.heap[b]?=some (Obj.cells c e fz)∧c[o]?=some v:=by
 unfold World.cell? at h
 split at h
 ·rename_i c e fz hh
  exact⟨c,e,fz,hh,by simpa using h⟩
 ·cases h
theorem bA {P:Program}{ι:Inj}{n:Nm}{w:World}{l:AM.Loc}{row:List j5}{N:Nat}(hN:row.length=N)(h0:0<N)(hl:l.cap=N)(hlt:ltL n row)
  (h:∀j v,row[j]?=some v→w.cell? ⟨l.b,l.base+j,none⟩=some (H6 ι v)):fT P ι n w.heap l (.cells N 1 (T.ofList [row])):=by
 subst hN
 obtain⟨c,e,fz,hb,hc⟩:=Ad (h (row.length-1) row[row.length-1] (by simp))
 refine⟨c,e,fz,hb,?_,⟨by omega,1,D5 _,T.iJ [_]⟩,fun i hi=>?_⟩
 ·have:=(avx.1 hc).1;omega
 ·obtain rfl:i=0:=by omega
  refine⟨row,rfl,rfl,hlt,fun j hj=>?_⟩
  obtain⟨c',e',fz',hb',hc'⟩:=Ad (h j row[j] (by simp [hj]))
  rw [hb] at hb';cases hb'
  simpa [hj] using hc'
theorem oJ (n:Nm)(k:IntKind):∀l:List Int,ltL n (l.map (j5.int k))
 | []=>trivial
 | _::l=>⟨trivial,oJ n k l⟩
theorem Ee {P:Program}{w:World}{n:String}{g:Nat}{cs:Array Value}(hn:P.globalNamed n=some g)(h:w.var? P n=some cs):∃e fz,w.heap[g]?=some (Obj.cells cs e fz):=by
 unfold World.var? at h
 rw [hn] at h
 simp only [avK] at h
 split at h
 ·rename_i c e fz hh
  cases h
  exact⟨e,fz,hh⟩
 ·cases h
theorem rY {P:Program}{w:World}{n:String}{g:Nat}{k:IntKind}{ns:List Int}(hn:P.globalNamed n=some g)(h:Lib.TabIs P w n k ns)(ι:Inj):∀j v,(ns.map (j5.int k))[j]?=some v→w.cell? ⟨g,0+j,none⟩=some (H6 ι v):=by
 intro j v hv
 rw [awe,awI] at hv
 obtain⟨z,hz,rfl⟩:=hv
 have hj:=(S9.1 hz).1
 rw [avS,h.cell hn j hj]
 simp [H6,List.getD,hz]
theorem gn2:Tryz.prog.globalNamed "strconv.ErrSyntax"=some 2:=by kernel_rfl
theorem gn3:Tryz.prog.globalNamed "strconv.ErrRange"=some 3:=by kernel_rfl
theorem gn8:Tryz.prog.globalNamed "math/bits.deBruijn32tab"=some 8:=by kernel_rfl
theorem gn9:Tryz.prog.globalNamed "math/bits.deBruijn64tab"=some 9:=by kernel_rfl
def Ef (bT oT R oR:Nat)(a2 a3:Addr):Inj:=fun i=>⟨if i=11 then bT else if i=12 then R else if i=13 then a2.block else if i=14 then a3.block else i,
 if i=11 then oT else if i=12 then oR else if i=13 then a2.off else if i=14 then a3.off else 0,
 if i=0 then 256 else if i=1 then 1 else if i=2 then 1 else if i=3 then 1 else if i=5 then 20 else if i=8 then 32 else if i=9 then 64 else if i=11 then 3 else if i=12 then 21 else 0,
 if i=13 then a2.spot else if i=14 then a3.spot else none⟩
theorem Yg {w:World}{x1:Value}{a2 a3:Addr}(hA:Lib.TabIs Tryz.prog w "strings.asciiSpace" .u8 nsA)(hP:Lib.TabIs Tryz.prog w "internal/strconv.uint64pow10" .u64 nsP)
  (h32:Lib.TabIs Tryz.prog w "math/bits.deBruijn32tab" .u8 af8) (h64:Lib.TabIs Tryz.prog w "math/bits.deBruijn64tab" .u8 af9) (hW:Lib.WhiteTab 1 w) (h1:w.var? Tryz.prog "unicode.White_Space"=some #[x1])
  (h2:w.var? Tryz.prog "strconv.ErrSyntax"=some #[.iface 486 (.pointer (some a2))]) (h3:w.var? Tryz.prog "strconv.ErrRange"=some #[.iface 486 (.pointer (some a3))]):∃ι,RM Tryz.prog base ι (P7 base []) w.heap:=by
 obtain⟨bT,oT,R,oR,w1,w2,w3,w4,w5⟩:=hW
 refine⟨Ef bT oT R oR a2 a3,?_⟩
 have hn:base.next=15:=rfl
 have hok:T.Ok base.t base.next:=lY.ok
 have g0:base.get 0=some (.cells nsA.length 1 (T.ofList [nsA.map (j5.int .u8)])):=rfl
 have g1:base.get 1=some (.cells 1 1 (T.ofList [[j5.ptr 11 0]])):=rfl
 have g2:base.get 2=some (.cells 1 1 (T.ofList [[j5.iface 486 (.ptr 13 0)]])):=rfl
 have g3:base.get 3=some (.cells 1 1 (T.ofList [[j5.iface 486 (.ptr 14 0)]])):=rfl
 have g4:base.get 4=some .dead:=rfl
 have g5:base.get 5=some (.cells nsP.length 1 (T.ofList [nsP.map (j5.int .u64)])):=rfl
 have g6:base.get 6=some .dead:=rfl
 have g7:base.get 7=some .dead:=rfl
 have g8:base.get 8=some (.cells af8.length 1 (T.ofList [af8.map (j5.int .u8)])):=rfl
 have g9:base.get 9=some (.cells af9.length 1 (T.ofList [af9.map (j5.int .u8)])):=rfl
 have g10:base.get 10=some .dead:=rfl
 have g11:base.get 11=some (.cells 3 1 (T.ofList [[.slice 12 0 7 7,.nilSlice,.int .i64 2]])):=rfl
 have g12:base.get 12=some (.cells nsW.length 1 (T.ofList [nsW.map (j5.int .u16)])):=rfl
 have g13:base.get 13=some .dead:=rfl
 have g14:base.get 14=some .dead:=rfl
 have hb:∀i b,base.get i=some b→iV b=false→(P7 base []).has i:=fun i b hb hv=>⟨b,hb,hv⟩
 refine⟨hok,fun i b hb0=>?_,fun i b hi hb0=>?_,D5 _,D5 _,by rw [BH,hn];omega,fun i hi=>rfl,fun i hi=>?_,fun i hi=>?_,fun i b hb0 hl=>?_,fun i rs k rows hi hg=>?_⟩
 ·have hb0:base.get i=some b:=hb0
  have hi:i<15:=Mem.M8 hok hb0
  match i,hi with
  | 0,_=>rw [g0] at hb0;cases hb0;exact bA (by simp) (by decide) rfl (oJ _ _ _) (rY gn0 hA _)
  | 1,_=>
   rw [g1] at hb0;cases hb0
   refine bA (by rfl) (by decide) rfl ⟨hb 11 _ g11 rfl,trivial⟩ fun j v hv=>?_
   obtain rfl:j=0:=by have:=(S9.1 hv).1;simpa using this
   cases hv;simpa [H6,Inj.at,Ef] using w1
  | 2,_=>
   rw [g2] at hb0;cases hb0
   refine bA (by rfl) (by decide) rfl ⟨hb 13 _ g13 rfl,trivial⟩ fun j v hv=>?_
   obtain rfl:j=0:=by have:=(S9.1 hv).1;simpa using this
   cases hv
   have:=World.var?_cell gn2 h2 0
   simpa [H6,Inj.at,Ef] using this
  | 3,_=>
   rw [g3] at hb0;cases hb0
   refine bA (by rfl) (by decide) rfl ⟨hb 14 _ g14 rfl,trivial⟩ fun j v hv=>?_
   obtain rfl:j=0:=by have:=(S9.1 hv).1;simpa using this
   cases hv
   have:=World.var?_cell gn3 h3 0
   simpa [H6,Inj.at,Ef] using this
  | 4,_=>rw [g4] at hb0;cases hb0;trivial
  | 5,_=>rw [g5] at hb0;cases hb0;exact bA (by simp) (by decide) rfl (oJ _ _ _) (rY gn5 hP _)
  | 6,_=>rw [g6] at hb0;cases hb0;trivial
  | 7,_=>rw [g7] at hb0;cases hb0;trivial
  | 8,_=>rw [g8] at hb0;cases hb0;exact bA (by simp) (by decide) rfl (oJ _ _ _) (rY gn8 h32 _)
  | 9,_=>rw [g9] at hb0;cases hb0;exact bA (by simp) (by decide) rfl (oJ _ _ _) (rY gn9 h64 _)
  | 10,_=>rw [g10] at hb0;cases hb0;trivial
  | 11,_=>
   rw [g11] at hb0;cases hb0
   refine bA (by rfl) (by decide) rfl ⟨hb 12 _ g12 rfl,trivial,trivial,trivial⟩ fun j v hv=>?_
   have hj:=(S9.1 hv).1
   match j,hj with
   | 0,_=>cases hv;simpa [H6,Inj.at,Ef] using w2
   | 1,_=>cases hv;simpa [H6,Inj.at,Ef] using w3
   | 2,_=>cases hv;simpa [H6,Inj.at,Ef] using w4
  | 12,_=>
   rw [g12] at hb0;cases hb0
   refine bA (by simp) (by decide) rfl (oJ _ _ _) fun j v hv=>?_
   have h:∀i,i<21→nsW[i]?=some ((Lib.whiteT.getD i 0:Nat):Int):=by decide
   have hj:j<21:=by have:=(S9.1 hv).1;simpa [nsW] using this
   rw [awe,h j hj] at hv
   cases hv
   simp [H6,Inj.at,Ef]
  | 13,_=>rw [g13] at hb0;cases hb0;trivial
  | 14,_=>rw [g14] at hb0;cases hb0;trivial
 ·have hb0:base.get i=some b:=hb0
  have h1:i<15:=Mem.M8 hok hb0
  have h2:base.next≤i:=hi
  rw [hn] at h2;omega
 ·rw [BH] at hi
  match i,hi with
  | 0,_=>exact⟨_,g0,rfl⟩
  | 1,_=>exact⟨_,g1,rfl⟩
  | 2,_=>exact⟨_,g2,rfl⟩
  | 3,_=>exact⟨_,g3,rfl⟩
  | 4,_=>exact⟨_,g4,rfl⟩
  | 5,_=>exact⟨_,g5,rfl⟩
  | 6,_=>exact⟨_,g6,rfl⟩
  | 7,_=>exact⟨_,g7,rfl⟩
  | 8,_=>exact⟨_,g8,rfl⟩
  | 9,_=>exact⟨_,g9,rfl⟩
  | 10,_=>exact⟨_,g10,rfl⟩
 ·rw [BH] at hi
  match i,hi with
  | 0,_ | 1,_ | 2,_ | 3,_ | 4,_ | 5,_ | 6,_ | 7,_ | 8,_ | 9,_ | 10,_=>exact⟨rfl,rfl,rfl⟩
 ·have hb0:base.get i=some b:=hb0
  have hi:i<15:=Mem.M8 hok hb0
  match i,hi with
  | 0,_ | 1,_ | 2,_ | 3,_ | 4,_ | 5,_ | 6,_ | 7,_ | 8,_ | 9,_ | 10,_ | 11,_ | 12,_=>rfl
  | 13,_=>rw [g13] at hb0;cases hb0;cases hl
  | 14,_=>rw [g14] at hb0;cases hb0;cases hl
 ·rw [BH] at hi
  have tab:∀{n:String} {k:IntKind} {ns:List Int} {g N:Nat},Tryz.prog.globalNamed n=some g→ns.length=N→Lib.TabIs Tryz.prog w n k ns→∃c e fz,w.heap[g]?=some (Obj.cells c e fz)∧c.size=1*N:=fun hn hN ht=>by
   obtain⟨e,fz,h⟩:=Ee hn ht
   exact⟨_,e,fz,h,by simp [hN]⟩
  have one:∀{n:String} {x:Value} {g:Nat},Tryz.prog.globalNamed n=some g→w.var? Tryz.prog n=some #[x]→∃c e fz,w.heap[g]?=some (Obj.cells c e fz)∧c.size=1*1:=fun hn ht=>by
   obtain⟨e,fz,h⟩:=Ee hn ht
   exact⟨_,e,fz,h,rfl⟩
  match i,hi with
  | 0,_=>rw [g0] at hg;cases hg;exact tab gn0 rfl hA
  | 1,_=>rw [g1] at hg;cases hg;exact one gn1 h1
  | 2,_=>rw [g2] at hg;cases hg;exact one gn2 h2
  | 3,_=>rw [g3] at hg;cases hg;exact one gn3 h3
  | 4,_=>rw [g4] at hg;cases hg
  | 5,_=>rw [g5] at hg;cases hg;exact tab gn5 rfl hP
  | 6,_=>rw [g6] at hg;cases hg
  | 7,_=>rw [g7] at hg;cases hg
  | 8,_=>rw [g8] at hg;cases hg;exact tab gn8 rfl h32
  | 9,_=>rw [g9] at hg;cases hg;exact tab gn9 rfl h64
  | 10,_=>rw [g10] at hg;cases hg
open Go Go.AM Go.ChangeShapes Go.WideShapes Go.ChangeAt Go.RowKit
theorem laidOut:laidOutB Tryz.prog=true:=by kernel_rfl
theorem ae2 {v:Value}(h:v.cells.size≠1):v=.agg v.cells:=by
 cases v<;>simp_all [Value.cells]
theorem FZ {H:Type}{enc:TypeId×Value→H}{P:Program}{f:Func}{s:ChangeSpec}{apart fresh handsOn again:Bool}{W W':World}{args:Array Value}{v:Value}{ds gs:List (DataW H)}{before pa pv:List MemPlace}
  (hW:DataW.Whole enc P f.params.toList s.vars apart W args.toList ds gs before)
  (hres:∀(b:Nat) (sp:Nat→Bool) (hd:Bool),DataW.TrodAll enc P W' b sp hd f.resultTypes.toList (v.resultList f.resultTypes.size) (s.fn H (ds++gs)).results [])
  (hargs:∀sp:Nat→Bool,(∀p∈before,sp p.block=true)→DataW.TrodAll enc P W' 0 sp true f.params.toList args.toList (s.fn H (ds++gs)).args pa)
  (hvars:∀sp:Nat→Bool,(∀p∈before,sp p.block=true)→DataW.TrodVars enc P W' sp s.vars (s.fn H (ds++gs)).vars pv)
  (hps:before=pa++pv) (hk:W.keptBut W' (·∈before)) (hfz:∀a,a.block<W.heap.size→W'.frozen? a=W.frozen? a)
  (hok:∀(j:Nat) (t:TypeId) (r:Value),f.resultTypes[j]?=some t→(v.resultList f.resultTypes.size)[j]?=some r→Value.okWide P W' .any 0 t r):
  s.post enc P f apart fresh handsOn again W args v W':=by
 have hold:∀p∈before,(fun b=>decide (b<W.heap.size)) p.block=true:=fun p hp=>by simpa using hW.lt p hp
 have hlt:=hW.lt
 refine⟨ds,gs,before,[],pa,pv,hW,hres _ _ _,hargs _ hold,hvars _ hold,World.keptBut_mono (fun p hp=>⟨hp,?_⟩) hk,fun _=>?_⟩
 ·rw [hps,avN] at hp
  exact Or.inr hp
 ·obtain⟨_,_,_,_,_,hz,hn⟩:=hW
  refine⟨hok,_,_,([]++pa)++pv,⟨[]++pa,pv,trodAll_append (hargs _ (fun _ _=>rfl)) (hres _ _ _),hvars _ (fun _ _=>rfl),rfl,?_,?_⟩,?_⟩
  ·intro b off hp
   have hb:MemPlace.cell b off∈before:=by rw [hps];simpa using hp
   rw [hfz _ (hlt _ hb)]
   exact hz b off hb
  ·intro ha
   have:=hn ha
   rw [hps] at this
   simpa using this
  ·intro p hp _
   rw [hps]
   simpa using hp
variable {H:Type}{enc:TypeId×Value→H}{held:Bool}
theorem avm:wV Tryz.prog 7 3=true:=by kernel_rfl
theorem avn:wV Tryz.prog 7 9=true:=by kernel_rfl
theorem aqE:wV Tryz.prog 7 40=true:=by kernel_rfl
theorem ae3 {ι:Inj}{m:Mem}{w:World}(hm:RM Tryz.prog base ι m w.heap)(hl:m.lim=m.next){n0 n1 n2:Nat}{cs0 cs1 cs2:List Value}{x0 x1 x2:DataW H×List MemPlace}
  (h0:DataW.trod enc Tryz.prog w 0 (fun _=>true) held n0 40 cs0=some x0) (h1:DataW.trod enc Tryz.prog w 0 (fun _=>true) held n1 3 cs1=some x1) (h2:DataW.trod enc Tryz.prog w 0 (fun _=>true) held n2 9 cs2=some x2):
  ∃v1 v2,cs0.length=32∧cs1=[v1]∧cs2=[v2]∧Calls Tryz.prog 3 #[.agg cs0.toArray,v1,v2] w fun e w'=>e=.returned (.bool true)∧w.heap.size≤w'.heap.size∧(∀b,b<w.heap.size→w'.heap[b]?=w.heap[b]?)∧w'.os=w.os∧w'.output=w.output∧w'.tape=w.tape:=by
 obtain⟨ι0,m0,vs0,L0,c0,l0,S0⟩:=lift 7 _ _ _ _ h0 aqE ι m hm hl
 obtain⟨ι1,m1,vs1,L1,c1,l1,S1⟩:=lift 7 _ _ _ _ h1 avm ι0 m0 L0.rm L0.lim
 obtain⟨ι2,m2,vs2,L2,c2,l2,S2⟩:=lift 7 _ _ _ _ h2 avn ι1 m1 L1.rm L1.lim
 have T1:=L2
 have T0:=L1.trans T1
 have S0:=rF (P:=Tryz.prog) T0.get _ _ _ S0
 have S1:=rF (P:=Tryz.prog) T1.get _ _ _ S1
 have hk:m2.Ok:=L2.rm.ok
 obtain⟨r0,rfl,f0⟩:=Yf hk (n:=1) S0
 obtain⟨i1,rfl,b1⟩:=FY t3 S1
 obtain⟨s2,rfl⟩:=Yd t9 S2
 obtain⟨m9,g,E⟩:=al6 hk (Nat.le_of_eq L2.lim) f0 i1 s2 0 5001 (D5 _)
 have k0:H8 ι2 r0.f.cells=cs0:=by rw [T0.H6 l0];exact c0
 have q0:=T0.lt l0
 have k1:H8 ι2 [.int .i64 i1]=cs1:=by rw [T1.H6 l1];exact c1
 have q1:=T1.lt l1
 have k2:H8 ι2 [.str s2]=cs2:=by exact c2
 have q2:=l2
 refine⟨H6 ι2 (.int .i64 i1),H6 ι2 (.str s2),by rw [← k0];rfl,by rw [← k1];simp [H8],by rw [← k2];simp [H8],?_⟩
 have hargs:ltL (m2.nm ι2) [.agg r0.f.cells,.int .i64 i1,.str s2]:=by
  refine⟨?_,?_,?_,trivial⟩
  ·simpa [j5.lt] using q0
  ·exact q1.1
  ·exact q2.1
 have hc:=((Dp aqB 5001 20).func g).2 L2.rm hargs
 have he:(H8 ι2 [.agg r0.f.cells,.int .i64 i1,.str s2]).toArray=#[.agg cs0.toArray,H6 ι2 (.int .i64 i1),H6 ι2 (.str s2)]:=by
  simp [H8,H6,k0]
 rw [he] at hc
 refine callsIn_wide.1 (hc.mono ?_)
 rintro e w' (⟨u,rfl,r,hr,ι9,hst,hlt,rfl⟩ | ⟨r,hr,x,ι9,hx,_⟩)
 ·obtain rfl:=W9.1 hr
  refine⟨by simp [H6],hst.size,fun b hb=>hst.frame b hb ?_,hst.os,hst.out,hst.tape⟩
  rintro⟨i,x,hi,hx,_,_⟩
  have:=Mem.M8 hk hx
  have:=L2.lim
  omega
 ·obtain rfl:=W9.1 hr
  cases hx
theorem gy0:(Tryz.prog.globals[0]?).map (·.type)=some 217:=by kernel_rfl
theorem gy1:(Tryz.prog.globals[1]?).map (·.type)=some 311:=by kernel_rfl
theorem gy2:(Tryz.prog.globals[2]?).map (·.type)=some 174:=by kernel_rfl
theorem gy3:(Tryz.prog.globals[3]?).map (·.type)=some 174:=by kernel_rfl
theorem gy5:(Tryz.prog.globals[5]?).map (·.type)=some 518:=by kernel_rfl
theorem gy8:(Tryz.prog.globals[8]?).map (·.type)=some 546:=by kernel_rfl
theorem gy9:(Tryz.prog.globals[9]?).map (·.type)=some 547:=by kernel_rfl
theorem gz5:Tryz.prog.underlying 5=some (.int .u8):=by kernel_rfl
theorem gz9:Tryz.prog.underlying 9=some .string:=by kernel_rfl
theorem aqF:Tryz.prog.underlying 217=some (.array 256 5):=by kernel_rfl
theorem aqG:Tryz.prog.underlying 396=some (.int .u64):=by kernel_rfl
theorem aqH:Tryz.prog.underlying 518=some (.array 20 396):=by kernel_rfl
theorem aqI:Tryz.prog.underlying 546=some (.array 32 5):=by kernel_rfl
theorem aqJ:Tryz.prog.underlying 547=some (.array 64 5):=by kernel_rfl
theorem aqK:Tryz.prog.underlying 311=some (.pointer 383):=by kernel_rfl
theorem Nh {P:Program}{t:TypeId}(h:(match P.underlying t with | some (.interface _)=>true | _=>false)=true):∃ms,P.underlying t=some (.interface ms):=by
 split at h
 ·rename_i ms hu;exact⟨ms,hu⟩
 ·cases h
theorem Yh {P:Program}{t u:TypeId}(h:(match P.underlying t with | some (.struct ⟨[f]⟩)=>Nat.beq f.type u&&Nat.beq f.offset 0 | _=>false)=true):∃f:Field,P.underlying t=some (.struct #[f])∧f.type=u∧f.offset=0:=by
 split at h
 ·rename_i f hu
  simp only [avv] at h
  exact⟨f,hu,avt h.1,avt h.2⟩
 ·cases h
theorem aqL:∃ms,Tryz.prog.underlying 174=some (.interface ms):=Nh (by kernel_rfl)
theorem ae4:Tryz.prog.underlying 486=some (.pointer 488):=by kernel_rfl
theorem aqM:∃f:Field,Tryz.prog.underlying 488=some (.struct #[f])∧f.type=9∧f.offset=0:=Yh (by kernel_rfl)
theorem gc5:Tryz.prog.cellsOf 5=1:=by kernel_rfl
theorem gc9:Tryz.prog.cellsOf 9=1:=by kernel_rfl
theorem aqN:Tryz.prog.cellsOf 217=256:=by kernel_rfl
theorem aqO:Tryz.prog.cellsOf 396=1:=by kernel_rfl
theorem aqP:Tryz.prog.cellsOf 518=20:=by kernel_rfl
theorem aqQ:Tryz.prog.cellsOf 546=32:=by kernel_rfl
theorem aqR:Tryz.prog.cellsOf 547=64:=by kernel_rfl
theorem ae5:Tryz.prog.cellsOf 488=1:=by kernel_rfl
theorem ae6: "*" ++ "errors.errorString"= "*errors.errorString":=by decide
theorem Ni (u:TypeId)(h:Tryz.prog.typeName? 3 u=some "*errors.errorString"):u=486:=
 typeName_ptr_named (nm:= "errors.errorString") (by rw [ae6];kernel_rfl) (by kernel_rfl) (by decide) u (by rw [ae6];exact h)
theorem dA:(Rows.laid_strings_asciiSpace:DataW Unit)=Lib.tabData .u8 nsA:=by kernel_rfl
theorem dP:(Rows.laid_internal_strconv_uint64pow10:DataW Unit)=Lib.tabData .u64 nsP:=by kernel_rfl
theorem d32:(Rows.laid_math_bits_deBruijn32tab:DataW Unit)=Lib.tabData .u8 af8:=by kernel_rfl
theorem d64:(Rows.laid_math_bits_deBruijn64tab:DataW Unit)=Lib.tabData .u8 af9:=by kernel_rfl
theorem dW:(Rows.laid_unicode_White_Space:DataW Unit)=Lib.whiteData:=by kernel_rfl
theorem ae7:WhiteExtra Tryz.prog Tryz.xG:=⟨by kernel_rfl,by kernel_rfl,by kernel_rfl,by kernel_rfl,by kernel_rfl,by kernel_rfl,by kernel_rfl,by kernel_rfl⟩
theorem Yi {W:World}{rest:List (String×DataW Unit)}(h:laidMet Tryz.prog (("internal/strconv.uint64pow10",Rows.laid_internal_strconv_uint64pow10)::("math/bits.deBruijn32tab",Rows.laid_math_bits_deBruijn32tab)::("math/bits.deBruijn64tab",Rows.laid_math_bits_deBruijn64tab)::("strconv.ErrSyntax",Rows.laid_strconv_ErrSyntax)::("strconv.ErrRange",Rows.laid_strconv_ErrRange)::("strings.asciiSpace",Rows.laid_strings_asciiSpace)::("unicode.White_Space",Rows.laid_unicode_White_Space)::rest) W):
  ∃ι,RM Tryz.prog base ι (P7 base []) W.heap:=by
 rw [dA,dP,d32,d64,dW] at h
 obtain⟨ms,i174⟩:=aqL
 obtain⟨f,s488,ft,fo⟩:=aqM
 have aP:=Lib.tabIs_of_head gn5 gy5 aqH aqG aqO aqP h
 have h:=laidMet.tail h
 have a32:=Lib.tabIs_of_head gn8 gy8 aqI gz5 gc5 aqQ h
 have h:=laidMet.tail h
 have a64:=Lib.tabIs_of_head gn9 gy9 aqJ gz5 gc5 aqR h
 have h:=laidMet.tail h
 obtain⟨a2,s2,e2,_⟩:=laid_sentinel h gn2 gy2 i174 Ni ae4 s488 ft fo gz9 ae5 gc9
 have h:=laidMet.tail h
 obtain⟨a3,s3,e3,_⟩:=laid_sentinel h gn3 gy3 i174 Ni ae4 s488 ft fo gz9 ae5 gc9
 have h:=laidMet.tail h
 have aA:=Lib.tabIs_of_head gn0 gy0 aqF gz5 gc5 aqN h
 have h:=laidMet.tail h
 have rW:=Lib.laidMet.reads h (axK ..)
 have tW:=whiteTab_of_reads Tryz.XZ ae7 rW
 obtain⟨g,t,cs,fuel,p,hg,hty,hvar,hd⟩:=rW
 obtain rfl:=avA (gn1.symm.trans hg)
 obtain rfl:=avA (gy1.symm.trans hty)
 rcases DataW.trod_pointer aqK hd with⟨_,hx⟩ | ⟨a,cs',y,n,_,hcs,_⟩
 ·cases hx
 have hcs:cs=#[.pointer (some a)]:=by
  apply Array.ext'
  simpa using hcs
 rw [hcs] at hvar
 exact Yg aA aP a32 a64 tW hvar e2 e3
theorem Pz {W:World}(h:laidMetH Tryz.prog Rows.roomTextsRow.laid W):∃ι,RM Tryz.prog base ι (P7 base []) W.heap:=by
 rw [MakeChecks.laidMetH_plain _ _ _ (by kernel_rfl)] at h
 exact Yi h
theorem Nj (os:Os)(args:Array Value):laidMetH Tryz.prog Rows.roomTextsRow.laid ((World.doorLaid Tryz.prog 96 os).forCall (fun _ _=>0) ⟨#[],args,[]⟩).memory:=
 Nb os args
theorem avo:ownKnob Tryz.prog.godebug=none:=by kernel_rfl
theorem aqS:3<Tryz.prog.types.size:=of_decide_eq_true (by kernel_rfl)
theorem Yj:Tryz.prog.readableRec 3=true:=by kernel_rfl
theorem ae8:Tryz.prog.underlying 3=some (.int .i64):=by kernel_rfl
theorem aqT:9<Tryz.prog.types.size:=of_decide_eq_true (by kernel_rfl)
theorem Yk:Tryz.prog.readableRec 9=true:=by kernel_rfl
theorem ae9:Tryz.prog.underlying 9=some .string:=by kernel_rfl
theorem aea:40<Tryz.prog.types.size:=of_decide_eq_true (by kernel_rfl)
theorem PD:Tryz.prog.readableRec 40=true:=by kernel_rfl
theorem RA:Tryz.prog.underlying 4=some .bool:=by kernel_rfl
theorem Yl (os:Os)(started:os.Started)(H:Type)(enc:TypeId×Value→H):
  ReturnsInHanded {} Tryz.checked os 3 .any (fun w args=>(Rows.roomTextsSpec.pre enc Tryz.prog Tryz.f3 [] false w args∧laidMetH Tryz.prog Rows.roomTextsRow.laid w)∧sizedMet enc Tryz.prog Tryz.f3 (OpenSpec.ofChange Rows.roomTextsSpec) false w args)
   (Rows.roomTextsSpec.post enc Tryz.prog Tryz.f3 false true false false):=by
 refine returnsInHanded_of_change_and (C:=Tryz.checked) (X:=fun w _=>laidMetH Tryz.prog Rows.roomTextsRow.laid w) (fun _ _ _ hh h=>h.of_heap hh) avo started (by kernel_rfl) Tryz.func3
  (ChangeSpec.witness_shaped (enc:=enc) (C:=Tryz.checked) (os:=os) (X:=fun w _=>laidMetH Tryz.prog Rows.roomTextsRow.laid w) false (World.doorLaid Tryz.prog 96 os) #[.agg #[.int .i64 0,.int .i64 0,.int .i64 0,.int .i64 0,.int .i64 0,.int .i64 0,.int .i64 0,.int .i64 0,.int .i64 0,.int .i64 0,.int .i64 0,.int .i64 0,.int .i64 0,.int .i64 0,.int .i64 0,.int .i64 0,.int .i64 0,.int .i64 0,.int .i64 0,.int .i64 0,.int .i64 0,.int .i64 0,.slice none 0 0,.slice none 0 0,.int .i64 0,.int .i64 0,.int .i64 0,.int .i64 0,.int .i64 0,.slice none 0 0,.int .i64 0,.int .i64 0],.int .i64 0,.string ⟨#[]⟩] 8 rfl (World.shaped_of_RefB (by kernel_rfl) (by kernel_rfl)) (by kernel_rfl) (by kernel_rfl) (by kernel_rfl) (Nj os _)) ?_
 intro W base args ds gs before hval0 hW _ _ hL _
 have hval:∀(j:Nat) t v,Tryz.f3.params[j]?=some t→args[j]?=some v→Value.okWide Tryz.prog W .any base t v:=hval0
 have hW':=hW
 obtain⟨p,q,hA0,hV,rfl,hfz,hnd⟩:=hW
 have hA:DataW.TrodAll enc Tryz.prog W 0 (fun _=>true) true Tryz.f3.params.toList args.toList ds p:=hA0
 rw [Tryz.params3] at hA hval
 obtain⟨v0,v1,v2,d0,d1,d2,p0,p1,p2,rfl,rfl,rfl,h0,h1,h2⟩:=trodAll_three hA
 obtain⟨rfl,rfl⟩:=trodVars_none hV
 obtain⟨z1,rfl⟩:=okWide_int ae8 (hval 1 3 v1 rfl rfl)
 obtain⟨s2,rfl⟩:=okWide_string ae9 (hval 2 9 v2 rfl rfl)
 obtain⟨ι,hm⟩:=Pz hL
 obtain⟨f0,t0⟩:=id h0
 obtain⟨f1,t1⟩:=id h1
 obtain⟨f2,t2⟩:=id h2
 obtain⟨u1,u2,e0,e1,e2,hc⟩:=ae3 hm rfl t0 t1 t2
 have e0:v0=.agg v0.cells:=ae2 (by rw [← Array.length_toList,e0];decide)
 have e1:u1=.int .i64 z1:=by have:=e1;simp [Value.cells] at this;exact this.symm
 have e2:u2=.string s2:=by have:=e2;simp [Value.cells] at this;exact this.symm
 have hc2:(#[.agg v0.cells.toList.toArray,u1,u2]:Array Value)=#[v0,.int .i64 z1,.string s2]:=by
  rw [e1,e2,awf,← e0]
 rw [hc2] at hc
 refine hc.mono fun e W' ⟨he,h3,h4,h5,h6,h7⟩=>?_
 subst he
 have hb:Below W.heap.size W W':=⟨h5,h7,h6,h3,h4⟩
 refine⟨_,rfl,?_⟩
 simp only [awo] at hW'
 have lt:=hW'.lt
 have hk:∀may,W.keptBut W' may:=fun may=>by
  refine⟨h5,h6,fun i hi=>?_⟩
  have:=(World.keptBut_refl W may).2.2 i hi
  rw [h4 i hi]
  exact this
 have m0:∀x,x∈p0→x∈p0++p1++p2:=fun x hx=>by simp [hx]
 have m1:∀x,x∈p1→x∈p0++p1++p2:=fun x hx=>by simp [hx]
 have m2:∀x,x∈p2→x∈p0++p1++p2:=fun x hx=>by simp [hx]
 refine FZ (pa:=p0++p1++p2) (pv:=[]) hW' (fun _ _ _=>trodAll_mk1 (shut_bool RA _)) (fun sp hsp=>?_) (fun _ _=>rfl) (by simp) (hk _) (fun x hx=>by unfold World.frozen?;rw [h4 _ hx]) (ok_one (by kernel_rfl) rfl (okWide_bool_mk RA _))
 rw [Tryz.params3]
 exact⟨p0,p1++p2,WideElems.Trod_stays laidOut PD aea h0 (fun x hx=>hb.same (lt x (m0 x hx))) (fun x hx=>hsp x (m0 x hx)),⟨p1,p2,WideElems.Trod_stays laidOut Yj aqS h1 (fun x hx=>hb.same (lt x (m1 x hx))) (fun x hx=>hsp x (m1 x hx)),⟨p2,[],WideElems.Trod_stays laidOut Yk aqT h2 (fun x hx=>hb.same (lt x (m2 x hx))) (fun x hx=>hsp x (m2 x hx)),rfl,by simp⟩,rfl⟩,by simp⟩
end Go.Proofs.YtfnlnpllpfhhnaaGreatDoor.TT

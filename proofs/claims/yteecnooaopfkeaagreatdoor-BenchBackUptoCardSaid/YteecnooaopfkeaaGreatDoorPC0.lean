/- What is known of the library and of two functions whose order is not told, and the calls of the fixed example as data; no condition. -/
import Derived.Test.YteecnooaopfkeaaGreatDoorPB4
import Derived.Shelf.Strings.OnBuilder
import Derived.Shelf.LaysC
import Derived.Shelf.Strconv.AtoiAll
import Derived.Shelf.Strings.Search3
import Derived.Shelf.Strings.Count
import Derived.Test.YteecnooaopfkeaaGreatDoorProg
import Derived.Shelf.Strconv.Itoa3
import Derived.Ground.Names2Prog
set_option linter.all false
namespace Go.Proofs.YteecnooaopfkeaaGreatDoor.TT
open Go Go.AM
noncomputable def abJ (f:FuncId)(args:List o7)(m:Mem):dU:=bi (Nat.beq f 83) (EL args m) (bi (Nat.beq f 97) (dD args m) none)
theorem Ug {base:Mem}(hb:∃ET,Gz base ET)(a:Tryz.prog.follows .mixedOrders=true){f:FuncId}{args:List o7}{m:Mem}{outs:List VM}(h:abJ f args m=some outs):
  Cn Tryz.prog f∧∀{ι:K7} {w:World},RM Tryz.prog base ι m w.heap->bB (m.nm ι) args->CallsIn Fence.wide 0 Tryz.prog f (z8 ι args).toArray w (S9 Tryz.prog base ι m w outs):=by
 have b:Yt Tryz.prog ⟨fns,base,λ_ _ _=>none,λ_ _ _=>none⟩:=⟨a,Sy,hb,(λ_ _ _ _ h=>by cases h),(λh=>by cases h)⟩;unfold abJ at h;cases h1:Nat.beq f 83 with
 | true=>rw [h1] at h;obtain rfl:=q9 h1;exact YH b (show fns 83=some YE from rfl) (λ_ _=>rfl) h
 | false=>
  rw [h1] at h;cases h2:Nat.beq f 97 with
  | true=>rw [h2] at h;obtain rfl:=q9 h2;exact abx b (show fns 97=some (MI 175 176 95) from rfl) (show fns 175=some AZ from rfl) (show fns 176=some MJ from rfl) (show fns 95=some (VU 45) from rfl) (show fns 45=some Ba from rfl) (λ_ _ _=>rfl) h
  | false=>rw [h2] at h;cases h
end Go.Proofs.YteecnooaopfkeaaGreatDoor.TT
namespace Go.Proofs
open Go.Shelf
def Tryz.Ea:Go.Shelf.Ren:=⟨fun | 156=>114 | 165=>110 | 166=>72 | 169=>74 | 240=>112 | 241=>185 | 276=>186 | 277=>229 | n=>n,fun | 31=>96 | 9=>9 | 3=>3 | 4=>4 | 0=>0 | 20=>20 | 72=>123 | 76=>94 | 70=>120 | 37=>121 | 75=>93 | 127=>164 | 164=>263 | 5=>5 | 80=>125 | n=>n,fun | n=>n⟩
theorem Tryz.MV:Go.Proofs.Lays.n156 Tryz.prog Tryz.Ea:={
 mixed:=by kernel_rfl
 f156:=Tryz.func114.trans (congrArg some (by kernel_rfl))
 f165:=Tryz.func110.trans (congrArg some (by kernel_rfl))
 f166:=Tryz.func72.trans (congrArg some (by kernel_rfl))
 f169:=Tryz.func74.trans (congrArg some (by kernel_rfl))
 f240:=Tryz.func112.trans (congrArg some (by kernel_rfl))
 f241:=Tryz.func185.trans (congrArg some (by kernel_rfl))
 f276:=Tryz.func186.trans (congrArg some (by kernel_rfl))
 f277:=Tryz.func229.trans (congrArg some (by kernel_rfl))
 t0:=Tryz.underlying0
 a0:=Tryz.isAgg0
 z0:=Tryz.sizeOf0
 v0:=Tryz.zeroValue0
 t3:=Tryz.underlying3
 a3:=Tryz.isAgg3
 z3:=Tryz.sizeOf3
 v3:=Tryz.zeroValue3
 t4:=Tryz.underlying4
 a4:=Tryz.isAgg4
 z4:=Tryz.sizeOf4
 v4:=Tryz.zeroValue4
 t9:=Tryz.underlying9
 a9:=Tryz.isAgg9
 z9:=Tryz.sizeOf9
 v9:=Tryz.zeroValue9
 t20:=Tryz.underlying20
 a20:=Tryz.isAgg20
 z20:=Tryz.sizeOf20
 v20:=Tryz.zeroValue20
 t31:=Tryz.underlying96
 a31:=Tryz.isAgg96
 z31:=Tryz.sizeOf96
 v31:=Tryz.zeroValue96
 t37:=Tryz.underlying121
 a37:=Tryz.isAgg121
 z37:=Tryz.sizeOf121
 v37:=Tryz.zeroValue121
 t70:=Tryz.underlying120
 a70:=Tryz.isAgg120
 z70:=Tryz.sizeOf120
 v70:=Tryz.zeroValue120
 t72:=Tryz.underlying123
 a72:=Tryz.isAgg123
 z72:=Tryz.sizeOf123
 v72:=Tryz.zeroValue123
 t75:=Tryz.underlying93
 a75:=Tryz.isAgg93
 z75:=Tryz.sizeOf93
 v75:=Tryz.zeroValue93
 t76:=Tryz.underlying94
 a76:=Tryz.isAgg94
 z76:=Tryz.sizeOf94
 v76:=Tryz.zeroValue94
 t127:=Tryz.underlying164
 a127:=Tryz.isAgg164
 z127:=Tryz.sizeOf164
 v127:=Tryz.zeroValue164
 t164:=Tryz.underlying263
 a164:=Tryz.isAgg263
 z164:=Tryz.sizeOf263
 v164:=Tryz.zeroValue263}
theorem Tryz.kW:Builder.Extra Tryz.prog Tryz.Ea:={
 sizeBuilder:=by kernel_rfl
 liesBuilder:=by kernel_rfl
 t5:=Tryz.underlying5
 a5:=Tryz.isAgg5
 z5:=Tryz.sizeOf5
 v5:=Tryz.zeroValue5
 infoByte:=by kernel_rfl
 cellsByte:=by kernel_rfl
 sizeByte:=by kernel_rfl
 neB5:=by decide}
open Go.RowKit in
theorem Tryz.strings_Join_none (a:Option Addr)(c:Nat)(b:ByteArray)(w:World):
  Calls Tryz.prog 114 #[.slice a 0 c,.string b] w λe w'=>e=.returned (.string ⟨#[]⟩)∧w'=w:=Any.strings_Join_none Tryz.MV Tryz.kW a c b w
def Tryz.MW:Go.Shelf.Ren:=⟨fun | 172=>48 | 244=>91 | 245=>92 | 247=>169 | 279=>170 | 280=>171 | 281=>172 | 282=>173 | 287=>220 | 316=>221 | 171=>187 | 205=>222 | 321=>288 | 322=>289 | 243=>230 | 246=>293 | 283=>352 | 284=>353 | 285=>354 | 286=>355 | 129=>405 | 317=>454 | 318=>455 | 319=>456 | 320=>457 | 337=>546 | 338=>547 | n=>n,fun | 9=>9 | 3=>3 | 75=>93 | 76=>94 | 4=>4 | 5=>5 | 167=>246 | 37=>121 | 0=>0 | 85=>247 | 2=>2 | 168=>249 | 53=>260 | 175=>296 | 46=>157 | 210=>299 | 127=>164 | 145=>363 | 143=>361 | 21=>21 | 171=>449 | 173=>452 | 212=>532 | 51=>257 | 20=>20 | 213=>533 | 232=>622 | 233=>623 | 80=>125 | n=>n,fun | 15=>0 | 16=>1 | 17=>3 | 18=>6 | 19=>7 | n=>n⟩
theorem Tryz.wR:Go.Proofs.LaysC.n172 Tryz.prog Tryz.MW:={
 mixed:=by kernel_rfl
 f129:=Tryz.func405.trans (congrArg some (by kernel_rfl))
 f171:=Tryz.func187.trans (congrArg some (by kernel_rfl))
 f172:=Tryz.func48.trans (congrArg some (by kernel_rfl))
 f205:=Tryz.func222.trans (congrArg some (by kernel_rfl))
 f243:=Tryz.func230.trans (congrArg some (by kernel_rfl))
 f244:=Tryz.func91.trans (congrArg some (by kernel_rfl))
 f245:=Tryz.func92.trans (congrArg some (by kernel_rfl))
 f246:=Tryz.func293.trans (congrArg some (by kernel_rfl))
 f247:=Tryz.func169.trans (congrArg some (by kernel_rfl))
 f279:=Tryz.func170.trans (congrArg some (by kernel_rfl))
 f280:=Tryz.func171.trans (congrArg some (by kernel_rfl))
 f281:=Tryz.func172.trans (congrArg some (by kernel_rfl))
 f282:=Tryz.func173.trans (congrArg some (by kernel_rfl))
 f283:=Tryz.func352.trans (congrArg some (by kernel_rfl))
 f284:=Tryz.func353.trans (congrArg some (by kernel_rfl))
 f285:=Tryz.func354.trans (congrArg some (by kernel_rfl))
 f286:=Tryz.func355.trans (congrArg some (by kernel_rfl))
 f287:=Tryz.func220.trans (congrArg some (by kernel_rfl))
 f316:=Tryz.func221.trans (congrArg some (by kernel_rfl))
 f317:=Tryz.func454.trans (congrArg some (by kernel_rfl))
 f318:=Tryz.func455.trans (congrArg some (by kernel_rfl))
 f319:=Tryz.func456.trans (congrArg some (by kernel_rfl))
 f320:=Tryz.func457.trans (congrArg some (by kernel_rfl))
 f321:=Tryz.func288.trans (congrArg some (by kernel_rfl))
 f322:=Tryz.func289.trans (congrArg some (by kernel_rfl))
 f337:=Tryz.func546.trans (congrArg some (by kernel_rfl))
 f338:=Tryz.func547.trans (congrArg some (by kernel_rfl))
 t0:=Tryz.underlying0
 a0:=Tryz.isAgg0
 z0:=Tryz.sizeOf0
 v0:=Tryz.zeroValue0
 t2:=Tryz.underlying2
 a2:=Tryz.isAgg2
 z2:=Tryz.sizeOf2
 v2:=Tryz.zeroValue2
 t3:=Tryz.underlying3
 a3:=Tryz.isAgg3
 z3:=Tryz.sizeOf3
 v3:=Tryz.zeroValue3
 t4:=Tryz.underlying4
 a4:=Tryz.isAgg4
 z4:=Tryz.sizeOf4
 v4:=Tryz.zeroValue4
 t5:=Tryz.underlying5
 a5:=Tryz.isAgg5
 z5:=Tryz.sizeOf5
 v5:=Tryz.zeroValue5
 t9:=Tryz.underlying9
 a9:=Tryz.isAgg9
 z9:=Tryz.sizeOf9
 v9:=Tryz.zeroValue9
 t20:=Tryz.underlying20
 a20:=Tryz.isAgg20
 z20:=Tryz.sizeOf20
 v20:=Tryz.zeroValue20
 t21:=Tryz.underlying21
 a21:=Tryz.isAgg21
 z21:=Tryz.sizeOf21
 v21:=Tryz.zeroValue21
 t37:=Tryz.underlying121
 a37:=Tryz.isAgg121
 z37:=Tryz.sizeOf121
 v37:=Tryz.zeroValue121
 t46:=Tryz.underlying157
 a46:=Tryz.isAgg157
 z46:=Tryz.sizeOf157
 v46:=Tryz.zeroValue157
 t51:=Tryz.underlying257
 a51:=Tryz.isAgg257
 z51:=Tryz.sizeOf257
 v51:=Tryz.zeroValue257
 t53:=Tryz.underlying260
 a53:=Tryz.isAgg260
 z53:=Tryz.sizeOf260
 v53:=Tryz.zeroValue260
 t75:=Tryz.underlying93
 a75:=Tryz.isAgg93
 z75:=Tryz.sizeOf93
 v75:=Tryz.zeroValue93
 t76:=Tryz.underlying94
 a76:=Tryz.isAgg94
 z76:=Tryz.sizeOf94
 v76:=Tryz.zeroValue94
 t85:=Tryz.underlying247
 a85:=Tryz.isAgg247
 z85:=Tryz.sizeOf247
 v85:=Tryz.zeroValue247
 t127:=Tryz.underlying164
 a127:=Tryz.isAgg164
 z127:=Tryz.sizeOf164
 v127:=Tryz.zeroValue164
 t143:=Tryz.underlying361
 a143:=Tryz.isAgg361
 z143:=Tryz.sizeOf361
 v143:=Tryz.zeroValue361
 t145:=Tryz.underlying363
 a145:=Tryz.isAgg363
 z145:=Tryz.sizeOf363
 v145:=Tryz.zeroValue363
 t167:=Tryz.underlying246
 a167:=Tryz.isAgg246
 z167:=Tryz.sizeOf246
 v167:=Tryz.zeroValue246
 t168:=Tryz.underlying249
 a168:=Tryz.isAgg249
 z168:=Tryz.sizeOf249
 v168:=Tryz.zeroValue249
 t171:=Tryz.underlying449
 a171:=Tryz.isAgg449
 z171:=Tryz.sizeOf449
 v171:=Tryz.zeroValue449
 t173:=Tryz.underlying452
 a173:=Tryz.isAgg452
 z173:=Tryz.sizeOf452
 v173:=Tryz.zeroValue452
 t175:=Tryz.underlying296
 a175:=Tryz.isAgg296
 z175:=Tryz.sizeOf296
 v175:=Tryz.zeroValue296
 t210:=Tryz.underlying299
 a210:=Tryz.isAgg299
 z210:=Tryz.sizeOf299
 v210:=Tryz.zeroValue299
 t212:=Tryz.underlying532
 a212:=Tryz.isAgg532
 z212:=Tryz.sizeOf532
 v212:=Tryz.zeroValue532
 t213:=Tryz.underlying533
 a213:=Tryz.isAgg533
 z213:=Tryz.sizeOf533
 t232:=Tryz.underlying622
 a232:=Tryz.isAgg622
 z232:=Tryz.sizeOf622
 v232:=Tryz.zeroValue622
 t233:=Tryz.underlying623
 a233:=Tryz.isAgg623
 z233:=Tryz.sizeOf623
 v233:=Tryz.zeroValue623
 g15:=by kernel_rfl
 g16:=by kernel_rfl
 g17:=by kernel_rfl
 g18:=by kernel_rfl
 g19:=by kernel_rfl
 t80:=Tryz.underlying125
 a80:=Tryz.isAgg125
 z80:=Tryz.sizeOf125
 v80:=Tryz.zeroValue125
 i0:=by kernel_rfl
 i2:=by kernel_rfl
 i3:=by kernel_rfl
 i4:=by kernel_rfl
 i5:=by kernel_rfl
 i9:=by kernel_rfl
 i20:=by kernel_rfl
 i21:=by kernel_rfl
 i37:=by kernel_rfl
 i46:=by kernel_rfl
 i51:=by kernel_rfl
 i53:=by kernel_rfl
 i75:=by kernel_rfl
 i76:=by kernel_rfl
 i80:=by kernel_rfl
 i85:=by kernel_rfl
 i127:=by kernel_rfl
 i143:=by kernel_rfl
 i145:=by kernel_rfl
 i167:=by kernel_rfl
 i168:=by kernel_rfl
 i171:=by kernel_rfl
 i173:=by kernel_rfl
 i175:=by kernel_rfl
 i210:=by kernel_rfl
 i212:=by kernel_rfl
 i232:=by kernel_rfl
 i233:=by kernel_rfl
 m15:=by kernel_rfl
 m16:=by kernel_rfl
 m17:=by kernel_rfl
 m18:=by kernel_rfl
 m19:=by kernel_rfl
 c0:=by kernel_rfl
 c2:=by kernel_rfl
 c3:=by kernel_rfl
 c4:=by kernel_rfl
 c5:=by kernel_rfl
 c9:=by kernel_rfl
 c20:=by kernel_rfl
 c21:=by kernel_rfl
 c37:=by kernel_rfl
 c46:=by kernel_rfl
 c51:=by kernel_rfl
 c53:=by kernel_rfl
 c75:=by kernel_rfl
 c76:=by kernel_rfl
 c80:=by kernel_rfl
 c85:=by kernel_rfl
 c127:=by kernel_rfl
 c143:=by kernel_rfl
 c145:=by kernel_rfl
 c167:=by kernel_rfl
 c168:=by kernel_rfl
 c171:=by kernel_rfl
 c173:=by kernel_rfl
 c175:=by kernel_rfl
 c210:=by kernel_rfl
 c212:=by kernel_rfl
 c213:=by kernel_rfl
 c232:=by kernel_rfl
 c233:=by kernel_rfl}
open Go.RowKit in
theorem Tryz.strconv_Atoi_ok (s:ByteArray)(a:s.size<=9223372036854775806)(v:Int)(h:Lib.atoiAll s.data.toList=.ok v)(w:World):
  Calls Tryz.prog 48 #[.string s] w λe w'=>e=.returned (.tuple #[.int .i64 v,.nilIface])∧(w'=w∨∃t,w'=Lib.bytesWorld w 5 t):=Any.strconv_Atoi_ok Tryz.wR s a v h w
open Go.RowKit in
theorem Tryz.strconv_Atoi_range (s:ByteArray)(b:s.size<=281474976710656)(h:Lib.atoiAll s.data.toList=.range)(a:Value)(w:World)(d:w.cell? ⟨1,0,none⟩=some a)(c:a=.nilIface∨∃te pe,a=.iface te pe):
  Calls Tryz.prog 48 #[.string s] w λe w'=>∃N,e=.returned (.tuple #[.int .i64 (Lib.atoiSat s.data.toList),.iface 249 (.pointer (some ⟨N,0,none⟩))])∧w.heap.size<=N∧w'.heap[N]?=some (.cells #[.string ⟨#[65,116,111,105]⟩,.string s,a] 299 (0,0))∧Below w.heap.size w w':=Any.strconv_Atoi_range Tryz.wR s b h a w d c
def Tryz.Qh:Go.Shelf.Ren:=⟨fun | 143=>94 | 219=>174 | 217=>223 | 225=>224 | 224=>225 | 267=>226 | 266=>290 | 314=>291 | n=>n,fun | 9=>9 | 3=>3 | 4=>4 | 5=>5 | 46=>157 | 146=>258 | 51=>257 | n=>n,fun | 1=>2 | n=>n⟩
theorem Tryz.abK:Go.Proofs.Lays.n143 Tryz.prog Tryz.Qh:={
 mixed:=by kernel_rfl
 f143:=Tryz.func94.trans (congrArg some (by kernel_rfl))
 f217:=Tryz.func223.trans (congrArg some (by kernel_rfl))
 f219:=Tryz.func174.trans (congrArg some (by kernel_rfl))
 f224:=Tryz.func225.trans (congrArg some (by kernel_rfl))
 f225:=Tryz.func224.trans (congrArg some (by kernel_rfl))
 f266:=Tryz.func290.trans (congrArg some (by kernel_rfl))
 f267:=Tryz.func226.trans (congrArg some (by kernel_rfl))
 f314:=Tryz.func291.trans (congrArg some (by kernel_rfl))
 t3:=Tryz.underlying3
 a3:=Tryz.isAgg3
 z3:=Tryz.sizeOf3
 v3:=Tryz.zeroValue3
 t4:=Tryz.underlying4
 a4:=Tryz.isAgg4
 z4:=Tryz.sizeOf4
 v4:=Tryz.zeroValue4
 t5:=Tryz.underlying5
 a5:=Tryz.isAgg5
 z5:=Tryz.sizeOf5
 v5:=Tryz.zeroValue5
 t9:=Tryz.underlying9
 a9:=Tryz.isAgg9
 z9:=Tryz.sizeOf9
 v9:=Tryz.zeroValue9
 t46:=Tryz.underlying157
 a46:=Tryz.isAgg157
 z46:=Tryz.sizeOf157
 v46:=Tryz.zeroValue157
 t51:=Tryz.underlying257
 a51:=Tryz.isAgg257
 z51:=Tryz.sizeOf257
 v51:=Tryz.zeroValue257
 t146:=Tryz.underlying258
 a146:=Tryz.isAgg258
 z146:=Tryz.sizeOf258
 v146:=Tryz.zeroValue258
 g1:=by kernel_rfl}
open Go.RowKit Go.Lib in
theorem Tryz.strings_Index_one (s:ByteArray)(c:UInt8)(w:World):
  Calls Tryz.prog 94 #[.string s,.string ⟨#[c]⟩] w λe w'=>e=.returned (.int .i64 (Lib.indexByte s.data.toList c))∧w'=w:=Any.strings_Index_one Tryz.abK s c w
def Tryz.Qi:Go.Shelf.Ren:=⟨fun | 144=>50 | 143=>94 | 219=>174 | 217=>223 | 225=>224 | 224=>225 | 267=>226 | 266=>290 | 314=>291 | n=>n,fun | 9=>9 | 4=>4 | 3=>3 | 5=>5 | 46=>157 | 146=>258 | 51=>257 | n=>n,fun | 1=>2 | n=>n⟩
theorem Tryz.abL:Go.Proofs.Lays.n144 Tryz.prog Tryz.Qi:={
 mixed:=by kernel_rfl
 f143:=Tryz.func94.trans (congrArg some (by kernel_rfl))
 f144:=Tryz.func50.trans (congrArg some (by kernel_rfl))
 f217:=Tryz.func223.trans (congrArg some (by kernel_rfl))
 f219:=Tryz.func174.trans (congrArg some (by kernel_rfl))
 f224:=Tryz.func225.trans (congrArg some (by kernel_rfl))
 f225:=Tryz.func224.trans (congrArg some (by kernel_rfl))
 f266:=Tryz.func290.trans (congrArg some (by kernel_rfl))
 f267:=Tryz.func226.trans (congrArg some (by kernel_rfl))
 f314:=Tryz.func291.trans (congrArg some (by kernel_rfl))
 t3:=Tryz.underlying3
 a3:=Tryz.isAgg3
 z3:=Tryz.sizeOf3
 v3:=Tryz.zeroValue3
 t4:=Tryz.underlying4
 a4:=Tryz.isAgg4
 z4:=Tryz.sizeOf4
 v4:=Tryz.zeroValue4
 t5:=Tryz.underlying5
 a5:=Tryz.isAgg5
 z5:=Tryz.sizeOf5
 v5:=Tryz.zeroValue5
 t9:=Tryz.underlying9
 a9:=Tryz.isAgg9
 z9:=Tryz.sizeOf9
 v9:=Tryz.zeroValue9
 t46:=Tryz.underlying157
 a46:=Tryz.isAgg157
 z46:=Tryz.sizeOf157
 v46:=Tryz.zeroValue157
 t51:=Tryz.underlying257
 a51:=Tryz.isAgg257
 z51:=Tryz.sizeOf257
 v51:=Tryz.zeroValue257
 t146:=Tryz.underlying258
 a146:=Tryz.isAgg258
 z146:=Tryz.sizeOf258
 v146:=Tryz.zeroValue258
 g1:=by kernel_rfl}
open Go.RowKit Go.Lib in
theorem Tryz.strings_Contains_one (s:ByteArray)(c:UInt8)(w:World):
  Calls Tryz.prog 50 #[.string s,.string ⟨#[c]⟩] w λe w'=>e=.returned (.bool (decide (0<=Lib.indexByte s.data.toList c)))∧w'=w:=Any.strings_Contains_one Tryz.abL s c w
def Tryz.Qj:Go.Shelf.Ren:=⟨fun | 138=>375 | 195=>459 | 218=>461 | 143=>94 | 219=>174 | 217=>223 | 225=>224 | 224=>225 | 267=>226 | 266=>290 | 314=>291 | n=>n,fun | 9=>9 | 3=>3 | 4=>4 | 5=>5 | 0=>0 | 46=>157 | 146=>258 | 51=>257 | n=>n,fun | 1=>2 | n=>n⟩
theorem Tryz.abM:Go.Proofs.Lays.n138 Tryz.prog Tryz.Qj:={
 mixed:=by kernel_rfl
 f138:=Tryz.func375.trans (congrArg some (by kernel_rfl))
 f143:=Tryz.func94.trans (congrArg some (by kernel_rfl))
 f195:=Tryz.func459.trans (congrArg some (by kernel_rfl))
 f217:=Tryz.func223.trans (congrArg some (by kernel_rfl))
 f218:=Tryz.func461.trans (congrArg some (by kernel_rfl))
 f219:=Tryz.func174.trans (congrArg some (by kernel_rfl))
 f224:=Tryz.func225.trans (congrArg some (by kernel_rfl))
 f225:=Tryz.func224.trans (congrArg some (by kernel_rfl))
 f266:=Tryz.func290.trans (congrArg some (by kernel_rfl))
 f267:=Tryz.func226.trans (congrArg some (by kernel_rfl))
 f314:=Tryz.func291.trans (congrArg some (by kernel_rfl))
 t0:=Tryz.underlying0
 a0:=Tryz.isAgg0
 z0:=Tryz.sizeOf0
 v0:=Tryz.zeroValue0
 t3:=Tryz.underlying3
 a3:=Tryz.isAgg3
 z3:=Tryz.sizeOf3
 v3:=Tryz.zeroValue3
 t4:=Tryz.underlying4
 a4:=Tryz.isAgg4
 z4:=Tryz.sizeOf4
 v4:=Tryz.zeroValue4
 t5:=Tryz.underlying5
 a5:=Tryz.isAgg5
 z5:=Tryz.sizeOf5
 v5:=Tryz.zeroValue5
 t9:=Tryz.underlying9
 a9:=Tryz.isAgg9
 z9:=Tryz.sizeOf9
 v9:=Tryz.zeroValue9
 t46:=Tryz.underlying157
 a46:=Tryz.isAgg157
 z46:=Tryz.sizeOf157
 v46:=Tryz.zeroValue157
 t51:=Tryz.underlying257
 a51:=Tryz.isAgg257
 z51:=Tryz.sizeOf257
 v51:=Tryz.zeroValue257
 t146:=Tryz.underlying258
 a146:=Tryz.isAgg258
 z146:=Tryz.sizeOf258
 v146:=Tryz.zeroValue258
 g1:=by kernel_rfl}
open Go.RowKit Go.Lib in
theorem Tryz.strings_Count_one (s:ByteArray)(c:UInt8)(w:World):
  Calls Tryz.prog 375 #[.string s,.string ⟨#[c]⟩] w λe w'=>e=.returned (.int .i64 (Lib.countByte s.data.toList c))∧w'=w:=Any.strings_Count_one Tryz.abM s c w
def Tryz.MX:Go.Shelf.Ren:=⟨fun | 171=>187 | 243=>230 | 246=>293 | 283=>352 | 284=>353 | 285=>354 | 286=>355 | 129=>405 | 317=>454 | 318=>455 | 319=>456 | 320=>457 | 337=>546 | 338=>547 | n=>n,fun | 3=>3 | 9=>9 | 2=>2 | 4=>4 | 171=>449 | 0=>0 | 53=>260 | 37=>121 | 5=>5 | 173=>452 | 212=>532 | 51=>257 | 20=>20 | 213=>533 | 46=>157 | 232=>622 | 233=>623 | n=>n,fun | 17=>3 | 18=>6 | 19=>7 | n=>n⟩
theorem Tryz.Zd:Go.Proofs.LaysM.n171 Tryz.prog Tryz.MX:={
 mixed:=by kernel_rfl
 f129:=Tryz.func405.trans (congrArg some (by kernel_rfl))
 f171:=Tryz.func187.trans (congrArg some (by kernel_rfl))
 f243:=Tryz.func230.trans (congrArg some (by kernel_rfl))
 f246:=Tryz.func293.trans (congrArg some (by kernel_rfl))
 f283:=Tryz.func352.trans (congrArg some (by kernel_rfl))
 f284:=Tryz.func353.trans (congrArg some (by kernel_rfl))
 f285:=Tryz.func354.trans (congrArg some (by kernel_rfl))
 f286:=Tryz.func355.trans (congrArg some (by kernel_rfl))
 f317:=Tryz.func454.trans (congrArg some (by kernel_rfl))
 f318:=Tryz.func455.trans (congrArg some (by kernel_rfl))
 f319:=Tryz.func456.trans (congrArg some (by kernel_rfl))
 f320:=Tryz.func457.trans (congrArg some (by kernel_rfl))
 f337:=Tryz.func546.trans (congrArg some (by kernel_rfl))
 f338:=Tryz.func547.trans (congrArg some (by kernel_rfl))
 t0:=Tryz.underlying0
 a0:=Tryz.isAgg0
 z0:=Tryz.sizeOf0
 v0:=Tryz.zeroValue0
 t2:=Tryz.underlying2
 a2:=Tryz.isAgg2
 z2:=Tryz.sizeOf2
 v2:=Tryz.zeroValue2
 t3:=Tryz.underlying3
 a3:=Tryz.isAgg3
 z3:=Tryz.sizeOf3
 v3:=Tryz.zeroValue3
 t4:=Tryz.underlying4
 a4:=Tryz.isAgg4
 z4:=Tryz.sizeOf4
 v4:=Tryz.zeroValue4
 t5:=Tryz.underlying5
 a5:=Tryz.isAgg5
 z5:=Tryz.sizeOf5
 v5:=Tryz.zeroValue5
 t9:=Tryz.underlying9
 a9:=Tryz.isAgg9
 z9:=Tryz.sizeOf9
 v9:=Tryz.zeroValue9
 t20:=Tryz.underlying20
 a20:=Tryz.isAgg20
 z20:=Tryz.sizeOf20
 v20:=Tryz.zeroValue20
 t37:=Tryz.underlying121
 a37:=Tryz.isAgg121
 z37:=Tryz.sizeOf121
 v37:=Tryz.zeroValue121
 t46:=Tryz.underlying157
 a46:=Tryz.isAgg157
 z46:=Tryz.sizeOf157
 v46:=Tryz.zeroValue157
 t51:=Tryz.underlying257
 a51:=Tryz.isAgg257
 z51:=Tryz.sizeOf257
 v51:=Tryz.zeroValue257
 t53:=Tryz.underlying260
 a53:=Tryz.isAgg260
 z53:=Tryz.sizeOf260
 v53:=Tryz.zeroValue260
 t171:=Tryz.underlying449
 a171:=Tryz.isAgg449
 z171:=Tryz.sizeOf449
 v171:=Tryz.zeroValue449
 t173:=Tryz.underlying452
 a173:=Tryz.isAgg452
 z173:=Tryz.sizeOf452
 v173:=Tryz.zeroValue452
 t212:=Tryz.underlying532
 a212:=Tryz.isAgg532
 z212:=Tryz.sizeOf532
 v212:=Tryz.zeroValue532
 t213:=Tryz.underlying533
 a213:=Tryz.isAgg533
 z213:=Tryz.sizeOf533
 t232:=Tryz.underlying622
 a232:=Tryz.isAgg622
 z232:=Tryz.sizeOf622
 v232:=Tryz.zeroValue622
 t233:=Tryz.underlying623
 a233:=Tryz.isAgg623
 z233:=Tryz.sizeOf623
 v233:=Tryz.zeroValue623
 g17:=by kernel_rfl
 g18:=by kernel_rfl
 g19:=by kernel_rfl
 i0:=by kernel_rfl
 i2:=by kernel_rfl
 i3:=by kernel_rfl
 i4:=by kernel_rfl
 i5:=by kernel_rfl
 i9:=by kernel_rfl
 i20:=by kernel_rfl
 i37:=by kernel_rfl
 i46:=by kernel_rfl
 i51:=by kernel_rfl
 i53:=by kernel_rfl
 i171:=by kernel_rfl
 i173:=by kernel_rfl
 i212:=by kernel_rfl
 i232:=by kernel_rfl
 i233:=by kernel_rfl
 m17:=by kernel_rfl
 m18:=by kernel_rfl
 m19:=by kernel_rfl}
open Go.RowKit Go.Sort Go.Lib in
theorem Tryz.strconv_Itoa (n:Int)(h0:-9223372036854775808<=n)(b:n<=9223372036854775807)(w:World)(a:Lib.TabIs Tryz.prog w "internal/strconv.uint64pow10" .u64 Lib.pow10Tab):
  Calls Tryz.prog 187 #[.int .i64 n] w λe w'=>e=.returned (.string ⟨(Lib.itoa n).toArray⟩)∧∃k os,w'=grow (w.drewN k) os:=Any.strconv_Itoa Tryz.Zd n h0 b w a
end Go.Proofs
namespace Go.Proofs.YteecnooaopfkeaaGreatDoor.TT
open Go Go.AM Go.RowKit
noncomputable section
def Ze (f:FuncId)(args:List o7)(bs:List NB):Option BX:=YD 94 375 114 13 f args bs
theorem ae8 {v:o7}{off n:Nat}(s:(∃c,v=.slice base.nx off n c∧n<=c)∨∃es,v=.sliceU base.nx off n es){rows l:List (List o7)}{f:List (List UInt8)}{b:List UInt8}(r:n<1000000)
  (q:takeN n (kF off rows)=some l) (t:uo l=some f) (d:(aI b f).length<1000000):jI Tryz.prog base 114 [v,.str b] [.cells 1 rows] ⟨.str (aI b f),[]⟩:=
 YR mJ.ok (λa c b w=>Tryz.strings_Join_none a c b w) (λe o c x b w h=>Any.strings_Join_one Tryz.MV Tryz.kW e o c x b w h)
  (λe o c u b w g i j k m p=>Any.strings_Join_many Tryz.MV Tryz.kW e o c u b w g i j k m p) s r q t d
theorem Uh {f:FuncId}{args:List o7}{m:List NB}{a:BX}(h:Ze f args m=some a):jI Tryz.prog base f args m a:=by
 unfold Ze YD at h;cases h1:Nat.beq f 94 with
 | true=>
  rw [h1,Q9] at h;obtain rfl:=q9 h1;split at h;rename_i s c;cases hb:Nat.blt (len' s) 1000000 with
  | true=>rw [hb] at h;cases h;exact Wd (λs c w=>Tryz.strings_Index_one s c w) s c
  | false=>rw [hb] at h;cases h
  cases h
 | false=>
  rw [h1,U5] at h;cases h2:Nat.beq f 375 with
  | true=>
   rw [h2,Q9] at h;obtain rfl:=q9 h2;split at h;rename_i s c;cases hb:Nat.blt (len' s) 1000000 with
   | true=>rw [hb] at h;cases h;exact Wh (λs c w=>Tryz.strings_Count_one s c w) s c
   | false=>rw [hb] at h;cases h
   cases h
  | false=>
   rw [h2,U5] at h;cases h3:Nat.beq f 114 with
   | false=>rw [h3] at h;cases h
   | true=>
    rw [h3,Q9] at h;obtain rfl:=q9 h3;have b:∀{n:Nat},Nat.blt n 1000000=true->n<1000000:=λh=>Y3.mp h;split at h;rename_i v d o;unfold lG at h;split at h;cases h;rename_i id j n c;dsimp only at h;cases b1:Nat.beq id 13 with
    | false=>rw [b1] at h;cases h
    | true=>
     cases b2:Nat.ble n c with
     | false=>rw [b1,b2] at h;cases h
     | true=>
      cases b3:Nat.blt n 1000000 with
      | false=>rw [b1,b2,b3] at h;cases h
      | true=>
       rw [b1,b2,b3] at h;obtain⟨l,g,h⟩:=D5 h;obtain⟨k,i,h⟩:=D5 h;cases b4:Nat.blt (len' (aI d k)) 1000000 with
       | false=>rw [b4] at h;cases h
       | true=>rw [b4] at h;cases h;obtain rfl:=q9 b1;exact ae8 (.inl ⟨c,rfl,U9 b2⟩) (b b3) g i (by have:=b b4;rwa [I9] at this)
    rename_i id j n p;dsimp only at h;cases b1:Nat.beq id 13 with
    | false=>rw [b1] at h;cases h
    | true=>
     cases b3:Nat.blt n 1000000 with
     | false=>rw [b1,b3] at h;cases h
     | true=>
      rw [b1,b3] at h;obtain⟨l,g,h⟩:=D5 h;obtain⟨k,i,h⟩:=D5 h;cases b4:Nat.blt (len' (aI d k)) 1000000 with
      | false=>rw [b4] at h;cases h
      | true=>rw [b4] at h;cases h;obtain rfl:=q9 b1;exact ae8 (.inr ⟨p,rfl⟩) (b b3) g i (by have:=b b4;rwa [I9] at this)
    cases h;rename_i d;cases h;exact oF (abz _ _ _) (λ_=>trivial) (λ_ _=>by simp [u6]) λq w _=>(by refine ae2 (Tryz.strings_Join_none none 0 ⟨d.toArray⟩ w) ?_;rintro e w' ⟨rfl,rfl⟩;exact⟨by simp [u6],Below.refl _ _⟩);cases h
open Go Go.AM
def ajB (f:Nat):Bool:=bi (Nat.beq f 94) true (bi (Nat.beq f 375) true (bi (Nat.beq f 114) true (bi (Nat.beq f 8) true (bi (Nat.beq f 10) true (bi (Nat.beq f 18) true (bi (Nat.beq f 22) true (Nat.beq f 23)))))))
def aps (f:Nat):Bool:=bi (Nat.beq f 50) true (Nat.beq f 237)
def reP (b:Bool)(s:aW):aW:=⟨b,s.args,s.nslots,s.results,s.code,s.rcode⟩
def apt (f:FuncId):Option aW:=ob (fns f) λs=>some (reP (bi (ajB f) true (bi (aps f) false s.pure)) s)
def apu (l:List Sum)(f:FuncId)(args:List o7)(bs:List NB):Option BX:=Option.rec (Ze f args bs) (λa=>some a) (sumOf l f args bs)
def Kt (l:List Sum):Known:=⟨apt,base,apu l,abJ⟩
def okA (o:Option BX)(a:BX):Bool:=Option.rec false (λb=>bi (dh 100 b.v a.v) (lN b.bs a.bs) false) o
theorem afE {o:Option BX}{a:BX}(h:okA o a=true):o=some a:=by
 cases o with
 | none=>cases h
 | some b=>
  have h:bi (dh 100 b.v a.v) (lN b.bs a.bs) false=true:=h;cases h1:dh 100 b.v a.v with
  | false=>rw [h1] at h;cases h
  | true=>
   rw [h1] at h;have h:lN b.bs a.bs=true:=h;have c:=jU 100 _ _ h1;have d:=qK _ _ h;cases a;cases b
   simp_all
def dw (s:Sum):Prop:=jI Tryz.prog base s.f s.args s.bs s.a
def KD:List Sum->Prop
 | []=>True
 | s::l=>dw s∧KD l
theorem KD.mem:∀{l:List Sum},KD l->∀s∈l,dw s
 | [],_,_,h=>by cases h
 | x::l,⟨h1,h2⟩,s,h=>by rcases Y4.1 h with rfl | h;exact h1;exact KD.mem h2 s h
theorem KE {P:Program}{f:FuncId}{sf:aW}(h:ql P f sf)(b:Bool):ql P f (reP b sf):=⟨h.ok,h.is⟩
theorem ajC {l:List Sum}(i:KD l):Yt Tryz.prog (Kt l):=by
 refine⟨mixed,λf k h=>?_,⟨ET,mJ⟩,λf c d a h=>?_,λh=>Ug ⟨ET,mJ⟩ mixed h⟩;obtain⟨j,e,g⟩:=D5 (show ob (fns f) _=some k from h);cases g;exact KE (Sy f j e) _;have h:Option.rec (Ze f c d) (λa=>some a) (sumOf l f c d)=some a:=h;cases hs:sumOf l f c d with
 | none=>rw [hs] at h;exact Uh h
 | some b=>rw [hs] at h;cases h;exact zq l i.mem _ _ _ _ hs
theorem run {l:List Sum}{s:Sum}{sf:aW}(b:ql Tryz.prog s.f sf)(c:KD l)(h:okA (Dl (Kt l) (r9 (Kt l) 100000 1000) 100000 s.f sf s.args s.bs) s.a=true):dw s:=Sd (ajC c) b (afE h)
set_option maxRecDepth 1000000
def q24:Sum:=⟨8,[(.str [108,101,116,32,105,32,61,32,48,59,32,119,104,105,108,101,32,105,32,60,32,51,32,123,32,112,114,105,110,116,32,105,44,32,105,32,42,32,105,59,32,105,32,61,32,105,32,43,32,49,59,32,125])],[],(V [(U 13 0 24 2),(I 0),(J 0)]),[(C 2 [[(I 1),(.str [108,101,116])],[(I 1),(.str [105])],[(I 3),(.str [61])],[(I 2),(.str [48])],[(I 3),(.str [59])],[(I 1),(.str [119,104,105,108,101])],[(I 1),(.str [105])],[(I 3),(.str [60])],[(I 2),(.str [51])],[(I 3),(.str [123])],[(I 1),(.str [112,114,105,110,116])],[(I 1),(.str [105])],[(I 3),(.str [44])],[(I 1),(.str [105])],[(I 3),(.str [42])],[(I 1),(.str [105])],[(I 3),(.str [59])],[(I 1),(.str [105])],[(I 3),(.str [61])],[(I 1),(.str [105])],[(I 3),(.str [43])],[(I 2),(.str [49])],[(I 3),(.str [59])],[(I 3),(.str [125])]])]⟩
def q38:Sum:=⟨8,[(.str [107,110,111,119,110,40,53,41,59,32,103,97,117,103,101,40,51,44,32,48,44,32,49,48,48,48,44,32,45,57,44,32,57,44,32,48,44,32,49,44,32,48,41,59,32,99,111,109,112,97,114,101,40,52,44,32,49,48,48,50,44,32,49,44,32,48,44,32,48,44,32,51,44,32,48,41,59,32,112,114,105,110,116,32,108,111,119,40,51,44,32,57,41,44,32,104,105,103,104,40,51,44,32,57,41,44,32,106,117,100,103,101,40,51,44,32,57,44,32,49,48,48,49,44,32,49,48,48,51,41,44,32,101,114,114,110,111,40,41,59,32,99,114,97,115,104,40,49,41,59,32,112,114,105,110,116,32,102,97,99,116,115,40,41,59,32,114,111,111,109,40,50,41,59,32,112,114,105,110,116,32,102,97,99,116,115,40,41,44,32,108,111,119,40,51,44,32,57,41,44,32,101,114,114,110,111,40,41,59])],[],(V [(U 13 0 103 2),(I 0),(J 0)]),[(C 2 [[(I 1),(.str [107,110,111,119,110])],[(I 3),(.str [40])],[(I 2),(.str [53])],[(I 3),(.str [41])],[(I 3),(.str [59])],[(I 1),(.str [103,97,117,103,101])],[(I 3),(.str [40])],[(I 2),(.str [51])],[(I 3),(.str [44])],[(I 2),(.str [48])],[(I 3),(.str [44])],[(I 2),(.str [49,48,48,48])],[(I 3),(.str [44])],[(I 3),(.str [45])],[(I 2),(.str [57])],[(I 3),(.str [44])],[(I 2),(.str [57])],[(I 3),(.str [44])],[(I 2),(.str [48])],[(I 3),(.str [44])],[(I 2),(.str [49])],[(I 3),(.str [44])],[(I 2),(.str [48])],[(I 3),(.str [41])],[(I 3),(.str [59])],[(I 1),(.str [99,111,109,112,97,114,101])],[(I 3),(.str [40])],[(I 2),(.str [52])],[(I 3),(.str [44])],[(I 2),(.str [49,48,48,50])],[(I 3),(.str [44])],[(I 2),(.str [49])],[(I 3),(.str [44])],[(I 2),(.str [48])],[(I 3),(.str [44])],[(I 2),(.str [48])],[(I 3),(.str [44])],[(I 2),(.str [51])],[(I 3),(.str [44])],[(I 2),(.str [48])],[(I 3),(.str [41])],[(I 3),(.str [59])],[(I 1),(.str [112,114,105,110,116])],[(I 1),(.str [108,111,119])],[(I 3),(.str [40])],[(I 2),(.str [51])],[(I 3),(.str [44])],[(I 2),(.str [57])],[(I 3),(.str [41])],[(I 3),(.str [44])],[(I 1),(.str [104,105,103,104])],[(I 3),(.str [40])],[(I 2),(.str [51])],[(I 3),(.str [44])],[(I 2),(.str [57])],[(I 3),(.str [41])],[(I 3),(.str [44])],[(I 1),(.str [106,117,100,103,101])],[(I 3),(.str [40])],[(I 2),(.str [51])],[(I 3),(.str [44])],[(I 2),(.str [57])],[(I 3),(.str [44])],[(I 2),(.str [49,48,48,49])],[(I 3),(.str [44])],[(I 2),(.str [49,48,48,51])],[(I 3),(.str [41])],[(I 3),(.str [44])],[(I 1),(.str [101,114,114,110,111])],[(I 3),(.str [40])],[(I 3),(.str [41])],[(I 3),(.str [59])],[(I 1),(.str [99,114,97,115,104])],[(I 3),(.str [40])],[(I 2),(.str [49])],[(I 3),(.str [41])],[(I 3),(.str [59])],[(I 1),(.str [112,114,105,110,116])],[(I 1),(.str [102,97,99,116,115])],[(I 3),(.str [40])],[(I 3),(.str [41])],[(I 3),(.str [59])],[(I 1),(.str [114,111,111,109])],[(I 3),(.str [40])],[(I 2),(.str [50])],[(I 3),(.str [41])],[(I 3),(.str [59])],[(I 1),(.str [112,114,105,110,116])],[(I 1),(.str [102,97,99,116,115])],[(I 3),(.str [40])],[(I 3),(.str [41])],[(I 3),(.str [44])],[(I 1),(.str [108,111,119])],[(I 3),(.str [40])],[(I 2),(.str [51])],[(I 3),(.str [44])],[(I 2),(.str [57])],[(I 3),(.str [41])],[(I 3),(.str [44])],[(I 1),(.str [101,114,114,110,111])],[(I 3),(.str [40])],[(I 3),(.str [41])],[(I 3),(.str [59])]])]⟩
def q25:Sum:=⟨10,[(.str [108,101,116,32,105,32,61,32,48,59,32,119,104,105,108,101,32,105,32,60,32,51,32,123,32,112,114,105,110,116,32,105,44,32,105,32,42,32,105,59,32,105,32,61,32,105,32,43,32,49,59,32,125])],[],(V [(U 13 0 2 5),(I 0)]),[(C 5 [[(I 1),(.str [105]),(S 14 0 1 1),Z,Z],[(I 4),(.str []),(S 15 0 1 1),(U 17 0 2 5),Z]]),(C 4 [[(I 1),(I 0),(.str []),Z]]),(C 4 [[(I 11),(I 0),(.str []),(S 16 0 2 2)]]),(C 4 [[(I 2),(I 0),(.str [105]),Z],[(I 1),(I 3),(.str []),Z]]),(C 5 [[(I 5),(.str []),(U 18 0 2 4),Z,Z],[(I 2),(.str [105]),(S 20 0 1 1),Z,Z]]),(C 4 [[(I 2),(I 0),(.str [105]),Z],[(I 6),(I 0),(.str []),(S 19 0 2 2)]]),(C 4 [[(I 2),(I 0),(.str [105]),Z],[(I 2),(I 0),(.str [105]),Z]]),(C 4 [[(I 9),(I 0),(.str []),(S 21 0 2 2)]]),(C 4 [[(I 2),(I 0),(.str [105]),Z],[(I 1),(I 1),(.str []),Z]])]⟩
def q39:Sum:=⟨10,[(.str [107,110,111,119,110,40,53,41,59,32,103,97,117,103,101,40,51,44,32,48,44,32,49,48,48,48,44,32,45,57,44,32,57,44,32,48,44,32,49,44,32,48,41,59,32,99,111,109,112,97,114,101,40,52,44,32,49,48,48,50,44,32,49,44,32,48,44,32,48,44,32,51,44,32,48,41,59,32,112,114,105,110,116,32,108,111,119,40,51,44,32,57,41,44,32,104,105,103,104,40,51,44,32,57,41,44,32,106,117,100,103,101,40,51,44,32,57,44,32,49,48,48,49,44,32,49,48,48,51,41,44,32,101,114,114,110,111,40,41,59,32,99,114,97,115,104,40,49,41,59,32,112,114,105,110,116,32,102,97,99,116,115,40,41,59,32,114,111,111,109,40,50,41,59,32,112,114,105,110,116,32,102,97,99,116,115,40,41,44,32,108,111,119,40,51,44,32,57,41,44,32,101,114,114,110,111,40,41,59])],[],(V [(U 13 0 8 5),(I 0)]),[(C 5 [[(I 6),(.str []),(S 14 0 1 1),Z,Z],[(I 6),(.str []),(S 16 0 1 1),Z,Z],[(I 6),(.str []),(S 19 0 1 1),Z,Z],[(I 5),(.str []),(U 21 0 4 4),Z,Z],[(I 6),(.str []),(S 25 0 1 1),Z,Z],[(I 5),(.str []),(S 27 0 1 1),Z,Z],[(I 6),(.str []),(S 28 0 1 1),Z,Z],[(I 5),(.str []),(U 30 0 3 4),Z,Z]]),(C 4 [[(I 3),(I 0),(.str [107,110,111,119,110]),(S 15 0 1 1)]]),(C 4 [[(I 1),(I 5),(.str []),Z]]),(C 4 [[(I 3),(I 0),(.str [103,97,117,103,101]),(U 17 0 8 4)]]),(C 4 [[(I 1),(I 3),(.str []),Z],[(I 1),(I 0),(.str []),Z],[(I 1),(I 1000),(.str []),Z],[(I 4),(I 0),(.str []),(S 18 0 1 1)],[(I 1),(I 9),(.str []),Z],[(I 1),(I 0),(.str []),Z],[(I 1),(I 1),(.str []),Z],[(I 1),(I 0),(.str []),Z]]),(C 4 [[(I 1),(I 9),(.str []),Z]]),(C 4 [[(I 3),(I 0),(.str [99,111,109,112,97,114,101]),(U 20 0 7 4)]]),(C 4 [[(I 1),(I 4),(.str []),Z],[(I 1),(I 1002),(.str []),Z],[(I 1),(I 1),(.str []),Z],[(I 1),(I 0),(.str []),Z],[(I 1),(I 0),(.str []),Z],[(I 1),(I 3),(.str []),Z],[(I 1),(I 0),(.str []),Z]]),(C 4 [[(I 3),(I 0),(.str [108,111,119]),(U 22 0 2 4)],[(I 3),(I 0),(.str [104,105,103,104]),(U 23 0 2 4)],[(I 3),(I 0),(.str [106,117,100,103,101]),(U 24 0 4 4)],[(I 3),(I 0),(.str [101,114,114,110,111]),Z]]),(C 4 [[(I 1),(I 3),(.str []),Z],[(I 1),(I 9),(.str []),Z]]),(C 4 [[(I 1),(I 3),(.str []),Z],[(I 1),(I 9),(.str []),Z]]),(C 4 [[(I 1),(I 3),(.str []),Z],[(I 1),(I 9),(.str []),Z],[(I 1),(I 1001),(.str []),Z],[(I 1),(I 1003),(.str []),Z]]),(C 4 [[(I 3),(I 0),(.str [99,114,97,115,104]),(S 26 0 1 1)]]),(C 4 [[(I 1),(I 1),(.str []),Z]]),(C 4 [[(I 3),(I 0),(.str [102,97,99,116,115]),Z]]),(C 4 [[(I 3),(I 0),(.str [114,111,111,109]),(S 29 0 1 1)]]),(C 4 [[(I 1),(I 2),(.str []),Z]]),(C 4 [[(I 3),(I 0),(.str [102,97,99,116,115]),Z],[(I 3),(I 0),(.str [108,111,119]),(U 31 0 2 4)],[(I 3),(I 0),(.str [101,114,114,110,111]),Z]]),(C 4 [[(I 1),(I 3),(.str []),Z],[(I 1),(I 9),(.str []),Z]])]⟩
def q26:Sum:=⟨18,[(U 13 0 2 5)],[(C 5 [[(I 1),(.str [105]),(S 14 0 1 1),Z,Z],[(I 4),(.str []),(S 15 0 1 1),(U 17 0 2 5),Z]]),(C 4 [[(I 1),(I 0),(.str []),Z]]),(C 4 [[(I 11),(I 0),(.str []),(S 16 0 2 2)]]),(C 4 [[(I 2),(I 0),(.str [105]),Z],[(I 1),(I 3),(.str []),Z]]),(C 5 [[(I 5),(.str []),(U 18 0 2 4),Z,Z],[(I 2),(.str [105]),(S 20 0 1 1),Z,Z]]),(C 4 [[(I 2),(I 0),(.str [105]),Z],[(I 6),(I 0),(.str []),(S 19 0 2 2)]]),(C 4 [[(I 2),(I 0),(.str [105]),Z],[(I 2),(I 0),(.str [105]),Z]]),(C 4 [[(I 9),(I 0),(.str []),(S 21 0 2 2)]]),(C 4 [[(I 2),(I 0),(.str [105]),Z],[(I 1),(I 1),(.str []),Z]])],(I 0),[]⟩
def q40:Sum:=⟨18,[(U 13 0 8 5)],[(C 5 [[(I 6),(.str []),(S 14 0 1 1),Z,Z],[(I 6),(.str []),(S 16 0 1 1),Z,Z],[(I 6),(.str []),(S 19 0 1 1),Z,Z],[(I 5),(.str []),(U 21 0 4 4),Z,Z],[(I 6),(.str []),(S 25 0 1 1),Z,Z],[(I 5),(.str []),(S 27 0 1 1),Z,Z],[(I 6),(.str []),(S 28 0 1 1),Z,Z],[(I 5),(.str []),(U 30 0 3 4),Z,Z]]),(C 4 [[(I 3),(I 0),(.str [107,110,111,119,110]),(S 15 0 1 1)]]),(C 4 [[(I 1),(I 5),(.str []),Z]]),(C 4 [[(I 3),(I 0),(.str [103,97,117,103,101]),(U 17 0 8 4)]]),(C 4 [[(I 1),(I 3),(.str []),Z],[(I 1),(I 0),(.str []),Z],[(I 1),(I 1000),(.str []),Z],[(I 4),(I 0),(.str []),(S 18 0 1 1)],[(I 1),(I 9),(.str []),Z],[(I 1),(I 0),(.str []),Z],[(I 1),(I 1),(.str []),Z],[(I 1),(I 0),(.str []),Z]]),(C 4 [[(I 1),(I 9),(.str []),Z]]),(C 4 [[(I 3),(I 0),(.str [99,111,109,112,97,114,101]),(U 20 0 7 4)]]),(C 4 [[(I 1),(I 4),(.str []),Z],[(I 1),(I 1002),(.str []),Z],[(I 1),(I 1),(.str []),Z],[(I 1),(I 0),(.str []),Z],[(I 1),(I 0),(.str []),Z],[(I 1),(I 3),(.str []),Z],[(I 1),(I 0),(.str []),Z]]),(C 4 [[(I 3),(I 0),(.str [108,111,119]),(U 22 0 2 4)],[(I 3),(I 0),(.str [104,105,103,104]),(U 23 0 2 4)],[(I 3),(I 0),(.str [106,117,100,103,101]),(U 24 0 4 4)],[(I 3),(I 0),(.str [101,114,114,110,111]),Z]]),(C 4 [[(I 1),(I 3),(.str []),Z],[(I 1),(I 9),(.str []),Z]]),(C 4 [[(I 1),(I 3),(.str []),Z],[(I 1),(I 9),(.str []),Z]]),(C 4 [[(I 1),(I 3),(.str []),Z],[(I 1),(I 9),(.str []),Z],[(I 1),(I 1001),(.str []),Z],[(I 1),(I 1003),(.str []),Z]]),(C 4 [[(I 3),(I 0),(.str [99,114,97,115,104]),(S 26 0 1 1)]]),(C 4 [[(I 1),(I 1),(.str []),Z]]),(C 4 [[(I 3),(I 0),(.str [102,97,99,116,115]),Z]]),(C 4 [[(I 3),(I 0),(.str [114,111,111,109]),(S 29 0 1 1)]]),(C 4 [[(I 1),(I 2),(.str []),Z]]),(C 4 [[(I 3),(I 0),(.str [102,97,99,116,115]),Z],[(I 3),(I 0),(.str [108,111,119]),(U 31 0 2 4)],[(I 3),(I 0),(.str [101,114,114,110,111]),Z]]),(C 4 [[(I 1),(I 3),(.str []),Z],[(I 1),(I 9),(.str []),Z]])],(I 0),[]⟩
def q30:Sum:=⟨23,[(.str [108,101,116,32,105,32,61,32,48,59,32,119,104,105,108,101,32,105,32,60,32,51,32,123,32,112,114,105,110,116,32,105,44,32,105,32,42,32,105,59,32,105,32,61,32,105,32,43,32,49,59,32,125]),(I 5)],[],(A [(.str [48,32,48,10]),(I 5),(I 2)]),[]⟩
def q29:Sum:=⟨23,[(.str [108,101,116,32,105,32,61,32,48,59,32,119,104,105,108,101,32,105,32,60,32,51,32,123,32,112,114,105,110,116,32,105,44,32,105,32,42,32,105,59,32,105,32,61,32,105,32,43,32,49,59,32,125]),(I 100)],[],(A [(.str [48,32,48,10,49,32,49,10,50,32,52,10]),(I 12),(I 0)]),[]⟩
def q99:Sum:=⟨23,[(.str [107,110,111,119,110,40,53,41,59,32,103,97,117,103,101,40,51,44,32,48,44,32,49,48,48,48,44,32,45,57,44,32,57,44,32,48,44,32,49,44,32,48,41,59,32,99,111,109,112,97,114,101,40,52,44,32,49,48,48,50,44,32,49,44,32,48,44,32,48,44,32,51,44,32,48,41,59,32,112,114,105,110,116,32,108,111,119,40,51,44,32,57,41,44,32,104,105,103,104,40,51,44,32,57,41,44,32,106,117,100,103,101,40,51,44,32,57,44,32,49,48,48,49,44,32,49,48,48,51,41,44,32,101,114,114,110,111,40,41,59,32,99,114,97,115,104,40,49,41,59,32,112,114,105,110,116,32,102,97,99,116,115,40,41,59,32,114,111,111,109,40,50,41,59,32,112,114,105,110,116,32,102,97,99,116,115,40,41,44,32,108,111,119,40,51,44,32,57,41,44,32,101,114,114,110,111,40,41,59]),(I 100)],[],(A [(.str [49,48,48,49,32,49,48,48,51,32,49,32,48,10,49,10,48,32,48,32,53,10]),(I 21),(I 0)]),[]⟩
def q18:Sum:=⟨22,[(.str [112,114,105,110,116,32,45,40,49,43,50,41,32,42,32,51,59])],[],(.str [112,114,105,110,116,32,45,57,59,10]),[]⟩
def q43:Sum:=⟨275,[(A [(I 0),(I 0),(S 13 0 1 1),Z,Z,Z,Z])],[(C 8 [[(I 3),(I 0),(I 1000),(J 8),(I 9),(I 0),(I 1),(I 0)]])],(I 0),[]⟩
def q44:Sum:=⟨233,[(A [(I 1),(I 1),(I 5),(I 2),(I 0),(I 0),(I 3),(I 0),(I 1000),(J 8),(I 9),(I 0),(I 1),(I 0),(I 0),(I 0),(I 0),(I 0),(I 0),(I 0),(I 0),(I 0),Z,Z,(I 0),(I 0),(I 0),(I 0),(I 0),Z,(I 0),(I 0)])],[],tt,[]⟩
def q50:Sum:=⟨233,[(A [(I 1),(I 2),(I 5),(I 5),(I 0),(I 0),(I 0),(I 0),(I 0),(I 0),(I 0),(I 0),(I 0),(I 0),(I 0),(I 0),(I 0),(I 0),(I 0),(I 0),(I 0),(I 4),(U 13 0 1 1),Z,(I 1002),(I 1),(I 0),(I 0),(I 0),Z,(I 0),(I 0)])],[(C 1 [[(I 3)]])],tt,[]⟩
def q55:Sum:=⟨207,[(U 13 0 2 32),(I 5)],[(C 32 [[(I 1),(I 1),(I 5),(I 2),(I 0),(I 0),(I 3),(I 0),(I 1000),(J 8),(I 9),(I 0),(I 1),(I 0),(I 0),(I 0),(I 0),(I 0),(I 0),(I 0),(I 0),(I 0),Z,Z,(I 0),(I 0),(I 0),(I 0),(I 0),Z,(I 0),(I 0)],[(I 1),(I 2),(I 5),(I 5),(I 0),(I 0),(I 0),(I 0),(I 0),(I 0),(I 0),(I 0),(I 0),(I 0),(I 0),(I 0),(I 0),(I 0),(I 0),(I 0),(I 0),(I 4),(U 14 0 1 1),Z,(I 1002),(I 1),(I 0),(I 0),(I 0),Z,(I 0),(I 0)]]),(C 1 [[(I 3)]])],(A [(I 0),(I 0),(U 15 0 1 8),Z,Z,(U 16 0 1 8),Z,Z]),[(C 8 [[(I 3),(I 0),(I 1000),(J 8),(I 9),(I 0),(I 1),(I 0)]]),(C 8 [[(I 102),(I 4),(U 17 0 1 1),Z,(I 1002),(I 1),(I 0),(I 0)]]),(C 1 [[(I 3)]])]⟩
def q58:Sum:=⟨275,[(A [(I 0),(I 0),(U 13 0 1 8),Z,Z,(U 14 0 1 8),Z])],[(C 8 [[(I 3),(I 0),(I 1000),(J 8),(I 9),(I 0),(I 1),(I 0)]]),(C 8 [[(I 102),(I 4),(U 15 0 1 1),Z,(I 1002),(I 1),(I 0),(I 0)]]),(C 1 [[(I 3)]])],(I 0),[]⟩
def q62:Sum:=⟨336,[(A [(I 0),(I 0),(U 13 0 1 8),Z,Z,(U 14 0 1 8),Z])],[(C 8 [[(I 3),(I 0),(I 1000),(J 8),(I 9),(I 0),(I 1),(I 0)]]),(C 8 [[(I 102),(I 4),(U 15 0 1 1),Z,(I 1002),(I 1),(I 0),(I 0)]]),(C 1 [[(I 3)]])],(V [(A [(I 3),(U 16 0 6 3)]),(U 17 0 6 2),(I 0)]),[(C 3 [[(I 0),(I 1),(I 1009)],[(I 1),(I 0),(J 990)],[(I 1),(I 2),(I 0)],[(I 2),(I 1),(I 0)],[(I 0),(I 2),(I 1003)],[(I 2),(I 0),(J 1000)]]),(C 2 [[(I 1),(I 0)],[(I 1),(I 0)],[(I 2),(I 0)],[(I 2),(I 0)],[(I 3),(I 0)],[(I 3),(I 0)]])]⟩
def q63:Sum:=⟨441,[(A [(I 3),(U 13 0 6 3)])],[(C 3 [[(I 0),(I 1),(I 1009)],[(I 1),(I 0),(J 990)],[(I 1),(I 2),(I 0)],[(I 2),(I 1),(I 0)],[(I 0),(I 2),(I 1003)],[(I 2),(I 0),(J 1000)]])],(V [(I 0),(J 0)]),[]⟩
def q64:Sum:=⟨442,[(A [(I 3),(U 13 0 6 3)]),.nilMap],[(C 3 [[(I 0),(I 1),(I 1009)],[(I 1),(I 0),(J 990)],[(I 1),(I 2),(I 0)],[(I 2),(I 1),(I 0)],[(I 0),(I 2),(I 1003)],[(I 2),(I 0),(J 1000)]])],(V [(S 14 0 3 3),tt]),[(C 1 [[(I 0)],[(I 1001)],[(I 1001)]])]⟩
def q69:Sum:=⟨275,[(A [(I 0),(I 0),(U 13 0 1 8),Z,Z,(U 14 0 1 8),(U 16 0 1 2)])],[(C 8 [[(I 3),(I 0),(I 1000),(J 8),(I 9),(I 0),(I 1),(I 0)]]),(C 8 [[(I 102),(I 4),(U 15 0 1 1),Z,(I 1002),(I 1),(I 0),(I 0)]]),(C 1 [[(I 3)]]),(C 2 [[(I 3),(I 9)]])],(I 0),[]⟩
def q72:Sum:=⟨336,[(A [(I 0),(I 0),(U 13 0 1 8),Z,Z,(U 14 0 1 8),(U 16 0 1 2)])],[(C 8 [[(I 3),(I 0),(I 1000),(J 8),(I 9),(I 0),(I 1),(I 0)]]),(C 8 [[(I 102),(I 4),(U 15 0 1 1),Z,(I 1002),(I 1),(I 0),(I 0)]]),(C 1 [[(I 3)]]),(C 2 [[(I 3),(I 9)]])],(V [(A [(I 4),(U 17 0 8 3)]),(U 18 0 8 2),(I 0)]),[(C 3 [[(I 0),(I 1),(I 1009)],[(I 1),(I 0),(J 990)],[(I 1),(I 2),(I 0)],[(I 2),(I 1),(I 0)],[(I 2),(I 3),(I 0)],[(I 3),(I 2),(I 0)],[(I 0),(I 2),(I 1003)],[(I 2),(I 0),(J 1000)]]),(C 2 [[(I 1),(I 0)],[(I 1),(I 0)],[(I 2),(I 0)],[(I 2),(I 0)],[(I 2),(I 0)],[(I 2),(I 0)],[(I 3),(I 0)],[(I 3),(I 0)]])]⟩
def q73:Sum:=⟨441,[(A [(I 4),(U 13 0 8 3)])],[(C 3 [[(I 0),(I 1),(I 1009)],[(I 1),(I 0),(J 990)],[(I 1),(I 2),(I 0)],[(I 2),(I 1),(I 0)],[(I 2),(I 3),(I 0)],[(I 3),(I 2),(I 0)],[(I 0),(I 2),(I 1003)],[(I 2),(I 0),(J 1000)]])],(V [(I 0),(J 0)]),[]⟩
def q74:Sum:=⟨442,[(A [(I 4),(U 13 0 8 3)]),.nilMap],[(C 3 [[(I 0),(I 1),(I 1009)],[(I 1),(I 0),(J 990)],[(I 1),(I 2),(I 0)],[(I 2),(I 1),(I 0)],[(I 2),(I 3),(I 0)],[(I 3),(I 2),(I 0)],[(I 0),(I 2),(I 1003)],[(I 2),(I 0),(J 1000)]])],(V [(S 14 0 4 4),tt]),[(C 1 [[(I 0)],[(I 1001)],[(I 1001)],[(I 1001)]])]⟩
def q75:Sum:=⟨553,[(A [(I 4),(U 13 0 8 3)]),.nilMap,(I 0)],[(C 3 [[(I 0),(I 1),(I 1009)],[(I 1),(I 0),(J 990)],[(I 1),(I 2),(I 0)],[(I 2),(I 1),(I 0)],[(I 2),(I 3),(I 0)],[(I 3),(I 2),(I 0)],[(I 0),(I 2),(I 1003)],[(I 2),(I 0),(J 1000)]])],(S 14 0 4 4),[(C 1 [[(I 0)],[(I 1003)],[(I 1003)],[(I 1003)]])]⟩
def q76:Sum:=⟨553,[(A [(I 4),(U 13 0 8 3)]),.nilMap,(I 1)],[(C 3 [[(I 0),(I 1),(I 1009)],[(I 1),(I 0),(J 990)],[(I 1),(I 2),(I 0)],[(I 2),(I 1),(I 0)],[(I 2),(I 3),(I 0)],[(I 3),(I 2),(I 0)],[(I 0),(I 2),(I 1003)],[(I 2),(I 0),(J 1000)]])],(S 14 0 4 4),[(C 1 [[(J 1000)],[(I 0)],[(I 0)],[(I 0)]])]⟩
def q77:Sum:=⟨553,[(A [(I 4),(U 13 0 8 3)]),.nilMap,(I 2)],[(C 3 [[(I 0),(I 1),(I 1009)],[(I 1),(I 0),(J 990)],[(I 1),(I 2),(I 0)],[(I 2),(I 1),(I 0)],[(I 2),(I 3),(I 0)],[(I 3),(I 2),(I 0)],[(I 0),(I 2),(I 1003)],[(I 2),(I 0),(J 1000)]])],(S 14 0 4 4),[(C 1 [[(J 1000)],[(I 0)],[(I 0)],[(I 0)]])]⟩
def q78:Sum:=⟨553,[(A [(I 4),(U 13 0 8 3)]),.nilMap,(I 3)],[(C 3 [[(I 0),(I 1),(I 1009)],[(I 1),(I 0),(J 990)],[(I 1),(I 2),(I 0)],[(I 2),(I 1),(I 0)],[(I 2),(I 3),(I 0)],[(I 3),(I 2),(I 0)],[(I 0),(I 2),(I 1003)],[(I 2),(I 0),(J 1000)]])],(S 14 0 4 4),[(C 1 [[(J 1000)],[(I 0)],[(I 0)],[(I 0)]])]⟩
def q80:Sum:=⟨250,[(A [(I 0),(I 0),(U 13 0 1 8),Z,Z,(U 14 0 1 8),Z,Z]),(I 3),(I 9)],[(C 8 [[(I 3),(I 0),(I 1000),(J 8),(I 9),(I 0),(I 1),(I 0)]]),(C 8 [[(I 102),(I 4),(U 15 0 1 1),Z,(I 1002),(I 1),(I 0),(I 0)]]),(C 1 [[(I 3)]])],(V [(U 16 0 1 3),(I 0)]),[(C 3 [[(I 3),(I 1001),(I 1003)]])]⟩
def q87:Sum:=⟨254,[(A [(I 0),(I 0),(U 13 0 1 8),Z,Z,(U 14 0 1 8),Z]),(A [(I 3),(I 9)]),(A [(I 1001),(I 1003)])],[(C 8 [[(I 3),(I 0),(I 1000),(J 8),(I 9),(I 0),(I 1),(I 0)]]),(C 8 [[(I 102),(I 4),(U 15 0 1 1),Z,(I 1002),(I 1),(I 0),(I 0)]]),(C 1 [[(I 3)]])],(V [(I 1),(I 0)]),[]⟩
def q92:Sum:=⟨207,[Z,(I 5)],[],(A [(I 0),(I 0),Z,Z,Z,Z,Z,Z]),[]⟩
end
end Go.Proofs.YteecnooaopfkeaaGreatDoor.TT

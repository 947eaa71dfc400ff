/- What is known of the library and of two functions whose order is not told, and the calls of the fixed example as data; no condition. -/
import Derived.Test.YtcnimimffiiimaaGreatDoorPB4
import Derived.Shelf.Strings.OnBuilder
import Derived.Shelf.Strings.Search3
import Derived.Shelf.Strings.Count
import Derived.Test.YtcnimimffiiimaaGreatDoorProg
import Derived.Shelf.Strconv.Itoa3
import Derived.Ground.Names2Prog
set_option linter.all false
namespace Go.Proofs.YtcnimimffiiimaaGreatDoor.TT
open Go Go.AM
noncomputable def YB (f:FuncId)(args:List d9)(m:Mem):eO:=bi (Nat.beq f 86) (BA args m) (bi (Nat.beq f 240) (lS args m) none)
theorem Py {base:Mem}(hb:∃BI,Di base BI)(a:Tryz.prog.follows .mixedOrders=true){f:FuncId}{args:List d9}{m:Mem}{outs:List VM}(h:YB f args m=some outs):
  zm Tryz.prog f∧∀{Q:H6} {w:World},RM Tryz.prog base Q m w.heap->X0 (m.nm Q) args->CallsIn Fence.wide 0 Tryz.prog f (o9 Q args).toArray w (O0 Tryz.prog base Q m w outs):=by
 have b:Un Tryz.prog ⟨fns,base,λ_ _ _=>none,λ_ _ _=>none⟩:=⟨a,Oe,hb,(λ_ _ _ _ h=>by cases h),(λh=>by cases h)⟩;unfold YB at h;cases h1:Nat.beq f 86 with
 | true=>rw [h1] at h;obtain rfl:=aP h1;exact UC b (show fns 86=some Uy from rfl) (λ_ _=>rfl) h
 | false=>
  rw [h1] at h;cases h2:Nat.beq f 240 with
  | true=>rw [h2] at h;obtain rfl:=aP h2;exact Yj b (show fns 240=some (IV 231 229 238) from rfl) (show fns 231=some BF from rfl) (show fns 229=some IW from rfl) (show fns 238=some (RA 93) from rfl) (show fns 93=some yE from rfl) (λ_ _ _=>rfl) h
  | false=>rw [h2] at h;cases h
end Go.Proofs.YtcnimimffiiimaaGreatDoor.TT
namespace Go.Proofs
open Go.Shelf
def Tryz.AB:Go.Shelf.Ren:=⟨fun | 156=>183 | 165=>179 | 166=>90 | 169=>92 | 240=>181 | 241=>227 | 276=>228 | 277=>303 | n=>n,fun | 31=>100 | 9=>9 | 3=>3 | 4=>4 | 0=>0 | 20=>20 | 72=>135 | 76=>139 | 70=>132 | 37=>133 | 75=>138 | 127=>240 | 164=>286 | 5=>5 | 80=>142 | n=>n,fun | n=>n⟩
theorem Tryz.Jb:Go.Proofs.Lays.n156 Tryz.prog Tryz.AB:={
 mixed:=by kernel_rfl
 f156:=Tryz.func183.trans (congrArg some (by kernel_rfl))
 f165:=Tryz.func179.trans (congrArg some (by kernel_rfl))
 f166:=Tryz.func90.trans (congrArg some (by kernel_rfl))
 f169:=Tryz.func92.trans (congrArg some (by kernel_rfl))
 f240:=Tryz.func181.trans (congrArg some (by kernel_rfl))
 f241:=Tryz.func227.trans (congrArg some (by kernel_rfl))
 f276:=Tryz.func228.trans (congrArg some (by kernel_rfl))
 f277:=Tryz.func303.trans (congrArg some (by kernel_rfl))
 t0:=Tryz.underlying0
 a0:=Tryz.isAgg0
 z0:=Tryz.sizeOf0
 v0:=Tryz.zeroValue0
 t3:=Tryz.underlying3
 a3:=Tryz.isAgg3
 z3:=Tryz.sizeOf3
 v3:=Tryz.zeroValue3
 t4:=Tryz.underlying4
 a4:=Tryz.isAgg4
 z4:=Tryz.sizeOf4
 v4:=Tryz.zeroValue4
 t9:=Tryz.underlying9
 a9:=Tryz.isAgg9
 z9:=Tryz.sizeOf9
 v9:=Tryz.zeroValue9
 t20:=Tryz.underlying20
 a20:=Tryz.isAgg20
 z20:=Tryz.sizeOf20
 v20:=Tryz.zeroValue20
 t31:=Tryz.underlying100
 a31:=Tryz.isAgg100
 z31:=Tryz.sizeOf100
 v31:=Tryz.zeroValue100
 t37:=Tryz.underlying133
 a37:=Tryz.isAgg133
 z37:=Tryz.sizeOf133
 v37:=Tryz.zeroValue133
 t70:=Tryz.underlying132
 a70:=Tryz.isAgg132
 z70:=Tryz.sizeOf132
 v70:=Tryz.zeroValue132
 t72:=Tryz.underlying135
 a72:=Tryz.isAgg135
 z72:=Tryz.sizeOf135
 v72:=Tryz.zeroValue135
 t75:=Tryz.underlying138
 a75:=Tryz.isAgg138
 z75:=Tryz.sizeOf138
 v75:=Tryz.zeroValue138
 t76:=Tryz.underlying139
 a76:=Tryz.isAgg139
 z76:=Tryz.sizeOf139
 v76:=Tryz.zeroValue139
 t127:=Tryz.underlying240
 a127:=Tryz.isAgg240
 z127:=Tryz.sizeOf240
 v127:=Tryz.zeroValue240
 t164:=Tryz.underlying286
 a164:=Tryz.isAgg286
 z164:=Tryz.sizeOf286
 v164:=Tryz.zeroValue286}
theorem Tryz.jk:Builder.Extra Tryz.prog Tryz.AB:={
 sizeBuilder:=by kernel_rfl
 liesBuilder:=by kernel_rfl
 t5:=Tryz.underlying5
 a5:=Tryz.isAgg5
 z5:=Tryz.sizeOf5
 v5:=Tryz.zeroValue5
 infoByte:=by kernel_rfl
 cellsByte:=by kernel_rfl
 sizeByte:=by kernel_rfl
 neB5:=by decide}
open Go.RowKit in
theorem Tryz.strings_Join_none (a:Option Addr)(c:Nat)(b:ByteArray)(w:World):
  Calls Tryz.prog 183 #[.slice a 0 c,.string b] w λe w'=>e=.returned (.string ⟨#[]⟩)∧w'=w:=Any.strings_Join_none Tryz.Jb Tryz.jk a c b w
def Tryz.LG:Go.Shelf.Ren:=⟨fun | 143=>187 | 219=>237 | 217=>308 | 225=>309 | 224=>310 | 267=>311 | 266=>365 | 314=>366 | n=>n,fun | 9=>9 | 3=>3 | 4=>4 | 5=>5 | 46=>233 | 146=>281 | 51=>280 | n=>n,fun | 1=>2 | n=>n⟩
theorem Tryz.YC:Go.Proofs.Lays.n143 Tryz.prog Tryz.LG:={
 mixed:=by kernel_rfl
 f143:=Tryz.func187.trans (congrArg some (by kernel_rfl))
 f217:=Tryz.func308.trans (congrArg some (by kernel_rfl))
 f219:=Tryz.func237.trans (congrArg some (by kernel_rfl))
 f224:=Tryz.func310.trans (congrArg some (by kernel_rfl))
 f225:=Tryz.func309.trans (congrArg some (by kernel_rfl))
 f266:=Tryz.func365.trans (congrArg some (by kernel_rfl))
 f267:=Tryz.func311.trans (congrArg some (by kernel_rfl))
 f314:=Tryz.func366.trans (congrArg some (by kernel_rfl))
 t3:=Tryz.underlying3
 a3:=Tryz.isAgg3
 z3:=Tryz.sizeOf3
 v3:=Tryz.zeroValue3
 t4:=Tryz.underlying4
 a4:=Tryz.isAgg4
 z4:=Tryz.sizeOf4
 v4:=Tryz.zeroValue4
 t5:=Tryz.underlying5
 a5:=Tryz.isAgg5
 z5:=Tryz.sizeOf5
 v5:=Tryz.zeroValue5
 t9:=Tryz.underlying9
 a9:=Tryz.isAgg9
 z9:=Tryz.sizeOf9
 v9:=Tryz.zeroValue9
 t46:=Tryz.underlying233
 a46:=Tryz.isAgg233
 z46:=Tryz.sizeOf233
 v46:=Tryz.zeroValue233
 t51:=Tryz.underlying280
 a51:=Tryz.isAgg280
 z51:=Tryz.sizeOf280
 v51:=Tryz.zeroValue280
 t146:=Tryz.underlying281
 a146:=Tryz.isAgg281
 z146:=Tryz.sizeOf281
 v146:=Tryz.zeroValue281
 g1:=by kernel_rfl}
open Go.RowKit Go.Lib in
theorem Tryz.strings_Index_one (s:ByteArray)(c:UInt8)(w:World):
  Calls Tryz.prog 187 #[.string s,.string ⟨#[c]⟩] w λe w'=>e=.returned (.int .i64 (Lib.indexByte s.data.toList c))∧w'=w:=Any.strings_Index_one Tryz.YC s c w
def Tryz.LH:Go.Shelf.Ren:=⟨fun | 144=>98 | 143=>187 | 219=>237 | 217=>308 | 225=>309 | 224=>310 | 267=>311 | 266=>365 | 314=>366 | n=>n,fun | 9=>9 | 4=>4 | 3=>3 | 5=>5 | 46=>233 | 146=>281 | 51=>280 | n=>n,fun | 1=>2 | n=>n⟩
theorem Tryz.YD:Go.Proofs.Lays.n144 Tryz.prog Tryz.LH:={
 mixed:=by kernel_rfl
 f143:=Tryz.func187.trans (congrArg some (by kernel_rfl))
 f144:=Tryz.func98.trans (congrArg some (by kernel_rfl))
 f217:=Tryz.func308.trans (congrArg some (by kernel_rfl))
 f219:=Tryz.func237.trans (congrArg some (by kernel_rfl))
 f224:=Tryz.func310.trans (congrArg some (by kernel_rfl))
 f225:=Tryz.func309.trans (congrArg some (by kernel_rfl))
 f266:=Tryz.func365.trans (congrArg some (by kernel_rfl))
 f267:=Tryz.func311.trans (congrArg some (by kernel_rfl))
 f314:=Tryz.func366.trans (congrArg some (by kernel_rfl))
 t3:=Tryz.underlying3
 a3:=Tryz.isAgg3
 z3:=Tryz.sizeOf3
 v3:=Tryz.zeroValue3
 t4:=Tryz.underlying4
 a4:=Tryz.isAgg4
 z4:=Tryz.sizeOf4
 v4:=Tryz.zeroValue4
 t5:=Tryz.underlying5
 a5:=Tryz.isAgg5
 z5:=Tryz.sizeOf5
 v5:=Tryz.zeroValue5
 t9:=Tryz.underlying9
 a9:=Tryz.isAgg9
 z9:=Tryz.sizeOf9
 v9:=Tryz.zeroValue9
 t46:=Tryz.underlying233
 a46:=Tryz.isAgg233
 z46:=Tryz.sizeOf233
 v46:=Tryz.zeroValue233
 t51:=Tryz.underlying280
 a51:=Tryz.isAgg280
 z51:=Tryz.sizeOf280
 v51:=Tryz.zeroValue280
 t146:=Tryz.underlying281
 a146:=Tryz.isAgg281
 z146:=Tryz.sizeOf281
 v146:=Tryz.zeroValue281
 g1:=by kernel_rfl}
open Go.RowKit Go.Lib in
theorem Tryz.strings_Contains_one (s:ByteArray)(c:UInt8)(w:World):
  Calls Tryz.prog 98 #[.string s,.string ⟨#[c]⟩] w λe w'=>e=.returned (.bool (decide (0<=Lib.indexByte s.data.toList c)))∧w'=w:=Any.strings_Contains_one Tryz.YD s c w
def Tryz.LJ:Go.Shelf.Ren:=⟨fun | 138=>387 | 195=>467 | 218=>469 | 143=>187 | 219=>237 | 217=>308 | 225=>309 | 224=>310 | 267=>311 | 266=>365 | 314=>366 | n=>n,fun | 9=>9 | 3=>3 | 4=>4 | 5=>5 | 0=>0 | 46=>233 | 146=>281 | 51=>280 | n=>n,fun | 1=>2 | n=>n⟩
theorem Tryz.YE:Go.Proofs.Lays.n138 Tryz.prog Tryz.LJ:={
 mixed:=by kernel_rfl
 f138:=Tryz.func387.trans (congrArg some (by kernel_rfl))
 f143:=Tryz.func187.trans (congrArg some (by kernel_rfl))
 f195:=Tryz.func467.trans (congrArg some (by kernel_rfl))
 f217:=Tryz.func308.trans (congrArg some (by kernel_rfl))
 f218:=Tryz.func469.trans (congrArg some (by kernel_rfl))
 f219:=Tryz.func237.trans (congrArg some (by kernel_rfl))
 f224:=Tryz.func310.trans (congrArg some (by kernel_rfl))
 f225:=Tryz.func309.trans (congrArg some (by kernel_rfl))
 f266:=Tryz.func365.trans (congrArg some (by kernel_rfl))
 f267:=Tryz.func311.trans (congrArg some (by kernel_rfl))
 f314:=Tryz.func366.trans (congrArg some (by kernel_rfl))
 t0:=Tryz.underlying0
 a0:=Tryz.isAgg0
 z0:=Tryz.sizeOf0
 v0:=Tryz.zeroValue0
 t3:=Tryz.underlying3
 a3:=Tryz.isAgg3
 z3:=Tryz.sizeOf3
 v3:=Tryz.zeroValue3
 t4:=Tryz.underlying4
 a4:=Tryz.isAgg4
 z4:=Tryz.sizeOf4
 v4:=Tryz.zeroValue4
 t5:=Tryz.underlying5
 a5:=Tryz.isAgg5
 z5:=Tryz.sizeOf5
 v5:=Tryz.zeroValue5
 t9:=Tryz.underlying9
 a9:=Tryz.isAgg9
 z9:=Tryz.sizeOf9
 v9:=Tryz.zeroValue9
 t46:=Tryz.underlying233
 a46:=Tryz.isAgg233
 z46:=Tryz.sizeOf233
 v46:=Tryz.zeroValue233
 t51:=Tryz.underlying280
 a51:=Tryz.isAgg280
 z51:=Tryz.sizeOf280
 v51:=Tryz.zeroValue280
 t146:=Tryz.underlying281
 a146:=Tryz.isAgg281
 z146:=Tryz.sizeOf281
 v146:=Tryz.zeroValue281
 g1:=by kernel_rfl}
open Go.RowKit Go.Lib in
theorem Tryz.strings_Count_one (s:ByteArray)(c:UInt8)(w:World):
  Calls Tryz.prog 387 #[.string s,.string ⟨#[c]⟩] w λe w'=>e=.returned (.int .i64 (Lib.countByte s.data.toList c))∧w'=w:=Any.strings_Count_one Tryz.YE s c w
def Tryz.Jc:Go.Shelf.Ren:=⟨fun | 171=>230 | 243=>304 | 246=>362 | 283=>458 | 284=>459 | 285=>460 | 286=>461 | 129=>417 | 317=>537 | 318=>538 | 319=>539 | 320=>540 | 337=>577 | 338=>578 | n=>n,fun | 3=>3 | 9=>9 | 2=>2 | 4=>4 | 171=>509 | 0=>0 | 53=>283 | 37=>133 | 5=>5 | 173=>511 | 212=>566 | 51=>280 | 20=>20 | 213=>567 | 46=>233 | 232=>624 | 233=>625 | n=>n,fun | 17=>4 | 18=>8 | 19=>9 | n=>n⟩
theorem Tryz.Vk:Go.Proofs.LaysM.n171 Tryz.prog Tryz.Jc:={
 mixed:=by kernel_rfl
 f129:=Tryz.func417.trans (congrArg some (by kernel_rfl))
 f171:=Tryz.func230.trans (congrArg some (by kernel_rfl))
 f243:=Tryz.func304.trans (congrArg some (by kernel_rfl))
 f246:=Tryz.func362.trans (congrArg some (by kernel_rfl))
 f283:=Tryz.func458.trans (congrArg some (by kernel_rfl))
 f284:=Tryz.func459.trans (congrArg some (by kernel_rfl))
 f285:=Tryz.func460.trans (congrArg some (by kernel_rfl))
 f286:=Tryz.func461.trans (congrArg some (by kernel_rfl))
 f317:=Tryz.func537.trans (congrArg some (by kernel_rfl))
 f318:=Tryz.func538.trans (congrArg some (by kernel_rfl))
 f319:=Tryz.func539.trans (congrArg some (by kernel_rfl))
 f320:=Tryz.func540.trans (congrArg some (by kernel_rfl))
 f337:=Tryz.func577.trans (congrArg some (by kernel_rfl))
 f338:=Tryz.func578.trans (congrArg some (by kernel_rfl))
 t0:=Tryz.underlying0
 a0:=Tryz.isAgg0
 z0:=Tryz.sizeOf0
 v0:=Tryz.zeroValue0
 t2:=Tryz.underlying2
 a2:=Tryz.isAgg2
 z2:=Tryz.sizeOf2
 v2:=Tryz.zeroValue2
 t3:=Tryz.underlying3
 a3:=Tryz.isAgg3
 z3:=Tryz.sizeOf3
 v3:=Tryz.zeroValue3
 t4:=Tryz.underlying4
 a4:=Tryz.isAgg4
 z4:=Tryz.sizeOf4
 v4:=Tryz.zeroValue4
 t5:=Tryz.underlying5
 a5:=Tryz.isAgg5
 z5:=Tryz.sizeOf5
 v5:=Tryz.zeroValue5
 t9:=Tryz.underlying9
 a9:=Tryz.isAgg9
 z9:=Tryz.sizeOf9
 v9:=Tryz.zeroValue9
 t20:=Tryz.underlying20
 a20:=Tryz.isAgg20
 z20:=Tryz.sizeOf20
 v20:=Tryz.zeroValue20
 t37:=Tryz.underlying133
 a37:=Tryz.isAgg133
 z37:=Tryz.sizeOf133
 v37:=Tryz.zeroValue133
 t46:=Tryz.underlying233
 a46:=Tryz.isAgg233
 z46:=Tryz.sizeOf233
 v46:=Tryz.zeroValue233
 t51:=Tryz.underlying280
 a51:=Tryz.isAgg280
 z51:=Tryz.sizeOf280
 v51:=Tryz.zeroValue280
 t53:=Tryz.underlying283
 a53:=Tryz.isAgg283
 z53:=Tryz.sizeOf283
 v53:=Tryz.zeroValue283
 t171:=Tryz.underlying509
 a171:=Tryz.isAgg509
 z171:=Tryz.sizeOf509
 v171:=Tryz.zeroValue509
 t173:=Tryz.underlying511
 a173:=Tryz.isAgg511
 z173:=Tryz.sizeOf511
 v173:=Tryz.zeroValue511
 t212:=Tryz.underlying566
 a212:=Tryz.isAgg566
 z212:=Tryz.sizeOf566
 v212:=Tryz.zeroValue566
 t213:=Tryz.underlying567
 a213:=Tryz.isAgg567
 z213:=Tryz.sizeOf567
 t232:=Tryz.underlying624
 a232:=Tryz.isAgg624
 z232:=Tryz.sizeOf624
 v232:=Tryz.zeroValue624
 t233:=Tryz.underlying625
 a233:=Tryz.isAgg625
 z233:=Tryz.sizeOf625
 v233:=Tryz.zeroValue625
 g17:=by kernel_rfl
 g18:=by kernel_rfl
 g19:=by kernel_rfl
 i0:=by kernel_rfl
 i2:=by kernel_rfl
 i3:=by kernel_rfl
 i4:=by kernel_rfl
 i5:=by kernel_rfl
 i9:=by kernel_rfl
 i20:=by kernel_rfl
 i37:=by kernel_rfl
 i46:=by kernel_rfl
 i51:=by kernel_rfl
 i53:=by kernel_rfl
 i171:=by kernel_rfl
 i173:=by kernel_rfl
 i212:=by kernel_rfl
 i232:=by kernel_rfl
 i233:=by kernel_rfl
 m17:=by kernel_rfl
 m18:=by kernel_rfl
 m19:=by kernel_rfl}
open Go.RowKit Go.Sort Go.Lib in
theorem Tryz.strconv_Itoa (n:Int)(h0:-9223372036854775808<=n)(b:n<=9223372036854775807)(w:World)(a:Lib.TabIs Tryz.prog w "internal/strconv.uint64pow10" .u64 Lib.pow10Tab):
  Calls Tryz.prog 230 #[.int .i64 n] w λe w'=>e=.returned (.string ⟨(Lib.itoa n).toArray⟩)∧∃k os,w'=grow (w.drewN k) os:=Any.strconv_Itoa Tryz.Vk n h0 b w a
end Go.Proofs
namespace Go.Proofs.YtcnimimffiiimaaGreatDoor.TT
open Go Go.AM Go.RowKit
noncomputable section
def Vl (f:FuncId)(args:List d9)(bs:List NB):Option AV:=abO 187 387 183 13 f args bs
theorem aaI {v:d9}{off n:Nat}(s:(∃c,v=.slice base.nx off n c∧n<=c)∨∃es,v=.sliceU base.nx off n es){rows l:List (List d9)}{f:List (List UInt8)}{b:List UInt8}(r:n<1000000)
  (q:takeN n (jX off rows)=some l) (t:zD l=some f) (d:(fK b f).length<1000000):jh Tryz.prog base 183 [v,.str b] [.cells 1 rows] ⟨.str (fK b f),[]⟩:=
 UQ uG.ok (λa c b w=>Tryz.strings_Join_none a c b w) (λe o c x b w h=>Any.strings_Join_one Tryz.Jb Tryz.jk e o c x b w h)
  (λe o c u b w g i j k m p=>Any.strings_Join_many Tryz.Jb Tryz.jk e o c u b w g i j k m p) s r q t d
theorem Pz {f:FuncId}{args:List d9}{m:List NB}{a:AV}(h:Vl f args m=some a):jh Tryz.prog base f args m a:=by
 unfold Vl abO at h;cases h1:Nat.beq f 187 with
 | true=>
  rw [h1,U0] at h;obtain rfl:=aP h1;split at h;rename_i s c;cases hb:Nat.blt (len' s) 1000000 with
  | true=>rw [hb] at h;cases h;exact RH (λs c w=>Tryz.strings_Index_one s c w) s c
  | false=>rw [hb] at h;cases h
  cases h
 | false=>
  rw [h1,O6] at h;cases h2:Nat.beq f 387 with
  | true=>
   rw [h2,U0] at h;obtain rfl:=aP h2;split at h;rename_i s c;cases hb:Nat.blt (len' s) 1000000 with
   | true=>rw [hb] at h;cases h;exact RI (λs c w=>Tryz.strings_Count_one s c w) s c
   | false=>rw [hb] at h;cases h
   cases h
  | false=>
   rw [h2,O6] at h;cases h3:Nat.beq f 183 with
   | false=>rw [h3] at h;cases h
   | true=>
    rw [h3,U0] at h;obtain rfl:=aP h3;have b:∀{n:Nat},Nat.blt n 1000000=true->n<1000000:=λh=>Xb.mp h;split at h;rename_i v d o;unfold qj at h;split at h;cases h;rename_i id j n c;dsimp only at h;cases b1:Nat.beq id 13 with
    | false=>rw [b1] at h;cases h
    | true=>
     cases b2:Nat.ble n c with
     | false=>rw [b1,b2] at h;cases h
     | true=>
      cases b3:Nat.blt n 1000000 with
      | false=>rw [b1,b2,b3] at h;cases h
      | true=>
       rw [b1,b2,b3] at h;obtain⟨l,g,h⟩:=z8 h;obtain⟨k,i,h⟩:=z8 h;cases b4:Nat.blt (len' (fK d k)) 1000000 with
       | false=>rw [b4] at h;cases h
       | true=>rw [b4] at h;cases h;obtain rfl:=aP b1;exact aaI (.inl ⟨c,rfl,K9 b2⟩) (b b3) g i (by have:=b b4;rwa [I4] at this)
    rename_i id j n p;dsimp only at h;cases b1:Nat.beq id 13 with
    | false=>rw [b1] at h;cases h
    | true=>
     cases b3:Nat.blt n 1000000 with
     | false=>rw [b1,b3] at h;cases h
     | true=>
      rw [b1,b3] at h;obtain⟨l,g,h⟩:=z8 h;obtain⟨k,i,h⟩:=z8 h;cases b4:Nat.blt (len' (fK d k)) 1000000 with
      | false=>rw [b4] at h;cases h
      | true=>rw [b4] at h;cases h;obtain rfl:=aP b1;exact aaI (.inr ⟨p,rfl⟩) (b b3) g i (by have:=b b4;rwa [I4] at this)
    cases h;rename_i d;cases h;exact qc (Yo _ _ _) (λ_=>trivial) (λ_ _=>by simp [l7]) λq w _=>(by refine aeR (Tryz.strings_Join_none none 0 ⟨d.toArray⟩ w) ?_;rintro e w' ⟨rfl,rfl⟩;exact⟨by simp [l7],Below.refl _ _⟩);cases h
open Go Go.AM
def ahL (f:Nat):Bool:=bi (Nat.beq f 187) true (bi (Nat.beq f 387) true (bi (Nat.beq f 183) true (bi (Nat.beq f 18) true (bi (Nat.beq f 53) true (bi (Nat.beq f 15) true (bi (Nat.beq f 20) true (Nat.beq f 21)))))))
def aod (f:Nat):Bool:=bi (Nat.beq f 98) true (Nat.beq f 257)
def reP (b:Bool)(s:M9):M9:=⟨b,s.args,s.nslots,s.results,s.code,s.rcode⟩
def aoe (f:FuncId):Option M9:=ob (fns f) λs=>some (reP (bi (ahL f) true (bi (aod f) false s.pure)) s)
def aof (l:List Sum)(f:FuncId)(args:List d9)(bs:List NB):Option AV:=Option.rec (Vl f args bs) (λa=>some a) (sumOf l f args bs)
def Kt (l:List Sum):Known:=⟨aoe,base,aof l,YB⟩
def BJ (o:Option AV)(a:AV):Bool:=Option.rec false (λb=>bi (dz 100 b.v a.v) (jE b.bs a.bs) false) o
theorem acj {o:Option AV}{a:AV}(h:BJ o a=true):o=some a:=by
 cases o with
 | none=>cases h
 | some b=>
  have h:bi (dz 100 b.v a.v) (jE b.bs a.bs) false=true:=h;cases h1:dz 100 b.v a.v with
  | false=>rw [h1] at h;cases h
  | true=>
   rw [h1] at h;have h:jE b.bs a.bs=true:=h;have c:=iw 100 _ _ h1;have d:=ou _ _ h;cases a;cases b
   simp_all
def aK (s:Sum):Prop:=jh Tryz.prog base s.f s.args s.bs s.a
def Gr:List Sum->Prop
 | []=>True
 | s::l=>aK s∧Gr l
theorem Gr.mem:∀{l:List Sum},Gr l->∀s∈l,aK s
 | [],_,_,h=>by cases h
 | x::l,⟨h1,h2⟩,s,h=>by rcases X4.1 h with rfl | h;exact h1;exact Gr.mem h2 s h
theorem Gs {P:Program}{f:FuncId}{sf:M9}(h:oO P f sf)(b:Bool):oO P f (reP b sf):=⟨h.ok,h.is⟩
theorem ahM {l:List Sum}(i:Gr l):Un Tryz.prog (Kt l):=by
 refine⟨mixed,λf k h=>?_,⟨BI,uG⟩,λf c d a h=>?_,λh=>Py ⟨BI,uG⟩ mixed h⟩;obtain⟨j,e,g⟩:=z8 (show ob (fns f) _=some k from h);cases g;exact Gs (Oe f j e) _;have h:Option.rec (Vl f c d) (λa=>some a) (sumOf l f c d)=some a:=h;cases hs:sumOf l f c d with
 | none=>rw [hs] at h;exact Pz h
 | some b=>rw [hs] at h;cases h;exact wF l i.mem _ _ _ _ hs
theorem run {l:List Sum}{s:Sum}{sf:M9}(b:oO Tryz.prog s.f sf)(c:Gr l)(h:BJ (zW (Kt l) (l9 (Kt l) 100000 1000) 100000 s.f sf s.args s.bs) s.a=true):aK s:=NQ (ahM c) b (acj h)
set_option maxRecDepth 1000000
def q24:Sum:=⟨18,[(.str [108,101,116,32,105,32,61,32,48,59,32,119,104,105,108,101,32,105,32,60,32,51,32,123,32,112,114,105,110,116,32,105,44,32,105,32,42,32,105,59,32,105,32,61,32,105,32,43,32,49,59,32,125])],[],(V [(U 13 0 24 2),(I 0),(J 0)]),[(C 2 [[(I 1),(.str [108,101,116])],[(I 1),(.str [105])],[(I 3),(.str [61])],[(I 2),(.str [48])],[(I 3),(.str [59])],[(I 1),(.str [119,104,105,108,101])],[(I 1),(.str [105])],[(I 3),(.str [60])],[(I 2),(.str [51])],[(I 3),(.str [123])],[(I 1),(.str [112,114,105,110,116])],[(I 1),(.str [105])],[(I 3),(.str [44])],[(I 1),(.str [105])],[(I 3),(.str [42])],[(I 1),(.str [105])],[(I 3),(.str [59])],[(I 1),(.str [105])],[(I 3),(.str [61])],[(I 1),(.str [105])],[(I 3),(.str [43])],[(I 2),(.str [49])],[(I 3),(.str [59])],[(I 3),(.str [125])]])]⟩
def q38:Sum:=⟨18,[(.str [107,110,111,119,110,40,53,41,59,32,103,97,117,103,101,40,51,44,32,48,44,32,49,48,48,48,44,32,45,57,44,32,57,44,32,48,44,32,49,44,32,48,41,59,32,99,111,109,112,97,114,101,40,52,44,32,49,48,48,50,44,32,49,44,32,48,44,32,48,44,32,51,44,32,48,41,59,32,112,114,105,110,116,32,108,111,119,40,51,44,32,57,41,44,32,104,105,103,104,40,51,44,32,57,41,44,32,106,117,100,103,101,40,51,44,32,57,44,32,49,48,48,49,44,32,49,48,48,51,41,44,32,101,114,114,110,111,40,41,59,32,99,114,97,115,104,40,49,41,59,32,112,114,105,110,116,32,102,97,99,116,115,40,41,59,32,114,111,111,109,40,50,41,59,32,112,114,105,110,116,32,102,97,99,116,115,40,41,44,32,108,111,119,40,51,44,32,57,41,44,32,101,114,114,110,111,40,41,59])],[],(V [(U 13 0 103 2),(I 0),(J 0)]),[(C 2 [[(I 1),(.str [107,110,111,119,110])],[(I 3),(.str [40])],[(I 2),(.str [53])],[(I 3),(.str [41])],[(I 3),(.str [59])],[(I 1),(.str [103,97,117,103,101])],[(I 3),(.str [40])],[(I 2),(.str [51])],[(I 3),(.str [44])],[(I 2),(.str [48])],[(I 3),(.str [44])],[(I 2),(.str [49,48,48,48])],[(I 3),(.str [44])],[(I 3),(.str [45])],[(I 2),(.str [57])],[(I 3),(.str [44])],[(I 2),(.str [57])],[(I 3),(.str [44])],[(I 2),(.str [48])],[(I 3),(.str [44])],[(I 2),(.str [49])],[(I 3),(.str [44])],[(I 2),(.str [48])],[(I 3),(.str [41])],[(I 3),(.str [59])],[(I 1),(.str [99,111,109,112,97,114,101])],[(I 3),(.str [40])],[(I 2),(.str [52])],[(I 3),(.str [44])],[(I 2),(.str [49,48,48,50])],[(I 3),(.str [44])],[(I 2),(.str [49])],[(I 3),(.str [44])],[(I 2),(.str [48])],[(I 3),(.str [44])],[(I 2),(.str [48])],[(I 3),(.str [44])],[(I 2),(.str [51])],[(I 3),(.str [44])],[(I 2),(.str [48])],[(I 3),(.str [41])],[(I 3),(.str [59])],[(I 1),(.str [112,114,105,110,116])],[(I 1),(.str [108,111,119])],[(I 3),(.str [40])],[(I 2),(.str [51])],[(I 3),(.str [44])],[(I 2),(.str [57])],[(I 3),(.str [41])],[(I 3),(.str [44])],[(I 1),(.str [104,105,103,104])],[(I 3),(.str [40])],[(I 2),(.str [51])],[(I 3),(.str [44])],[(I 2),(.str [57])],[(I 3),(.str [41])],[(I 3),(.str [44])],[(I 1),(.str [106,117,100,103,101])],[(I 3),(.str [40])],[(I 2),(.str [51])],[(I 3),(.str [44])],[(I 2),(.str [57])],[(I 3),(.str [44])],[(I 2),(.str [49,48,48,49])],[(I 3),(.str [44])],[(I 2),(.str [49,48,48,51])],[(I 3),(.str [41])],[(I 3),(.str [44])],[(I 1),(.str [101,114,114,110,111])],[(I 3),(.str [40])],[(I 3),(.str [41])],[(I 3),(.str [59])],[(I 1),(.str [99,114,97,115,104])],[(I 3),(.str [40])],[(I 2),(.str [49])],[(I 3),(.str [41])],[(I 3),(.str [59])],[(I 1),(.str [112,114,105,110,116])],[(I 1),(.str [102,97,99,116,115])],[(I 3),(.str [40])],[(I 3),(.str [41])],[(I 3),(.str [59])],[(I 1),(.str [114,111,111,109])],[(I 3),(.str [40])],[(I 2),(.str [50])],[(I 3),(.str [41])],[(I 3),(.str [59])],[(I 1),(.str [112,114,105,110,116])],[(I 1),(.str [102,97,99,116,115])],[(I 3),(.str [40])],[(I 3),(.str [41])],[(I 3),(.str [44])],[(I 1),(.str [108,111,119])],[(I 3),(.str [40])],[(I 2),(.str [51])],[(I 3),(.str [44])],[(I 2),(.str [57])],[(I 3),(.str [41])],[(I 3),(.str [44])],[(I 1),(.str [101,114,114,110,111])],[(I 3),(.str [40])],[(I 3),(.str [41])],[(I 3),(.str [59])]])]⟩
def q25:Sum:=⟨53,[(.str [108,101,116,32,105,32,61,32,48,59,32,119,104,105,108,101,32,105,32,60,32,51,32,123,32,112,114,105,110,116,32,105,44,32,105,32,42,32,105,59,32,105,32,61,32,105,32,43,32,49,59,32,125])],[],(V [(U 13 0 2 5),(I 0)]),[(C 5 [[(I 1),(.str [105]),(S 14 0 1 1),Z,Z],[(I 4),(.str []),(S 15 0 1 1),(U 17 0 2 5),Z]]),(C 4 [[(I 1),(I 0),(.str []),Z]]),(C 4 [[(I 11),(I 0),(.str []),(S 16 0 2 2)]]),(C 4 [[(I 2),(I 0),(.str [105]),Z],[(I 1),(I 3),(.str []),Z]]),(C 5 [[(I 5),(.str []),(U 18 0 2 4),Z,Z],[(I 2),(.str [105]),(S 20 0 1 1),Z,Z]]),(C 4 [[(I 2),(I 0),(.str [105]),Z],[(I 6),(I 0),(.str []),(S 19 0 2 2)]]),(C 4 [[(I 2),(I 0),(.str [105]),Z],[(I 2),(I 0),(.str [105]),Z]]),(C 4 [[(I 9),(I 0),(.str []),(S 21 0 2 2)]]),(C 4 [[(I 2),(I 0),(.str [105]),Z],[(I 1),(I 1),(.str []),Z]])]⟩
def q39:Sum:=⟨53,[(.str [107,110,111,119,110,40,53,41,59,32,103,97,117,103,101,40,51,44,32,48,44,32,49,48,48,48,44,32,45,57,44,32,57,44,32,48,44,32,49,44,32,48,41,59,32,99,111,109,112,97,114,101,40,52,44,32,49,48,48,50,44,32,49,44,32,48,44,32,48,44,32,51,44,32,48,41,59,32,112,114,105,110,116,32,108,111,119,40,51,44,32,57,41,44,32,104,105,103,104,40,51,44,32,57,41,44,32,106,117,100,103,101,40,51,44,32,57,44,32,49,48,48,49,44,32,49,48,48,51,41,44,32,101,114,114,110,111,40,41,59,32,99,114,97,115,104,40,49,41,59,32,112,114,105,110,116,32,102,97,99,116,115,40,41,59,32,114,111,111,109,40,50,41,59,32,112,114,105,110,116,32,102,97,99,116,115,40,41,44,32,108,111,119,40,51,44,32,57,41,44,32,101,114,114,110,111,40,41,59])],[],(V [(U 13 0 8 5),(I 0)]),[(C 5 [[(I 6),(.str []),(S 14 0 1 1),Z,Z],[(I 6),(.str []),(S 16 0 1 1),Z,Z],[(I 6),(.str []),(S 19 0 1 1),Z,Z],[(I 5),(.str []),(U 21 0 4 4),Z,Z],[(I 6),(.str []),(S 25 0 1 1),Z,Z],[(I 5),(.str []),(S 27 0 1 1),Z,Z],[(I 6),(.str []),(S 28 0 1 1),Z,Z],[(I 5),(.str []),(U 30 0 3 4),Z,Z]]),(C 4 [[(I 3),(I 0),(.str [107,110,111,119,110]),(S 15 0 1 1)]]),(C 4 [[(I 1),(I 5),(.str []),Z]]),(C 4 [[(I 3),(I 0),(.str [103,97,117,103,101]),(U 17 0 8 4)]]),(C 4 [[(I 1),(I 3),(.str []),Z],[(I 1),(I 0),(.str []),Z],[(I 1),(I 1000),(.str []),Z],[(I 4),(I 0),(.str []),(S 18 0 1 1)],[(I 1),(I 9),(.str []),Z],[(I 1),(I 0),(.str []),Z],[(I 1),(I 1),(.str []),Z],[(I 1),(I 0),(.str []),Z]]),(C 4 [[(I 1),(I 9),(.str []),Z]]),(C 4 [[(I 3),(I 0),(.str [99,111,109,112,97,114,101]),(U 20 0 7 4)]]),(C 4 [[(I 1),(I 4),(.str []),Z],[(I 1),(I 1002),(.str []),Z],[(I 1),(I 1),(.str []),Z],[(I 1),(I 0),(.str []),Z],[(I 1),(I 0),(.str []),Z],[(I 1),(I 3),(.str []),Z],[(I 1),(I 0),(.str []),Z]]),(C 4 [[(I 3),(I 0),(.str [108,111,119]),(U 22 0 2 4)],[(I 3),(I 0),(.str [104,105,103,104]),(U 23 0 2 4)],[(I 3),(I 0),(.str [106,117,100,103,101]),(U 24 0 4 4)],[(I 3),(I 0),(.str [101,114,114,110,111]),Z]]),(C 4 [[(I 1),(I 3),(.str []),Z],[(I 1),(I 9),(.str []),Z]]),(C 4 [[(I 1),(I 3),(.str []),Z],[(I 1),(I 9),(.str []),Z]]),(C 4 [[(I 1),(I 3),(.str []),Z],[(I 1),(I 9),(.str []),Z],[(I 1),(I 1001),(.str []),Z],[(I 1),(I 1003),(.str []),Z]]),(C 4 [[(I 3),(I 0),(.str [99,114,97,115,104]),(S 26 0 1 1)]]),(C 4 [[(I 1),(I 1),(.str []),Z]]),(C 4 [[(I 3),(I 0),(.str [102,97,99,116,115]),Z]]),(C 4 [[(I 3),(I 0),(.str [114,111,111,109]),(S 29 0 1 1)]]),(C 4 [[(I 1),(I 2),(.str []),Z]]),(C 4 [[(I 3),(I 0),(.str [102,97,99,116,115]),Z],[(I 3),(I 0),(.str [108,111,119]),(U 31 0 2 4)],[(I 3),(I 0),(.str [101,114,114,110,111]),Z]]),(C 4 [[(I 1),(I 3),(.str []),Z],[(I 1),(I 9),(.str []),Z]])]⟩
def q26:Sum:=⟨15,[(U 13 0 2 5)],[(C 5 [[(I 1),(.str [105]),(S 14 0 1 1),Z,Z],[(I 4),(.str []),(S 15 0 1 1),(U 17 0 2 5),Z]]),(C 4 [[(I 1),(I 0),(.str []),Z]]),(C 4 [[(I 11),(I 0),(.str []),(S 16 0 2 2)]]),(C 4 [[(I 2),(I 0),(.str [105]),Z],[(I 1),(I 3),(.str []),Z]]),(C 5 [[(I 5),(.str []),(U 18 0 2 4),Z,Z],[(I 2),(.str [105]),(S 20 0 1 1),Z,Z]]),(C 4 [[(I 2),(I 0),(.str [105]),Z],[(I 6),(I 0),(.str []),(S 19 0 2 2)]]),(C 4 [[(I 2),(I 0),(.str [105]),Z],[(I 2),(I 0),(.str [105]),Z]]),(C 4 [[(I 9),(I 0),(.str []),(S 21 0 2 2)]]),(C 4 [[(I 2),(I 0),(.str [105]),Z],[(I 1),(I 1),(.str []),Z]])],(I 0),[]⟩
def q40:Sum:=⟨15,[(U 13 0 8 5)],[(C 5 [[(I 6),(.str []),(S 14 0 1 1),Z,Z],[(I 6),(.str []),(S 16 0 1 1),Z,Z],[(I 6),(.str []),(S 19 0 1 1),Z,Z],[(I 5),(.str []),(U 21 0 4 4),Z,Z],[(I 6),(.str []),(S 25 0 1 1),Z,Z],[(I 5),(.str []),(S 27 0 1 1),Z,Z],[(I 6),(.str []),(S 28 0 1 1),Z,Z],[(I 5),(.str []),(U 30 0 3 4),Z,Z]]),(C 4 [[(I 3),(I 0),(.str [107,110,111,119,110]),(S 15 0 1 1)]]),(C 4 [[(I 1),(I 5),(.str []),Z]]),(C 4 [[(I 3),(I 0),(.str [103,97,117,103,101]),(U 17 0 8 4)]]),(C 4 [[(I 1),(I 3),(.str []),Z],[(I 1),(I 0),(.str []),Z],[(I 1),(I 1000),(.str []),Z],[(I 4),(I 0),(.str []),(S 18 0 1 1)],[(I 1),(I 9),(.str []),Z],[(I 1),(I 0),(.str []),Z],[(I 1),(I 1),(.str []),Z],[(I 1),(I 0),(.str []),Z]]),(C 4 [[(I 1),(I 9),(.str []),Z]]),(C 4 [[(I 3),(I 0),(.str [99,111,109,112,97,114,101]),(U 20 0 7 4)]]),(C 4 [[(I 1),(I 4),(.str []),Z],[(I 1),(I 1002),(.str []),Z],[(I 1),(I 1),(.str []),Z],[(I 1),(I 0),(.str []),Z],[(I 1),(I 0),(.str []),Z],[(I 1),(I 3),(.str []),Z],[(I 1),(I 0),(.str []),Z]]),(C 4 [[(I 3),(I 0),(.str [108,111,119]),(U 22 0 2 4)],[(I 3),(I 0),(.str [104,105,103,104]),(U 23 0 2 4)],[(I 3),(I 0),(.str [106,117,100,103,101]),(U 24 0 4 4)],[(I 3),(I 0),(.str [101,114,114,110,111]),Z]]),(C 4 [[(I 1),(I 3),(.str []),Z],[(I 1),(I 9),(.str []),Z]]),(C 4 [[(I 1),(I 3),(.str []),Z],[(I 1),(I 9),(.str []),Z]]),(C 4 [[(I 1),(I 3),(.str []),Z],[(I 1),(I 9),(.str []),Z],[(I 1),(I 1001),(.str []),Z],[(I 1),(I 1003),(.str []),Z]]),(C 4 [[(I 3),(I 0),(.str [99,114,97,115,104]),(S 26 0 1 1)]]),(C 4 [[(I 1),(I 1),(.str []),Z]]),(C 4 [[(I 3),(I 0),(.str [102,97,99,116,115]),Z]]),(C 4 [[(I 3),(I 0),(.str [114,111,111,109]),(S 29 0 1 1)]]),(C 4 [[(I 1),(I 2),(.str []),Z]]),(C 4 [[(I 3),(I 0),(.str [102,97,99,116,115]),Z],[(I 3),(I 0),(.str [108,111,119]),(U 31 0 2 4)],[(I 3),(I 0),(.str [101,114,114,110,111]),Z]]),(C 4 [[(I 1),(I 3),(.str []),Z],[(I 1),(I 9),(.str []),Z]])],(I 0),[]⟩
def q30:Sum:=⟨21,[(.str [108,101,116,32,105,32,61,32,48,59,32,119,104,105,108,101,32,105,32,60,32,51,32,123,32,112,114,105,110,116,32,105,44,32,105,32,42,32,105,59,32,105,32,61,32,105,32,43,32,49,59,32,125]),(I 5)],[],(A [(.str [48,32,48,10]),(I 5),(I 2)]),[]⟩
def q29:Sum:=⟨21,[(.str [108,101,116,32,105,32,61,32,48,59,32,119,104,105,108,101,32,105,32,60,32,51,32,123,32,112,114,105,110,116,32,105,44,32,105,32,42,32,105,59,32,105,32,61,32,105,32,43,32,49,59,32,125]),(I 100)],[],(A [(.str [48,32,48,10,49,32,49,10,50,32,52,10]),(I 12),(I 0)]),[]⟩
def q99:Sum:=⟨21,[(.str [107,110,111,119,110,40,53,41,59,32,103,97,117,103,101,40,51,44,32,48,44,32,49,48,48,48,44,32,45,57,44,32,57,44,32,48,44,32,49,44,32,48,41,59,32,99,111,109,112,97,114,101,40,52,44,32,49,48,48,50,44,32,49,44,32,48,44,32,48,44,32,51,44,32,48,41,59,32,112,114,105,110,116,32,108,111,119,40,51,44,32,57,41,44,32,104,105,103,104,40,51,44,32,57,41,44,32,106,117,100,103,101,40,51,44,32,57,44,32,49,48,48,49,44,32,49,48,48,51,41,44,32,101,114,114,110,111,40,41,59,32,99,114,97,115,104,40,49,41,59,32,112,114,105,110,116,32,102,97,99,116,115,40,41,59,32,114,111,111,109,40,50,41,59,32,112,114,105,110,116,32,102,97,99,116,115,40,41,44,32,108,111,119,40,51,44,32,57,41,44,32,101,114,114,110,111,40,41,59]),(I 100)],[],(A [(.str [49,48,48,49,32,49,48,48,51,32,49,32,48,10,49,10,48,32,48,32,53,10]),(I 21),(I 0)]),[]⟩
def q18:Sum:=⟨20,[(.str [112,114,105,110,116,32,45,40,49,43,50,41,32,42,32,51,59])],[],(.str [112,114,105,110,116,32,45,57,59,10]),[]⟩
def q43:Sum:=⟨295,[(A [(I 0),(I 0),(S 13 0 1 1),Z,Z,Z,Z])],[(C 8 [[(I 3),(I 0),(I 1000),(J 8),(I 9),(I 0),(I 1),(I 0)]])],(I 0),[]⟩
def q44:Sum:=⟨253,[(A [(I 1),(I 1),(I 5),(I 2),(I 0),(I 0),(I 3),(I 0),(I 1000),(J 8),(I 9),(I 0),(I 1),(I 0),(I 0),(I 0),(I 0),(I 0),(I 0),(I 0),(I 0),(I 0),Z,Z,(I 0),(I 0),(I 0),(I 0),(I 0),Z,(I 0),(I 0)])],[],tt,[]⟩
def q50:Sum:=⟨253,[(A [(I 1),(I 2),(I 5),(I 5),(I 0),(I 0),(I 0),(I 0),(I 0),(I 0),(I 0),(I 0),(I 0),(I 0),(I 0),(I 0),(I 0),(I 0),(I 0),(I 0),(I 0),(I 4),(U 13 0 1 1),Z,(I 1002),(I 1),(I 0),(I 0),(I 0),Z,(I 0),(I 0)])],[(C 1 [[(I 3)]])],tt,[]⟩
def q55:Sum:=⟨220,[(U 13 0 2 32),(I 5)],[(C 32 [[(I 1),(I 1),(I 5),(I 2),(I 0),(I 0),(I 3),(I 0),(I 1000),(J 8),(I 9),(I 0),(I 1),(I 0),(I 0),(I 0),(I 0),(I 0),(I 0),(I 0),(I 0),(I 0),Z,Z,(I 0),(I 0),(I 0),(I 0),(I 0),Z,(I 0),(I 0)],[(I 1),(I 2),(I 5),(I 5),(I 0),(I 0),(I 0),(I 0),(I 0),(I 0),(I 0),(I 0),(I 0),(I 0),(I 0),(I 0),(I 0),(I 0),(I 0),(I 0),(I 0),(I 4),(U 14 0 1 1),Z,(I 1002),(I 1),(I 0),(I 0),(I 0),Z,(I 0),(I 0)]]),(C 1 [[(I 3)]])],(A [(I 0),(I 0),(U 15 0 1 8),Z,Z,(U 16 0 1 8),Z,Z]),[(C 8 [[(I 3),(I 0),(I 1000),(J 8),(I 9),(I 0),(I 1),(I 0)]]),(C 8 [[(I 102),(I 4),(U 17 0 1 1),Z,(I 1002),(I 1),(I 0),(I 0)]]),(C 1 [[(I 3)]])]⟩
def q58:Sum:=⟨295,[(A [(I 0),(I 0),(U 13 0 1 8),Z,Z,(U 14 0 1 8),Z])],[(C 8 [[(I 3),(I 0),(I 1000),(J 8),(I 9),(I 0),(I 1),(I 0)]]),(C 8 [[(I 102),(I 4),(U 15 0 1 1),Z,(I 1002),(I 1),(I 0),(I 0)]]),(C 1 [[(I 3)]])],(I 0),[]⟩
def q62:Sum:=⟨356,[(A [(I 0),(I 0),(U 13 0 1 8),Z,Z,(U 14 0 1 8),Z])],[(C 8 [[(I 3),(I 0),(I 1000),(J 8),(I 9),(I 0),(I 1),(I 0)]]),(C 8 [[(I 102),(I 4),(U 15 0 1 1),Z,(I 1002),(I 1),(I 0),(I 0)]]),(C 1 [[(I 3)]])],(V [(A [(I 3),(U 16 0 6 3)]),(U 17 0 6 2),(I 0)]),[(C 3 [[(I 0),(I 1),(I 1009)],[(I 1),(I 0),(J 990)],[(I 1),(I 2),(I 0)],[(I 2),(I 1),(I 0)],[(I 0),(I 2),(I 1003)],[(I 2),(I 0),(J 1000)]]),(C 2 [[(I 1),(I 0)],[(I 1),(I 0)],[(I 2),(I 0)],[(I 2),(I 0)],[(I 3),(I 0)],[(I 3),(I 0)]])]⟩
def q63:Sum:=⟨453,[(A [(I 3),(U 13 0 6 3)])],[(C 3 [[(I 0),(I 1),(I 1009)],[(I 1),(I 0),(J 990)],[(I 1),(I 2),(I 0)],[(I 2),(I 1),(I 0)],[(I 0),(I 2),(I 1003)],[(I 2),(I 0),(J 1000)]])],(V [(I 0),(J 0)]),[]⟩
def q64:Sum:=⟨454,[(A [(I 3),(U 13 0 6 3)]),.nilMap],[(C 3 [[(I 0),(I 1),(I 1009)],[(I 1),(I 0),(J 990)],[(I 1),(I 2),(I 0)],[(I 2),(I 1),(I 0)],[(I 0),(I 2),(I 1003)],[(I 2),(I 0),(J 1000)]])],(V [(S 14 0 3 3),tt]),[(C 1 [[(I 0)],[(I 1001)],[(I 1001)]])]⟩
def q69:Sum:=⟨295,[(A [(I 0),(I 0),(U 13 0 1 8),Z,Z,(U 14 0 1 8),(U 16 0 1 2)])],[(C 8 [[(I 3),(I 0),(I 1000),(J 8),(I 9),(I 0),(I 1),(I 0)]]),(C 8 [[(I 102),(I 4),(U 15 0 1 1),Z,(I 1002),(I 1),(I 0),(I 0)]]),(C 1 [[(I 3)]]),(C 2 [[(I 3),(I 9)]])],(I 0),[]⟩
def q72:Sum:=⟨356,[(A [(I 0),(I 0),(U 13 0 1 8),Z,Z,(U 14 0 1 8),(U 16 0 1 2)])],[(C 8 [[(I 3),(I 0),(I 1000),(J 8),(I 9),(I 0),(I 1),(I 0)]]),(C 8 [[(I 102),(I 4),(U 15 0 1 1),Z,(I 1002),(I 1),(I 0),(I 0)]]),(C 1 [[(I 3)]]),(C 2 [[(I 3),(I 9)]])],(V [(A [(I 4),(U 17 0 8 3)]),(U 18 0 8 2),(I 0)]),[(C 3 [[(I 0),(I 1),(I 1009)],[(I 1),(I 0),(J 990)],[(I 1),(I 2),(I 0)],[(I 2),(I 1),(I 0)],[(I 2),(I 3),(I 0)],[(I 3),(I 2),(I 0)],[(I 0),(I 2),(I 1003)],[(I 2),(I 0),(J 1000)]]),(C 2 [[(I 1),(I 0)],[(I 1),(I 0)],[(I 2),(I 0)],[(I 2),(I 0)],[(I 2),(I 0)],[(I 2),(I 0)],[(I 3),(I 0)],[(I 3),(I 0)]])]⟩
def q73:Sum:=⟨453,[(A [(I 4),(U 13 0 8 3)])],[(C 3 [[(I 0),(I 1),(I 1009)],[(I 1),(I 0),(J 990)],[(I 1),(I 2),(I 0)],[(I 2),(I 1),(I 0)],[(I 2),(I 3),(I 0)],[(I 3),(I 2),(I 0)],[(I 0),(I 2),(I 1003)],[(I 2),(I 0),(J 1000)]])],(V [(I 0),(J 0)]),[]⟩
def q74:Sum:=⟨454,[(A [(I 4),(U 13 0 8 3)]),.nilMap],[(C 3 [[(I 0),(I 1),(I 1009)],[(I 1),(I 0),(J 990)],[(I 1),(I 2),(I 0)],[(I 2),(I 1),(I 0)],[(I 2),(I 3),(I 0)],[(I 3),(I 2),(I 0)],[(I 0),(I 2),(I 1003)],[(I 2),(I 0),(J 1000)]])],(V [(S 14 0 4 4),tt]),[(C 1 [[(I 0)],[(I 1001)],[(I 1001)],[(I 1001)]])]⟩
def q75:Sum:=⟨547,[(A [(I 4),(U 13 0 8 3)]),.nilMap,(I 0)],[(C 3 [[(I 0),(I 1),(I 1009)],[(I 1),(I 0),(J 990)],[(I 1),(I 2),(I 0)],[(I 2),(I 1),(I 0)],[(I 2),(I 3),(I 0)],[(I 3),(I 2),(I 0)],[(I 0),(I 2),(I 1003)],[(I 2),(I 0),(J 1000)]])],(S 14 0 4 4),[(C 1 [[(I 0)],[(I 1003)],[(I 1003)],[(I 1003)]])]⟩
def q76:Sum:=⟨547,[(A [(I 4),(U 13 0 8 3)]),.nilMap,(I 1)],[(C 3 [[(I 0),(I 1),(I 1009)],[(I 1),(I 0),(J 990)],[(I 1),(I 2),(I 0)],[(I 2),(I 1),(I 0)],[(I 2),(I 3),(I 0)],[(I 3),(I 2),(I 0)],[(I 0),(I 2),(I 1003)],[(I 2),(I 0),(J 1000)]])],(S 14 0 4 4),[(C 1 [[(J 1000)],[(I 0)],[(I 0)],[(I 0)]])]⟩
def q77:Sum:=⟨547,[(A [(I 4),(U 13 0 8 3)]),.nilMap,(I 2)],[(C 3 [[(I 0),(I 1),(I 1009)],[(I 1),(I 0),(J 990)],[(I 1),(I 2),(I 0)],[(I 2),(I 1),(I 0)],[(I 2),(I 3),(I 0)],[(I 3),(I 2),(I 0)],[(I 0),(I 2),(I 1003)],[(I 2),(I 0),(J 1000)]])],(S 14 0 4 4),[(C 1 [[(J 1000)],[(I 0)],[(I 0)],[(I 0)]])]⟩
def q78:Sum:=⟨547,[(A [(I 4),(U 13 0 8 3)]),.nilMap,(I 3)],[(C 3 [[(I 0),(I 1),(I 1009)],[(I 1),(I 0),(J 990)],[(I 1),(I 2),(I 0)],[(I 2),(I 1),(I 0)],[(I 2),(I 3),(I 0)],[(I 3),(I 2),(I 0)],[(I 0),(I 2),(I 1003)],[(I 2),(I 0),(J 1000)]])],(S 14 0 4 4),[(C 1 [[(J 1000)],[(I 0)],[(I 0)],[(I 0)]])]⟩
def q80:Sum:=⟨270,[(A [(I 0),(I 0),(U 13 0 1 8),Z,Z,(U 14 0 1 8),Z,Z]),(I 3),(I 9)],[(C 8 [[(I 3),(I 0),(I 1000),(J 8),(I 9),(I 0),(I 1),(I 0)]]),(C 8 [[(I 102),(I 4),(U 15 0 1 1),Z,(I 1002),(I 1),(I 0),(I 0)]]),(C 1 [[(I 3)]])],(V [(U 16 0 1 3),(I 0)]),[(C 3 [[(I 3),(I 1001),(I 1003)]])]⟩
def q87:Sum:=⟨274,[(A [(I 0),(I 0),(U 13 0 1 8),Z,Z,(U 14 0 1 8),Z]),(A [(I 3),(I 9)]),(A [(I 1001),(I 1003)])],[(C 8 [[(I 3),(I 0),(I 1000),(J 8),(I 9),(I 0),(I 1),(I 0)]]),(C 8 [[(I 102),(I 4),(U 15 0 1 1),Z,(I 1002),(I 1),(I 0),(I 0)]]),(C 1 [[(I 3)]])],(V [(I 1),(I 0)]),[]⟩
def q92:Sum:=⟨220,[Z,(I 5)],[],(A [(I 0),(I 0),Z,Z,Z,Z,Z,Z]),[]⟩
end
end Go.Proofs.YtcnimimffiiimaaGreatDoor.TT

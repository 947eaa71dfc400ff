/- The tables: functions of the program, their code computed from it; no condition. -/
import Derived.Test.YtfnlnpllpfhhnaaGreatDoorQB6
import Derived.KernelRfl
import Derived.Test.YtfnlnpllpfhhnaaGreatDoorProg
set_option linter.all false
namespace Go.Proofs.YtfnlnpllpfhhnaaGreatDoor.TT
open Go Go.AM
set_option maxRecDepth 100000
attribute [local irreducible] aS L8 sj jd sM bg gH gL gR G7 sH sL sR gF Hu Hw IK Hy BK Lc iOr Ld oK EY Ze YK YL Zf YM eH EZ Zg Zh sLe sGt sGe Ba iC mR dS qV dY gT eF bF nX iF CZ Le IW Gq VA Fa IX xG qW Bb nY tQ H8 xH Bc jY jE tT uK pExt HV xI Lf SX jQ Q0 X9 kS aT tX qd qX I8 tY iG jF PU iH mV tZ Bd lu Bf xK qY jy qZ nZ IZ bK vM K5 rcR bL KZ HY nO rcE uM gP jW gLk gE sP lJ xq Fg dcL Bg Ik Zl ghP PX kW bM qh mX dx oo kI qj ru nR oL
set_option maxHeartbeats 4000000
noncomputable section
def f138:L6:={c:=_:J6 (fE 138 [])}.c
theorem aoa:R9 138 f138:=K9 138
def f139:L6:={c:=_:J6 (fE 139 [])}.c
theorem aob:R9 139 f139:=K9 139
def f140:L6:={c:=_:J6 (fE 140 [])}.c
theorem aoc:R9 140 f140:=K9 140
def f141:L6:={c:=_:J6 (fE 141 [])}.c
theorem aod:R9 141 f141:=K9 141
def f142:L6:={c:=_:J6 (fE 142 [])}.c
theorem aoe:R9 142 f142:=K9 142
def uE:SC:={c:=_:J6 (lE 143 0 [])}.c
attribute [local irreducible] uE
def f143:L6:={c:=_:J6 (fE 143 [uE])}.c
theorem aof:R9 143 f143:=K9 143
def f144:L6:={c:=_:J6 (fE 144 [])}.c
theorem aog:R9 144 f144:=K9 144
def f145:L6:=⟨false,[some 0],3,[.tmp 2],dx (bM (KZ (qX (G7 gH)) (sL sH) (vM (eF (bg ff)) (sR sH) bK))) (dx (mX 0 (lJ (H8 30 (G7 (gL gH))) gF (lJ (H8 0 L8) gF (xq (Q0 L8) 0 gF (PX (jy 38 [L8,(bg (d9.int .i64 (Int.ofNat 1))),(bg (d9.int .i64 (Int.ofNat 6)))]) Ik gF (lJ (eF L8) gF (lJ (gP L8 true (H8 30 (G7 (gL gH)))) gF (lJ (gP sj true (H8 1 L8)) gF (xq (jW jd true (Q0 L8)) 0 gF (PX (gE sM true (jy 38 [L8,(bg (d9.int .i64 (Int.ofNat 1))),(bg (d9.int .i64 (Int.ofNat 60)))])) Ik gF (lJ (bF (aS 4) L8 (bg ff)) gF (lJ (eF L8) gF (xq (jW L8 true (X9 32 (G7 (gL gH)))) 0 gF (PX (gE sj true (jy 51 [L8])) Ik gF (lJ (gP jd true (H8 30 (G7 (gL gH)))) gF (xq (jW sM true (X9 2 L8)) 1 gF (lJ (gP (aS 4) true (VA (dS [.i,.i]) L8 jd)) gF (lJ (bF (aS 5) L8 (bg ff)) gF (lJ (eF L8) (sR sH) sP))))))))))))))))))) nR),none⟩
theorem aoh:R9 145 f145:=K9 145
def f146:L6:={c:=_:J6 (fE 146 [])}.c
theorem aoi:R9 146 f146:=K9 146
def f147:L6:={c:=_:J6 (fE 147 [])}.c
theorem aoj:R9 147 f147:=K9 147
def f148:L6:={c:=_:J6 (fE 148 [])}.c
theorem aok:R9 148 f148:=K9 148
def f149:L6:={c:=_:J6 (fE 149 [])}.c
theorem aol:R9 149 f149:=K9 149
def f150:L6:={c:=_:J6 (fE 150 [])}.c
theorem aom:R9 150 f150:=K9 150
def f151:L6:={c:=_:J6 (fE 151 [])}.c
theorem aon:R9 151 f151:=K9 151
def f152:L6:={c:=_:J6 (fE 152 [])}.c
theorem aoo:R9 152 f152:=K9 152
def f153:L6:={c:=_:J6 (fE 153 [])}.c
theorem aop:R9 153 f153:=K9 153
def f154:L6:={c:=_:J6 (fE 154 [])}.c
theorem aoq:R9 154 f154:=K9 154
def f155:L6:={c:=_:J6 (fE 155 [])}.c
theorem aor:R9 155 f155:=K9 155
def f156:L6:={c:=_:J6 (fE 156 [])}.c
theorem aos:R9 156 f156:=K9 156
def f157:L6:={c:=_:J6 (fE 157 [])}.c
theorem aot:R9 157 f157:=K9 157
def f158:L6:={c:=_:J6 (fE 158 [])}.c
theorem aou:R9 158 f158:=K9 158
def rO:SC:={c:=_:J6 (lE 159 0 [])}.c
attribute [local irreducible] rO
def f159:L6:={c:=_:J6 (fE 159 [rO])}.c
theorem aov:R9 159 f159:=K9 159
def f160:L6:={c:=_:J6 (fE 160 [])}.c
theorem aow:R9 160 f160:=K9 160
def f161:L6:={c:=_:J6 (fE 161 [])}.c
theorem aox:R9 161 f161:=K9 161
def f162:L6:={c:=_:J6 (fE 162 [])}.c
theorem aoy:R9 162 f162:=K9 162
def f163:L6:={c:=_:J6 (fE 163 [])}.c
theorem aoz:R9 163 f163:=K9 163
def f166:L6:={c:=_:J6 (fE 166 [])}.c
theorem aoA:R9 166 f166:=K9 166
def f167:L6:={c:=_:J6 (fE 167 [])}.c
theorem aoB:R9 167 f167:=K9 167
def f168:L6:={c:=_:J6 (fE 168 [])}.c
theorem aoC:R9 168 f168:=K9 168
def Ud:SC:={c:=_:J6 (lE 169 0 [])}.c
attribute [local irreducible] Ud
def f169:L6:={c:=_:J6 (fE 169 [Ud])}.c
theorem aoD:R9 169 f169:=K9 169
def OL:SC:={c:=_:J6 (lE 170 0 [])}.c
attribute [local irreducible] OL
def Ue:SC:={c:=_:J6 (lE 170 1 [OL])}.c
attribute [local irreducible] Ue
def Uf:SC:={c:=_:J6 (lE 170 2 [OL,Ue])}.c
attribute [local irreducible] Uf
def f170:L6:={c:=_:J6 (fE 170 [OL,Ue,Uf])}.c
theorem aoE:R9 170 f170:=K9 170
def zQ:SC:={c:=_:J6 (lE 174 0 [])}.c
attribute [local irreducible] zQ
def Cr:SC:={c:=_:J6 (lE 174 1 [zQ])}.c
attribute [local irreducible] Cr
def FW:SC:={c:=_:J6 (lE 174 2 [zQ,Cr])}.c
attribute [local irreducible] FW
def Kk:SC:={c:=_:J6 (lE 174 3 [zQ,Cr,FW])}.c
attribute [local irreducible] Kk
def OM:SC:={c:=_:J6 (lE 174 4 [zQ,Cr,FW,Kk])}.c
attribute [local irreducible] OM
def Ug:SC:={c:=_:J6 (lE 174 5 [zQ,Cr,FW,Kk,OM])}.c
attribute [local irreducible] Ug
def f174:L6:={c:=_:J6 (fE 174 [zQ,Cr,FW,Kk,OM,Ug])}.c
theorem aoF:R9 174 f174:=K9 174
def Kl:SC:={c:=_:J6 (lE 175 0 [])}.c
attribute [local irreducible] Kl
def OO:SC:={c:=_:J6 (lE 175 1 [Kl])}.c
attribute [local irreducible] OO
def Uh:SC:={c:=_:J6 (lE 175 2 [Kl,OO])}.c
attribute [local irreducible] Uh
def f175:L6:={c:=_:J6 (fE 175 [Kl,OO,Uh])}.c
theorem aoG:R9 175 f175:=K9 175
def f176:L6:={c:=_:J6 (fE 176 [])}.c
theorem aoH:R9 176 f176:=K9 176
def Km:SC:={c:=_:J6 (lE 177 0 [])}.c
attribute [local irreducible] Km
def f177:L6:={c:=_:J6 (fE 177 [Km])}.c
theorem aoI:R9 177 f177:=K9 177
def f180:L6:={c:=_:J6 (fE 180 [])}.c
theorem aoJ:R9 180 f180:=K9 180
def f181:L6:={c:=_:J6 (fE 181 [])}.c
theorem aoK:R9 181 f181:=K9 181
def f182:L6:={c:=_:J6 (fE 182 [])}.c
theorem aoL:R9 182 f182:=K9 182
def f183:L6:={c:=_:J6 (fE 183 [])}.c
theorem aoM:R9 183 f183:=K9 183
def zR:SC:={c:=_:J6 (lE 184 0 [])}.c
attribute [local irreducible] zR
def rP:SC:={c:=_:J6 (lE 184 1 [zR])}.c
attribute [local irreducible] rP
def Ct:SC:={c:=_:J6 (lE 184 2 [zR,rP])}.c
attribute [local irreducible] Ct
def f184:L6:={c:=_:J6 (fE 184 [zR,rP,Ct])}.c
theorem aoN:R9 184 f184:=K9 184
def Ko:SC:={c:=_:J6 (lE 185 0 [])}.c
attribute [local irreducible] Ko
def f185:L6:={c:=_:J6 (fE 185 [Ko])}.c
theorem aoO:R9 185 f185:=K9 185
def f186:L6:={c:=_:J6 (fE 186 [])}.c
theorem aoP:R9 186 f186:=K9 186
def f187:L6:=cT Tryz.prog (mg Tryz.prog 187) true false 187
theorem agR:R9 187 f187:=isQ
def f188:L6:=cT Tryz.prog (mg Tryz.prog 188) false false 188
theorem aoQ:R9 188 f188:=isQ
def aoR:bU 189:={c:=_}
def aoS:bU 190:={c:=_}
def aoT:bU 191:={c:=_}
def aoU:bU 192:={c:=_}
def aoV:bU 193:={c:=_}
def aoW:bU 194:={c:=_}
def f196:L6:=cT Tryz.prog (mg Tryz.prog 196) false false 196
theorem aoX:R9 196 f196:=isQ
def aoY:bU 197:={c:=_}
def aoZ:bU 199:={c:=_}
def ap0:bU 200:={c:=_}
def ap1:bU 201:={c:=_}
def ap2:bU 202:={c:=_}
def ap3:bU 204:={c:=_}
def ap4:bU 205:={c:=_}
def ap5:bU 206:={c:=_}
def ap6:bU 207:={c:=_}
def ap7:bU 208:={c:=_}
def ap8:bU 209:={c:=_}
def Ui:SC:={c:=_:J6 (lE 210 0 [])}.c
attribute [local irreducible] Ui
def f210:L6:={c:=_:J6 (fE 210 [Ui])}.c
theorem ap9:R9 210 f210:=K9 210
def apa:La 211:={c:=_}
def apb:La 212:={c:=_}
def dJ:La 213:={c:=_}
def apc:La 214:={c:=_}
def apd:bU 215:={c:=_}
end
end Go.Proofs.YtfnlnpllpfhhnaaGreatDoor.TT

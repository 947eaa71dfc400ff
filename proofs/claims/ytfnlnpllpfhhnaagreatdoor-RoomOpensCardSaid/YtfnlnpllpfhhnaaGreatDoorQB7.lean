/- The tables: functions of the program, their code computed from it; no condition. -/
import Derived.Test.YtfnlnpllpfhhnaaGreatDoorQB6
import Derived.KernelRfl
import Derived.Test.YtfnlnpllpfhhnaaGreatDoorProg
set_option linter.all false
namespace Go.Proofs.YtfnlnpllpfhhnaaGreatDoor.TT
open Go Go.AM
set_option maxRecDepth 100000
attribute [local irreducible] aS L8 sj jd sM bg gH gL gR G7 sH sL sR gF Hu Hw IK Hy BK Lc iOr Ld oK EY Ze YK YL Zf YM eH EZ Zg Zh sLe sGt sGe Ba iC mR dS qV dY gT eF bF nX iF CZ Le IW Gq VA Fa IX xG qW Bb nY tQ H8 xH Bc jY jE tT uK pExt HV xI Lf SX jQ Q0 X9 kS aT tX qd qX I8 tY iG jF PU iH mV tZ Bd lu Bf xK qY jy qZ nZ IZ bK vM K5 rcR bL KZ HY nO rcE uM gP jW gLk gE sP lJ xq Fg dcL Bg Ik Zl ghP PX kW bM qh mX dx oo kI qj ru nR oL
set_option maxHeartbeats 4000000
noncomputable section
def ape:bU 216:={c:=_}
def f217:L6:={c:=_:J6 (fE 217 [])}.c
theorem apf:R9 217 f217:=K9 217
def apg:bU 218:={c:=_}
def aph:bU 219:={c:=_}
def f220:L6:={c:=_:J6 (fE 220 [])}.c
theorem apj:R9 220 f220:=K9 220
def apk:bU 221:={c:=_}
def apl:bU 222:={c:=_}
def f223:L6:={c:=_:J6 (fE 223 [])}.c
theorem apm:R9 223 f223:=K9 223
def apn:bU 224:={c:=_}
def apo:bU 225:={c:=_}
def apq:bU 226:={c:=_}
def apr:bU 227:={c:=_}
def f228:L6:={c:=_:J6 (fE 228 [])}.c
theorem aps:R9 228 f228:=K9 228
def OP:SC:={c:=_:J6 (lE 229 0 [])}.c
attribute [local irreducible] OP
def f229:L6:={c:=_:J6 (fE 229 [OP])}.c
theorem apt:R9 229 f229:=K9 229
def Uj:SC:={c:=_:J6 (lE 230 0 [])}.c
attribute [local irreducible] Uj
def f230:L6:={c:=_:J6 (fE 230 [Uj])}.c
theorem apu:R9 230 f230:=K9 230
def f231:L6:={c:=_:J6 (fE 231 [])}.c
theorem apv:R9 231 f231:=K9 231
def OQ:SC:={c:=_:J6 (lE 232 0 [])}.c
attribute [local irreducible] OQ
def Uk:SC:={c:=_:J6 (lE 232 1 [OQ])}.c
attribute [local irreducible] Uk
def f232:L6:={c:=_:J6 (fP 232 [OQ,Uk])}.c
theorem apw:R9 232 f232:=isP 232
def apx:bU 233:={c:=_}
def apy:bU 234:={c:=_}
def apz:bU 235:={c:=_}
def apA:bU 236:={c:=_}
def apB:bU 237:={c:=_}
def apC:bU 238:={c:=_}
def f239:L6:={c:=_:J6 (fE 239 [])}.c
theorem apD:R9 239 f239:=K9 239
def f240:L6:={c:=_:J6 (fE 240 [])}.c
theorem apE:R9 240 f240:=K9 240
def apF:bU 241:={c:=_}
def apG:bU 242:={c:=_}
def f243:L6:={c:=_:J6 (fE 243 [])}.c
theorem apH:R9 243 f243:=K9 243
def apI:bU 244:={c:=_}
def f246:L6:={c:=_:J6 (fE 246 [])}.c
theorem apJ:R9 246 f246:=K9 246
def Ul:SC:={c:=_:J6 (lE 250 0 [])}.c
attribute [local irreducible] Ul
def aas:SC:={c:=_:J6 (lE 250 1 [Ul])}.c
attribute [local irreducible] aas
def f250:L6:={c:=_:J6 (fE 250 [Ul,aas])}.c
theorem apK:R9 250 f250:=K9 250
def aat:SC:={c:=_:J6 (lE 256 0 [])}.c
attribute [local irreducible] aat
def f256:L6:={c:=_:J6 (fE 256 [aat])}.c
theorem apL:R9 256 f256:=K9 256
def f257:L6:={c:=_:J6 (fE 257 [])}.c
theorem apM:R9 257 f257:=K9 257
def Cu:SC:={c:=_:J6 (lE 265 0 [])}.c
attribute [local irreducible] Cu
def FX:SC:={c:=_:J6 (lE 265 1 [Cu])}.c
attribute [local irreducible] FX
def f265:L6:={c:=_:J6 (fE 265 [Cu,FX])}.c
theorem apN:R9 265 f265:=K9 265
def qx:SC:={c:=_:J6 (lE 266 0 [])}.c
attribute [local irreducible] qx
def zS:SC:={c:=_:J6 (lE 266 1 [qx])}.c
attribute [local irreducible] zS
def wD:SC:={c:=_:J6 (lE 266 2 [qx,zS])}.c
attribute [local irreducible] wD
def FY:SC:={c:=_:J6 (lE 266 3 [qx,zS,wD])}.c
attribute [local irreducible] FY
def Cv:SC:={c:=_:J6 (lE 266 4 [qx,zS,wD,FY])}.c
attribute [local irreducible] Cv
def f266:L6:={c:=_:J6 (fE 266 [qx,zS,wD,FY,Cv])}.c
theorem apO:R9 266 f266:=K9 266
def f267:L6:={c:=_:J6 (fE 267 [])}.c
theorem apP:R9 267 f267:=K9 267
def f268:L6:=cT Tryz.prog (mg Tryz.prog 268) false false 268
theorem apQ:R9 268 f268:=isQ
def apR:bU 269:={c:=_}
def f270:L6:={c:=_:J6 (fE 270 [])}.c
theorem apS:R9 270 f270:=K9 270
def apT:bU 271:={c:=_}
def apU:bU 272:={c:=_}
def apV:bU 273:={c:=_}
def apW:bU 274:={c:=_}
def apX:bU 275:={c:=_}
def apY:bU 276:={c:=_}
def apZ:bU 277:={c:=_}
def aq0:bU 278:={c:=_}
def aq1:bU 279:={c:=_}
def aq2:bU 280:={c:=_}
def aq3:bU 281:={c:=_}
def aq4:bU 282:={c:=_}
def ajz:SC:=dx (bM (vM (CZ YK Zh (G7 (gR gH)) (G7 (gL (gL gH)))) (sR (sL sH)) bK)) (dx (oo (G7 (gR (gL gH))) kW (ru 0)) (dx (kI 1 (dx (bM (vM (eF (G7 (gR gH))) (sR (sR sH)) bK)) (dx (mX 0 (xq (X9 2 (G7 (gL (gR gH)))) 0 gF (lJ (eF (G7 (gL gH))) gF (lJ (eF (G7 (gR (gR gH)))) gF (lJ (jY 2 sj L8) gF (xq (X9 2 L8) 0 gF (lJ (Gq (dS [.i,.i]) (aS 4) L8) (sL (sL (sL sH))) sP))))))) (oo (G7 (gL (gL (gL gH)))) (dx (bM (vM (eF (G7 (gR (gR gH)))) (sR (sL (sL sH))) bK)) nR) kW)))) (bM (K5 (CZ Hu eH (G7 (gR gH)) (bg (d9.int .i64 (Int.ofNat 1)))) (vM (eF L8) (sR sH) bK)))))
def f283:L6:=⟨false,[some 1,some 0],9,[.tmp 8],dx (bM (KZ (qX (G7 gH)) (sL (sR sH)) (vM (eF (bg (d9.int .i64 (Int.ofNat 0)))) (sR (sL (sL sH))) bK))) (dx (dx (bM (vM (HV (G7 (gL gH))) (sL (sL sH)) (vM (eF (bg (d9.int .i64 (Int.ofNat 0)))) (sR sH) bK))) (kI 0 (qj ajz))) (dx (bM (vM (eF (bg (d9.int .i64 (Int.negSucc 0)))) (sR (sL (sL sH))) bK)) nR)),none⟩
theorem aq5:R9 283 f283:=K9 283
def aq6:bU 284:={c:=_}
def aq7:bU 285:={c:=_}
def aq8:bU 286:={c:=_}
end
end Go.Proofs.YtfnlnpllpfhhnaaGreatDoor.TT

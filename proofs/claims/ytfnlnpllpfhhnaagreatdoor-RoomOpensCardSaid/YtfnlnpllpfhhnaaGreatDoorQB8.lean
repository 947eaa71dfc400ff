/- The tables: functions of the program, their code computed from it; no condition. -/
import Derived.Test.YtfnlnpllpfhhnaaGreatDoorQB6
import Derived.KernelRfl
import Derived.Test.YtfnlnpllpfhhnaaGreatDoorProg
set_option linter.all false
namespace Go.Proofs.YtfnlnpllpfhhnaaGreatDoor.TT
open Go Go.AM
set_option maxRecDepth 100000
attribute [local irreducible] aS L8 sj jd sM bg gH gL gR G7 sH sL sR gF Hu Hw IK Hy BK Lc iOr Ld oK EY Ze YK YL Zf YM eH EZ Zg Zh sLe sGt sGe Ba iC mR dS qV dY gT eF bF nX iF CZ Le IW Gq VA Fa IX xG qW Bb nY tQ H8 xH Bc jY jE tT uK pExt HV xI Lf SX jQ Q0 X9 kS aT tX qd qX I8 tY iG jF PU iH mV tZ Bd lu Bf xK qY jy qZ nZ IZ bK vM K5 rcR bL KZ HY nO rcE uM gP jW gLk gE sP lJ xq Fg dcL Bg Ik Zl ghP PX kW bM qh mX dx oo kI qj ru nR oL
set_option maxHeartbeats 4000000
noncomputable section
def aq9:bU 287:={c:=_}
def Um:SC:={c:=_:J6 (lE 288 0 [])}.c
attribute [local irreducible] Um
def f288:L6:={c:=_:J6 (fE 288 [Um])}.c
theorem aqa:R9 288 f288:=K9 288
def aqb:bU 289:={c:=_}
def aqc:bU 290:={c:=_}
def f291:L6:=cT Tryz.prog (mg Tryz.prog 291) false false 291
theorem aqd:R9 291 f291:=isQ
def aqe:bU 292:={c:=_}
def aqf:bU 293:={c:=_}
def f294:L6:={c:=_:J6 (fE 294 [])}.c
theorem aqg:R9 294 f294:=K9 294
def aqh:bU 295:={c:=_}
def f296:L6:={c:=_:J6 (fE 296 [])}.c
theorem aqi:R9 296 f296:=K9 296
def f297:L6:={c:=_:J6 (fE 297 [])}.c
theorem aqj:R9 297 f297:=K9 297
def FZ:SC:={c:=_:J6 (lE 298 0 [])}.c
attribute [local irreducible] FZ
def Kq:SC:={c:=_:J6 (lE 298 1 [FZ])}.c
attribute [local irreducible] Kq
def OT:SC:={c:=_:J6 (lE 298 2 [FZ,Kq])}.c
attribute [local irreducible] OT
def Un:SC:={c:=_:J6 (lE 298 3 [FZ,Kq,OT])}.c
attribute [local irreducible] Un
def f298:L6:={c:=_:J6 (fE 298 [FZ,Kq,OT,Un])}.c
theorem aqk:R9 298 f298:=K9 298
def aql:bU 300:={c:=_}
def OU:SC:={c:=_:J6 (lE 301 0 [])}.c
attribute [local irreducible] OU
def Uo:SC:={c:=_:J6 (lE 301 1 [OU])}.c
attribute [local irreducible] Uo
def f301:L6:={c:=_:J6 (fP 301 [OU,Uo])}.c
theorem aqm:R9 301 f301:=isP 301
def aqn:bU 302:={c:=_}
def f303:L6:={c:=_:J6 (fE 303 [])}.c
theorem aqo:R9 303 f303:=K9 303
def aqp:bU 304:={c:=_}
def aqr:bU 305:={c:=_}
def aau:SC:={c:=_:J6 (lE 306 0 [])}.c
attribute [local irreducible] aau
def f306:L6:={c:=_:J6 (fE 306 [aau])}.c
theorem aqs:R9 306 f306:=K9 306
def f307:L6:={c:=_:J6 (fE 307 [])}.c
theorem aqt:R9 307 f307:=K9 307
def aav:SC:={c:=_:J6 (lE 308 0 [])}.c
attribute [local irreducible] aav
def f308:L6:={c:=_:J6 (fP 308 [aav])}.c
theorem C9:R9 308 f308:=isP 308
def aqu:bU 309:={c:=_}
def aqv:bU 310:={c:=_}
def aqw:bU 311:={c:=_}
def aqx:bU 312:={c:=_}
def f313:L6:={c:=_:J6 (fE 313 [])}.c
theorem aqy:R9 313 f313:=K9 313
def aqz:bU 314:={c:=_}
def zT:SC:={c:=_:J6 (lE 317 0 [])}.c
attribute [local irreducible] zT
def f317:L6:={c:=_:J6 (fE 317 [zT])}.c
theorem aqA:R9 317 f317:=K9 317
def f318:L6:={c:=_:J6 (fE 318 [])}.c
theorem aqB:R9 318 f318:=K9 318
def Ga:SC:={c:=_:J6 (lE 334 0 [])}.c
attribute [local irreducible] Ga
def f334:L6:={c:=_:J6 (fE 334 [Ga])}.c
theorem aqC:R9 334 f334:=K9 334
def aqD:bU 335:={c:=_}
def f344:L6:={c:=_:J6 (fE 344 [])}.c
theorem aqE:R9 344 f344:=K9 344
def aqF:bU 345:={c:=_}
def aqG:bU 353:={c:=_}
def aqH:bU 355:={c:=_}
def aqI:bU 357:={c:=_}
def aqJ:bU 365:={c:=_}
def aqK:bU 366:={c:=_}
def aqL:bU 367:={c:=_}
def aqM:bU 368:={c:=_}
def aaw:SC:={c:=_:J6 (lE 369 0 [])}.c
attribute [local irreducible] aaw
def aC0:L6:={c:=_:J6 (fP 369 [aaw])}.c
theorem dD:R9 369 aC0:=isP 369
def aax:SC:={c:=_:J6 (lE 370 0 [])}.c
attribute [local irreducible] aax
def aC1:L6:={c:=_:J6 (fP 370 [aax])}.c
theorem dF:R9 370 aC1:=isP 370
def aqN:bU 371:={c:=_}
def aC2:L6:={c:=_:J6 (fE 372 [])}.c
theorem aqO:R9 372 aC2:=K9 372
def Uq:SC:={c:=_:J6 (lE 373 0 [])}.c
attribute [local irreducible] Uq
def Ur:SC:={c:=_:J6 (lE 373 1 [Uq])}.c
attribute [local irreducible] Ur
def ajA:L6:={c:=_:J6 (fE 373 [Uq,Ur])}.c
theorem aqP:R9 373 ajA:=K9 373
end
end Go.Proofs.YtfnlnpllpfhhnaaGreatDoor.TT

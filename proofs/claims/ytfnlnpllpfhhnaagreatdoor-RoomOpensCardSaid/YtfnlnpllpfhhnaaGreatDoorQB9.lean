/- The tables: functions of the program, their code computed from it; no condition. -/
import Derived.Test.YtfnlnpllpfhhnaaGreatDoorQB6
import Derived.KernelRfl
import Derived.Test.YtfnlnpllpfhhnaaGreatDoorProg
set_option linter.all false
namespace Go.Proofs.YtfnlnpllpfhhnaaGreatDoor.TT
open Go Go.AM
set_option maxRecDepth 100000
attribute [local irreducible] aS L8 sj jd sM bg gH gL gR G7 sH sL sR gF Hu Hw IK Hy BK Lc iOr Ld oK EY Ze YK YL Zf YM eH EZ Zg Zh sLe sGt sGe Ba iC mR dS qV dY gT eF bF nX iF CZ Le IW Gq VA Fa IX xG qW Bb nY tQ H8 xH Bc jY jE tT uK pExt HV xI Lf SX jQ Q0 X9 kS aT tX qd qX I8 tY iG jF PU iH mV tZ Bd lu Bf xK qY jy qZ nZ IZ bK vM K5 rcR bL KZ HY nO rcE uM gP jW gLk gE sP lJ xq Fg dcL Bg Ik Zl ghP PX kW bM qh mX dx oo kI qj ru nR oL
set_option maxHeartbeats 4000000
noncomputable section
def aC3:L6:={c:=_:J6 (fE 379 [])}.c
theorem aqQ:R9 379 aC3:=K9 379
def aqR:bU 382:={c:=_}
def aqS:bU 383:={c:=_}
def aqT:bU 384:={c:=_}
def aqU:bU 385:={c:=_}
def aqV:bU 386:={c:=_}
def aqW:bU 387:={c:=_}
def Us:L6:={c:=_:J6 (fE 388 [])}.c
theorem aqX:R9 388 Us:=K9 388
def ajB:L6:={c:=_:J6 (fE 389 [])}.c
theorem aqY:R9 389 ajB:=K9 389
def uF:SC:={c:=_:J6 (lE 394 0 [])}.c
attribute [local irreducible] uF
def ajC:L6:={c:=_:J6 (fE 394 [uF])}.c
theorem aqZ:R9 394 ajC:=K9 394
def ar0:bU 395:={c:=_}
def ar1:bU 396:={c:=_}
def Ut:SC:={c:=_:J6 (lE 397 0 [])}.c
attribute [local irreducible] Ut
def aay:SC:={c:=_:J6 (lE 397 1 [Ut])}.c
attribute [local irreducible] aay
def ajD:L6:={c:=_:J6 (fE 397 [Ut,aay])}.c
theorem ar2:R9 397 ajD:=K9 397
def ar3:bU 398:={c:=_}
def aaz:SC:={c:=_:J6 (lE 399 0 [])}.c
attribute [local irreducible] aaz
def aC4:L6:={c:=_:J6 (fE 399 [aaz])}.c
theorem ar4:R9 399 aC4:=K9 399
def aC5:L6:={c:=_:J6 (fE 401 [])}.c
theorem ar5:R9 401 aC5:=K9 401
def ar6:bU 402:={c:=_}
def ar7:bU 403:={c:=_}
def Kr:SC:={c:=_:J6 (lE 404 0 [])}.c
attribute [local irreducible] Kr
def OV:SC:={c:=_:J6 (lE 404 1 [Kr])}.c
attribute [local irreducible] OV
def Uu:SC:={c:=_:J6 (lE 404 2 [Kr,OV])}.c
attribute [local irreducible] Uu
def aaA:SC:={c:=_:J6 (lE 404 3 [Kr,OV,Uu])}.c
attribute [local irreducible] aaA
def aC6:L6:={c:=_:J6 (fE 404 [Kr,OV,Uu,aaA])}.c
theorem ar8:R9 404 aC6:=K9 404
def ar9:bU 405:={c:=_}
def ara:bU 406:={c:=_}
def arb:bU 407:={c:=_}
def aaB:SC:={c:=_:J6 (lE 408 0 [])}.c
attribute [local irreducible] aaB
def aC7:L6:={c:=_:J6 (fE 408 [aaB])}.c
theorem ard:R9 408 aC7:=K9 408
def arf:bU 409:={c:=_}
def arh:bU 410:={c:=_}
def ari:bU 411:={c:=_}
def arj:bU 412:={c:=_}
def Kt:SC:={c:=_:J6 (lE 426 0 [])}.c
attribute [local irreducible] Kt
def ajE:L6:={c:=_:J6 (fE 426 [Kt])}.c
theorem ark:R9 426 ajE:=K9 426
def arl:bU 440:={c:=_}
def arn:bU 441:={c:=_}
def aro:bU 443:={c:=_}
def arp:bU 444:={c:=_}
def arq:bU 445:={c:=_}
def ars:bU 449:={c:=_}
def aru:bU 450:={c:=_}
def adD:L6:={c:=_:J6 (fE 451 [])}.c
theorem arv:R9 451 adD:=K9 451
def zU:SC:={c:=_:J6 (lE 452 0 [])}.c
attribute [local irreducible] zU
def ajF:L6:={c:=_:J6 (fE 452 [zU])}.c
theorem arw:R9 452 ajF:=K9 452
def aC8:L6:={c:=_:J6 (fE 454 [])}.c
theorem arx:R9 454 aC8:=K9 454
def aC9:L6:={c:=_:J6 (fE 455 [])}.c
theorem arz:R9 455 aC9:=K9 455
def arA:bU 456:={c:=_}
def arB:bU 457:={c:=_}
def arC:bU 458:={c:=_}
def arD:bU 459:={c:=_}
def arE:bU 475:={c:=_}
def aCa:L6:={c:=_:J6 (fE 476 [])}.c
theorem arF:R9 476 aCa:=K9 476
def arG:bU 477:={c:=_}
def aCb:L6:={c:=_:J6 (fE 478 [])}.c
theorem arH:R9 478 aCb:=K9 478
def arI:bU 479:={c:=_}
def arJ:bU 480:={c:=_}
def arK:bU 481:={c:=_}
def arL:bU 482:={c:=_}
def aCc:L6:=cT Tryz.prog (mg Tryz.prog 487) false false 487
theorem arM:R9 487 aCc:=isQ
def arN:bU 488:={c:=_}
def arO:bU 489:={c:=_}
end
end Go.Proofs.YtfnlnpllpfhhnaaGreatDoor.TT

/- The tables: functions of the program, their code computed from it; no condition. -/
import Derived.Test.YtfnlnpllpfhhnaaGreatDoorPB6
import Derived.KernelRfl
import Derived.Test.YtfnlnpllpfhhnaaGreatDoorProg
set_option linter.all false
namespace Go.Proofs.YtfnlnpllpfhhnaaGreatDoor.TT
open Go Go.AM
set_option maxRecDepth 100000
attribute [local irreducible] Y9 K5 qC iy qJ au gH gL gR G6 sH sL sR eU Gd GJ GK JO Ap GL iOr JQ mW Dz XR Xy Xz XT XA gy DF XU XV sLe sGt sGe wz fU kS dw qL bR fC dG aB mD gB BL GU GV EZ Uz Ea GX wB pK zT nT rM G8 wC wD nU gD rO vI pExt Gf wE GY XB iZ L9 U3 jF aN rP nV pO U4 rQ iI iO Rn gF kV rR zU sQ zV wH pR iJ pU mE GZ aG uz J2 rcR aH JL Gg lT rcE sS gP jg gLk gE qN jU vV JV dcL zW Gt XD ghP OI jG aI nX kW bE mH jv nY pV lW mX
set_option maxHeartbeats 4000000
noncomputable section
def aCw:K3:={c:=_:I4 (fE 379 [])}.c
theorem ara:Q0 379 aCw:=J7 379
def arb:aT 382:={c:=_}
def ard:aT 383:={c:=_}
def arf:aT 384:={c:=_}
def arh:aT 385:={c:=_}
def ari:aT 386:={c:=_}
def arj:aT 387:={c:=_}
def Ti:K3:={c:=_:I4 (fE 388 [])}.c
theorem ark:Q0 388 Ti:=J7 388
def akh:K3:={c:=_:I4 (fE 389 [])}.c
theorem arl:Q0 389 akh:=J7 389
def sJ:SC:={c:=_:I4 (lE 394 0 [])}.c
attribute [local irreducible] sJ
def aki:K3:={c:=_:I4 (fE 394 [sJ])}.c
theorem arn:Q0 394 aki:=J7 394
def aro:aT 395:={c:=_}
def arp:aT 396:={c:=_}
def Tj:SC:={c:=_:I4 (lE 397 0 [])}.c
attribute [local irreducible] Tj
def ZH:SC:={c:=_:I4 (lE 397 1 [Tj])}.c
attribute [local irreducible] ZH
def akj:K3:={c:=_:I4 (fE 397 [Tj,ZH])}.c
theorem arq:Q0 397 akj:=J7 397
def ars:aT 398:={c:=_}
def ZI:SC:={c:=_:I4 (lE 399 0 [])}.c
attribute [local irreducible] ZI
def aCx:K3:={c:=_:I4 (fE 399 [ZI])}.c
theorem aru:Q0 399 aCx:=J7 399
def aCy:K3:={c:=_:I4 (fE 401 [])}.c
theorem arv:Q0 401 aCy:=J7 401
def arw:aT 402:={c:=_}
def arx:aT 403:={c:=_}
def Jg:SC:={c:=_:I4 (lE 404 0 [])}.c
attribute [local irreducible] Jg
def Nw:SC:={c:=_:I4 (lE 404 1 [Jg])}.c
attribute [local irreducible] Nw
def Tk:SC:={c:=_:I4 (lE 404 2 [Jg,Nw])}.c
attribute [local irreducible] Tk
def ZJ:SC:={c:=_:I4 (lE 404 3 [Jg,Nw,Tk])}.c
attribute [local irreducible] ZJ
def aCz:K3:={c:=_:I4 (fE 404 [Jg,Nw,Tk,ZJ])}.c
theorem arz:Q0 404 aCz:=J7 404
def arA:aT 405:={c:=_}
def arB:aT 406:={c:=_}
def arC:aT 407:={c:=_}
def ZK:SC:={c:=_:I4 (lE 408 0 [])}.c
attribute [local irreducible] ZK
def aCA:K3:={c:=_:I4 (fE 408 [ZK])}.c
theorem arD:Q0 408 aCA:=J7 408
def arE:aT 409:={c:=_}
def arF:aT 410:={c:=_}
def arG:aT 411:={c:=_}
def arH:aT 412:={c:=_}
def Jh:SC:={c:=_:I4 (lE 426 0 [])}.c
attribute [local irreducible] Jh
def akk:K3:={c:=_:I4 (fE 426 [Jh])}.c
theorem arI:Q0 426 akk:=J7 426
def arJ:aT 440:={c:=_}
def arK:aT 441:={c:=_}
def arL:aT 443:={c:=_}
def arM:aT 444:={c:=_}
def arN:aT 445:={c:=_}
def arO:aT 449:={c:=_}
def arP:aT 450:={c:=_}
def aeK:K3:={c:=_:I4 (fE 451 [])}.c
theorem arQ:Q0 451 aeK:=J7 451
def xQ:SC:={c:=_:I4 (lE 452 0 [])}.c
attribute [local irreducible] xQ
def akl:K3:={c:=_:I4 (fE 452 [xQ])}.c
theorem arR:Q0 452 akl:=J7 452
def aCB:K3:={c:=_:I4 (fE 454 [])}.c
theorem arS:Q0 454 aCB:=J7 454
def aCC:K3:={c:=_:I4 (fE 455 [])}.c
theorem arT:Q0 455 aCC:=J7 455
def arU:aT 456:={c:=_}
def arV:aT 457:={c:=_}
def arW:aT 458:={c:=_}
def arX:aT 459:={c:=_}
def arY:aT 475:={c:=_}
def aCD:K3:={c:=_:I4 (fE 476 [])}.c
theorem arZ:Q0 476 aCD:=J7 476
def as0:aT 477:={c:=_}
def aCE:K3:={c:=_:I4 (fE 478 [])}.c
theorem as1:Q0 478 aCE:=J7 478
def as3:aT 479:={c:=_}
def as5:aT 480:={c:=_}
def as6:aT 481:={c:=_}
def as7:aT 482:={c:=_}
def aCF:K3:=cT Tryz.prog (kE Tryz.prog 487) false false 487
theorem as8:Q0 487 aCF:=isQ
def as9:aT 488:={c:=_}
def asa:aT 489:={c:=_}
end
end Go.Proofs.YtfnlnpllpfhhnaaGreatDoor.TT

/- The tables: functions of the program, their code computed from it; no condition. -/
import Derived.Test.YtfnlnpllpfhhnaaGreatDoorPB6
import Derived.KernelRfl
import Derived.Test.YtfnlnpllpfhhnaaGreatDoorProg
set_option linter.all false
namespace Go.Proofs.YtfnlnpllpfhhnaaGreatDoor.TT
open Go Go.AM
set_option maxRecDepth 100000
attribute [local irreducible] Y9 K5 qC iy qJ au gH gL gR G6 sH sL sR eU Gd GJ GK JO Ap GL iOr JQ mW Dz XR Xy Xz XT XA gy DF XU XV sLe sGt sGe wz fU kS dw qL bR fC dG aB mD gB BL GU GV EZ Uz Ea GX wB pK zT nT rM G8 wC wD nU gD rO vI pExt Gf wE GY XB iZ L9 U3 jF aN rP nV pO U4 rQ iI iO Rn gF kV rR zU sQ zV wH pR iJ pU mE GZ aG uz J2 rcR aH JL Gg lT rcE sS gP jg gLk gE qN jU vV JV dcL zW Gt XD ghP OI jG aI nX kW bE mH jv nY pV lW mX
set_option maxHeartbeats 4000000
noncomputable section
def aqu:aT 287:={c:=_}
def Tc:SC:={c:=_:I4 (lE 288 0 [])}.c
attribute [local irreducible] Tc
def f288:K3:={c:=_:I4 (fE 288 [Tc])}.c
theorem aqv:Q0 288 f288:=J7 288
def aqw:aT 289:={c:=_}
def aqx:aT 290:={c:=_}
def f291:K3:=cT Tryz.prog (kE Tryz.prog 291) false false 291
theorem aqy:Q0 291 f291:=isQ
def aqz:aT 292:={c:=_}
def aqA:aT 293:={c:=_}
def f294:K3:={c:=_:I4 (fE 294 [])}.c
theorem aqB:Q0 294 f294:=J7 294
def aqC:aT 295:={c:=_}
def f296:K3:={c:=_:I4 (fE 296 [])}.c
theorem aqD:Q0 296 f296:=J7 296
def f297:K3:={c:=_:I4 (fE 297 [])}.c
theorem aqE:Q0 297 f297:=J7 297
def EI:SC:={c:=_:I4 (lE 298 0 [])}.c
attribute [local irreducible] EI
def Jf:SC:={c:=_:I4 (lE 298 1 [EI])}.c
attribute [local irreducible] Jf
def Nu:SC:={c:=_:I4 (lE 298 2 [EI,Jf])}.c
attribute [local irreducible] Nu
def Td:SC:={c:=_:I4 (lE 298 3 [EI,Jf,Nu])}.c
attribute [local irreducible] Td
def f298:K3:={c:=_:I4 (fE 298 [EI,Jf,Nu,Td])}.c
theorem aqF:Q0 298 f298:=J7 298
def aqG:aT 300:={c:=_}
def Nv:SC:={c:=_:I4 (lE 301 0 [])}.c
attribute [local irreducible] Nv
def Te:SC:={c:=_:I4 (lE 301 1 [Nv])}.c
attribute [local irreducible] Te
def f301:K3:={c:=_:I4 (fP 301 [Nv,Te])}.c
theorem aqH:Q0 301 f301:=isP 301
def aqI:aT 302:={c:=_}
def f303:K3:={c:=_:I4 (fE 303 [])}.c
theorem aqJ:Q0 303 f303:=J7 303
def aqK:aT 304:={c:=_}
def aqL:aT 305:={c:=_}
def ZB:SC:={c:=_:I4 (lE 306 0 [])}.c
attribute [local irreducible] ZB
def f306:K3:={c:=_:I4 (fE 306 [ZB])}.c
theorem aqM:Q0 306 f306:=J7 306
def f307:K3:={c:=_:I4 (fE 307 [])}.c
theorem aqN:Q0 307 f307:=J7 307
def ZC:SC:={c:=_:I4 (lE 308 0 [])}.c
attribute [local irreducible] ZC
def f308:K3:={c:=_:I4 (fP 308 [ZC])}.c
theorem A9:Q0 308 f308:=isP 308
def aqO:aT 309:={c:=_}
def aqP:aT 310:={c:=_}
def aqQ:aT 311:={c:=_}
def aqR:aT 312:={c:=_}
def f313:K3:={c:=_:I4 (fE 313 [])}.c
theorem aqS:Q0 313 f313:=J7 313
def aqT:aT 314:={c:=_}
def ZE:SC:={c:=_:I4 (lE 317 0 [])}.c
attribute [local irreducible] ZE
def f317:K3:={c:=_:I4 (fE 317 [ZE])}.c
theorem aqU:Q0 317 f317:=J7 317
def f318:K3:={c:=_:I4 (fE 318 [])}.c
theorem aqV:Q0 318 f318:=J7 318
def EJ:SC:={c:=_:I4 (lE 334 0 [])}.c
attribute [local irreducible] EJ
def f334:K3:={c:=_:I4 (fE 334 [EJ])}.c
theorem aqW:Q0 334 f334:=J7 334
def aqX:aT 335:={c:=_}
def f344:K3:={c:=_:I4 (fE 344 [])}.c
theorem aqY:Q0 344 f344:=J7 344
def aqZ:aT 345:={c:=_}
def ar0:aT 353:={c:=_}
def ar1:aT 355:={c:=_}
def ar2:aT 357:={c:=_}
def ar3:aT 365:={c:=_}
def ar4:aT 366:={c:=_}
def ar5:aT 367:={c:=_}
def ar6:aT 368:={c:=_}
def ZF:SC:={c:=_:I4 (lE 369 0 [])}.c
attribute [local irreducible] ZF
def aCt:K3:={c:=_:I4 (fP 369 [ZF])}.c
theorem bG:Q0 369 aCt:=isP 369
def ZG:SC:={c:=_:I4 (lE 370 0 [])}.c
attribute [local irreducible] ZG
def aCu:K3:={c:=_:I4 (fP 370 [ZG])}.c
theorem bH:Q0 370 aCu:=isP 370
def ar7:aT 371:={c:=_}
def aCv:K3:={c:=_:I4 (fE 372 [])}.c
theorem ar8:Q0 372 aCv:=J7 372
def Tf:SC:={c:=_:I4 (lE 373 0 [])}.c
attribute [local irreducible] Tf
def Tg:SC:={c:=_:I4 (lE 373 1 [Tf])}.c
attribute [local irreducible] Tg
def akg:K3:={c:=_:I4 (fE 373 [Tf,Tg])}.c
theorem ar9:Q0 373 akg:=J7 373
end
end Go.Proofs.YtfnlnpllpfhhnaaGreatDoor.TT

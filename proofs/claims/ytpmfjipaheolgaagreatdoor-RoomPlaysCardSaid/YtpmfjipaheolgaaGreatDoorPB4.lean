/- The tables: functions of the program, their code computed from it; no condition. -/
import Derived.Test.YtpmfjipaheolgaaGreatDoorPB6
import Derived.KernelRfl
import Derived.Test.YtpmfjipaheolgaaGreatDoorProg
set_option linter.all false
namespace Go.Proofs.YtpmfjipaheolgaaGreatDoor.TT
open Go Go.AM
set_option maxRecDepth 100000
open Nat (beq ble blt)
attribute [local irreducible] bE N9 uQ jJ vT bO gH gL gR G5 sH sL sR gT Oe Qz TP QA EO Lv iOr Yg Ah Hw iNe iLt iLe iGt iGe fZ Hy sNe sLt sLe sGt sGe II jQ um gy xW iR kI fI dw vW ou Hz Yh TR IU pNe Oi TS IV BI Me vX EP H9 IW Mf ow qV ER Dc pExt QD IX Yi pMm oQ U6 ak nX dH ET xY uR J2 EU mY qX TU kZ vY EW Mg lu Mh IZ BJ jZ BK vZ TW dz xV K8 rcR cZ Ol QF qE rcE Df gP kJ gLk gE xZ mE yG Oo dcL Mj Ls ghD ghP Uc qx dB yH rF dX wm qF yI BM rG Ai
set_option maxHeartbeats 4000000
noncomputable section
def Py:SC:={c:=_:J5 (lE 318 0 [])}.c
attribute [local irreducible] Py
def Vl:SC:={c:=_:J5 (lE 318 1 [Py])}.c
attribute [local irreducible] Vl
def f318:L6:={c:=_:J5 (fP 318 [Py,Vl])}.c
theorem ao7:U2 318 f318:=isP 318
def ao8:dG 319:={c:=_}
def f320:L6:={c:=_:J5 (fE 320 [])}.c
theorem ao9:U2 320 f320:=K9 320
def zR:SC:={c:=_:J5 (lE 321 0 [])}.c
attribute [local irreducible] zR
def f321:L6:={c:=_:J5 (fE 321 [zR])}.c
theorem aoa:U2 321 f321:=K9 321
def f322:L6:={c:=_:J5 (fE 322 [])}.c
theorem aob:U2 322 f322:=K9 322
def ab6:SC:={c:=_:J5 (lE 330 0 [])}.c
attribute [local irreducible] ab6
def f330:L6:={c:=_:J5 (fE 330 [ab6])}.c
theorem aoc:U2 330 f330:=K9 330
def f331:L6:={c:=_:J5 (fE 331 [])}.c
theorem aod:U2 331 f331:=K9 331
def Kt:SC:={c:=_:J5 (lE 337 0 [])}.c
attribute [local irreducible] Kt
def Pz:SC:={c:=_:J5 (lE 337 1 [Kt])}.c
attribute [local irreducible] Pz
def Vm:SC:={c:=_:J5 (lE 337 2 [Kt,Pz])}.c
attribute [local irreducible] Vm
def ab7:SC:={c:=_:J5 (lE 337 3 [Kt,Pz,Vm])}.c
attribute [local irreducible] ab7
def f337:L6:={c:=_:J5 (fE 337 [Kt,Pz,Vm,ab7])}.c
theorem aoe:U2 337 f337:=K9 337
def f340:L6:={c:=_:J5 (fE 340 [])}.c
theorem aof:U2 340 f340:=K9 340
def Ku:SC:={c:=_:J5 (lE 341 0 [])}.c
attribute [local irreducible] Ku
def f341:L6:={c:=_:J5 (fE 341 [Ku])}.c
theorem aog:U2 341 f341:=K9 341
def aoh:dG 342:={c:=_}
def aoi:dG 343:={c:=_}
def aoj:dG 344:={c:=_}
def aok:dG 345:={c:=_}
def aol:dG 346:={c:=_}
def aom:dG 347:={c:=_}
def aon:dG 348:={c:=_}
def aoo:dG 349:={c:=_}
def ahR:SC:=dX (dB (xV (Hz iLt sLt (G5 (gR gH)) (G5 (gL (gL gH)))) (sR (sL sH)) dz)) (dX (wm (G5 (gR (gL gH))) qx (BM 0)) (dX (qF 1 (dX (dB (xV (fI (G5 (gR gH))) (sR (sR sH)) dz)) (dX (rF 0 (yG (ak 2 (G5 (gL (gR gH)))) 0 gT (mE (fI (G5 (gL gH))) gT (mE (fI (G5 (gR (gR gH)))) gT (mE (ow 2 uQ N9) gT (yG (ak 2 N9) 0 gT (mE (IU (gy [.i,.i]) (bE 4) N9) (sL (sL (sL sH))) xZ))))))) (wm (G5 (gL (gL (gL gH)))) (dX (dB (xV (fI (G5 (gR (gR gH)))) (sR (sL (sL sH))) dz)) rG) qx)))) (dB (K8 (Hz Oe fZ (G5 (gR gH)) (bO (j5.int .i64 (Int.ofNat 1)))) (xV (fI N9) (sR sH) dz)))))
def avb:L6:=⟨false,[some 1,some 0],9,[.tmp 8],dX (dB (Ol (uR (G5 gH)) (sL (sR sH)) (xV (fI (bO (j5.int .i64 (Int.ofNat 0)))) (sR (sL (sL sH))) dz))) (dX (dX (dB (xV (QD (G5 (gL gH))) (sL (sL sH)) (xV (fI (bO (j5.int .i64 (Int.ofNat 0)))) (sR sH) dz))) (qF 0 (yI ahR))) (dX (dB (xV (fI (bO (j5.int .i64 (Int.negSucc 0)))) (sR (sL (sL sH))) dz)) rG)),none⟩
theorem aop:U2 350 avb:=K9 350
def aoq:dG 351:={c:=_}
def aor:dG 352:={c:=_}
def aos:dG 353:={c:=_}
def aot:dG 354:={c:=_}
def Vn:SC:={c:=_:J5 (lE 355 0 [])}.c
attribute [local irreducible] Vn
def ahS:L6:={c:=_:J5 (fE 355 [Vn])}.c
theorem aou:U2 355 ahS:=K9 355
def aov:dG 356:={c:=_}
def aow:dG 357:={c:=_}
def avc:L6:=cT Tryz.prog (mh Tryz.prog 358) false false 358
theorem aox:U2 358 avc:=isQ
def aoy:dG 359:={c:=_}
def aoz:dG 360:={c:=_}
def aoA:dG 361:={c:=_}
def aoB:dG 362:={c:=_}
def ab8:SC:={c:=_:J5 (lE 363 0 [])}.c
attribute [local irreducible] ab8
def ab9:L6:={c:=_:J5 (fE 363 [ab8])}.c
theorem aoC:U2 363 ab9:=K9 363
def ahT:L6:={c:=_:J5 (fE 364 [])}.c
theorem aoD:U2 364 ahT:=K9 364
def abb:SC:={c:=_:J5 (lE 365 0 [])}.c
attribute [local irreducible] abb
def avd:L6:={c:=_:J5 (fP 365 [abb])}.c
theorem aoE:U2 365 avd:=isP 365
def aoF:dG 366:={c:=_}
def aoG:dG 367:={c:=_}
def aoH:dG 368:={c:=_}
def aoI:dG 369:={c:=_}
def aoJ:dG 370:={c:=_}
def abd:L6:={c:=_:J5 (fE 371 [])}.c
theorem aoK:U2 371 abd:=K9 371
def Cz:SC:={c:=_:J5 (lE 372 0 [])}.c
attribute [local irreducible] Cz
def FV:SC:={c:=_:J5 (lE 372 1 [Cz])}.c
attribute [local irreducible] FV
def abe:L6:={c:=_:J5 (fE 372 [Cz,FV])}.c
theorem aoL:U2 372 abe:=K9 372
def qA:SC:={c:=_:J5 (lE 373 0 [])}.c
attribute [local irreducible] qA
def zS:SC:={c:=_:J5 (lE 373 1 [qA])}.c
attribute [local irreducible] zS
def wU:SC:={c:=_:J5 (lE 373 2 [qA,zS])}.c
attribute [local irreducible] wU
def FW:SC:={c:=_:J5 (lE 373 3 [qA,zS,wU])}.c
attribute [local irreducible] FW
def CB:SC:={c:=_:J5 (lE 373 4 [qA,zS,wU,FW])}.c
attribute [local irreducible] CB
def Sz:L6:={c:=_:J5 (fE 373 [qA,zS,wU,FW,CB])}.c
theorem aoM:U2 373 Sz:=K9 373
def Vo:L6:={c:=_:J5 (fE 387 [])}.c
theorem aoN:U2 387 Vo:=K9 387
def ahU:L6:={c:=_:J5 (fE 388 [])}.c
theorem aoO:U2 388 ahU:=K9 388
def uM:SC:={c:=_:J5 (lE 393 0 [])}.c
attribute [local irreducible] uM
def ahV:L6:={c:=_:J5 (fE 393 [uM])}.c
theorem aoP:U2 393 ahV:=K9 393
def aoQ:dG 394:={c:=_}
def aoR:dG 395:={c:=_}
def Vp:SC:={c:=_:J5 (lE 396 0 [])}.c
attribute [local irreducible] Vp
def abf:SC:={c:=_:J5 (lE 396 1 [Vp])}.c
attribute [local irreducible] abf
def ahW:L6:={c:=_:J5 (fE 396 [Vp,abf])}.c
theorem aoS:U2 396 ahW:=K9 396
def aoT:dG 397:={c:=_}
def abg:SC:={c:=_:J5 (lE 398 0 [])}.c
attribute [local irreducible] abg
def ave:L6:={c:=_:J5 (fE 398 [abg])}.c
theorem aoU:U2 398 ave:=K9 398
def ae9:L6:={c:=_:J5 (fE 416 [])}.c
theorem aoV:U2 416 ae9:=K9 416
def aoW:dG 417:={c:=_}
def aoX:dG 418:={c:=_}
def aoY:dG 419:={c:=_}
def aoZ:dG 420:={c:=_}
def abh:SC:={c:=_:J5 (lE 421 0 [])}.c
attribute [local irreducible] abh
def avf:L6:={c:=_:J5 (fP 421 [abh])}.c
theorem ap0:U2 421 avf:=isP 421
def abj:SC:={c:=_:J5 (lE 422 0 [])}.c
attribute [local irreducible] abj
def avg:L6:={c:=_:J5 (fP 422 [abj])}.c
theorem Nw:U2 422 avg:=isP 422
def ap1:dG 423:={c:=_}
def avh:L6:={c:=_:J5 (fE 424 [])}.c
theorem ap2:U2 424 avh:=K9 424
def Vq:SC:={c:=_:J5 (lE 425 0 [])}.c
attribute [local irreducible] Vq
def Vr:SC:={c:=_:J5 (lE 425 1 [Vq])}.c
attribute [local irreducible] Vr
def ahX:L6:={c:=_:J5 (fE 425 [Vq,Vr])}.c
theorem ap3:U2 425 ahX:=K9 425
def avi:L6:={c:=_:J5 (fE 431 [])}.c
theorem ap4:U2 431 avi:=K9 431
def ap5:dG 434:={c:=_}
def ap6:dG 435:={c:=_}
def ap7:dG 436:={c:=_}
def ap8:dG 437:={c:=_}
def ap9:dG 438:={c:=_}
def apa:dG 439:={c:=_}
def avj:L6:={c:=_:J5 (fE 440 [])}.c
theorem apb:U2 440 avj:=K9 440
def apc:dG 441:={c:=_}
def apd:dG 442:={c:=_}
def Kv:SC:={c:=_:J5 (lE 443 0 [])}.c
attribute [local irreducible] Kv
def PD:SC:={c:=_:J5 (lE 443 1 [Kv])}.c
attribute [local irreducible] PD
def Vs:SC:={c:=_:J5 (lE 443 2 [Kv,PD])}.c
attribute [local irreducible] Vs
def abk:SC:={c:=_:J5 (lE 443 3 [Kv,PD,Vs])}.c
attribute [local irreducible] abk
def avk:L6:={c:=_:J5 (fE 443 [Kv,PD,Vs,abk])}.c
theorem ape:U2 443 avk:=K9 443
def apf:dG 444:={c:=_}
def apg:dG 445:={c:=_}
def aph:dG 446:={c:=_}
def abl:SC:={c:=_:J5 (lE 447 0 [])}.c
attribute [local irreducible] abl
def avl:L6:={c:=_:J5 (fE 447 [abl])}.c
theorem apj:U2 447 avl:=K9 447
def apk:dG 448:={c:=_}
def apl:dG 449:={c:=_}
def FX:SC:={c:=_:J5 (lE 450 0 [])}.c
attribute [local irreducible] FX
def ahY:L6:={c:=_:J5 (fE 450 [FX])}.c
theorem apm:U2 450 ahY:=K9 450
def aea:L6:={c:=_:J5 (fE 456 [])}.c
theorem apn:U2 456 aea:=K9 456
def zT:SC:={c:=_:J5 (lE 457 0 [])}.c
attribute [local irreducible] zT
def ahZ:L6:={c:=_:J5 (fE 457 [zT])}.c
theorem apo:U2 457 ahZ:=K9 457
def apq:dG 471:={c:=_}
def apr:dG 472:={c:=_}
def aps:dG 474:={c:=_}
def apt:dG 475:={c:=_}
def apu:dG 476:={c:=_}
def apv:dG 480:={c:=_}
def apw:dG 481:={c:=_}
def avm:L6:={c:=_:J5 (fE 482 [])}.c
theorem apx:U2 482 avm:=K9 482
def avn:L6:={c:=_:J5 (fE 483 [])}.c
theorem apy:U2 483 avn:=K9 483
def apz:dG 484:={c:=_}
def apA:dG 485:={c:=_}
def apB:dG 486:={c:=_}
def apC:dG 487:={c:=_}
def apD:dG 488:={c:=_}
def Kw:SC:={c:=_:J5 (lE 490 0 [])}.c
attribute [local irreducible] Kw
def ai0:L6:={c:=_:J5 (fE 490 [Kw])}.c
theorem apE:U2 490 ai0:=K9 490
def apF:dG 498:={c:=_}
def avo:L6:={c:=_:J5 (fE 499 [])}.c
theorem apG:U2 499 avo:=K9 499
def apH:dG 500:={c:=_}
def avp:L6:={c:=_:J5 (fE 501 [])}.c
theorem apI:U2 501 avp:=K9 501
def apJ:dG 502:={c:=_}
def apK:dG 503:={c:=_}
def apL:dG 504:={c:=_}
def apM:dG 505:={c:=_}
def apN:dG 506:={c:=_}
def apO:dG 507:={c:=_}
def avq:L6:=cT Tryz.prog (mh Tryz.prog 511) false false 511
theorem apP:U2 511 avq:=isQ
def apQ:dG 512:={c:=_}
def apR:dG 513:={c:=_}
end
end Go.Proofs.YtpmfjipaheolgaaGreatDoor.TT

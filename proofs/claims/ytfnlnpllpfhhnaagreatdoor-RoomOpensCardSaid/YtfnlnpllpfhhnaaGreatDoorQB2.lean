/- The tables: functions of the program, their code computed from it; no condition. -/
import Derived.Test.YtfnlnpllpfhhnaaGreatDoorQB6
import Derived.KernelRfl
import Derived.Test.YtfnlnpllpfhhnaaGreatDoorProg
set_option linter.all false
namespace Go.Proofs.YtfnlnpllpfhhnaaGreatDoor.TT
open Go Go.AM
set_option maxRecDepth 100000
attribute [local irreducible] aS L8 sj jd sM bg gH gL gR G7 sH sL sR gF Hu Hw IK Hy BK Lc iOr Ld oK EY Ze YK YL Zf YM eH EZ Zg Zh sLe sGt sGe Ba iC mR dS qV dY gT eF bF nX iF CZ Le IW Gq VA Fa IX xG qW Bb nY tQ H8 xH Bc jY jE tT uK pExt HV xI Lf SX jQ Q0 X9 kS aT tX qd qX I8 tY iG jF PU iH mV tZ Bd lu Bf xK qY jy qZ nZ IZ bK vM K5 rcR bL KZ HY nO rcE uM gP jW gLk gE sP lJ xq Fg dcL Bg Ik Zl ghP PX kW bM qh mX dx oo kI qj ru nR oL
set_option maxHeartbeats 4000000
noncomputable section
def aAV:bU 29:={c:=_}
def aam:La 30:={c:=_}
def anB:La 31:={c:=_}
def ajy:La 32:={c:=_}
def aAW:bU 33:={c:=_}
def MP:SC:={c:=_:J6 (lE 34 0 [])}.c
attribute [local irreducible] MP
def f34:L6:={c:=_:J6 (fE 34 [MP])}.c
theorem aAX:R9 34 f34:=K9 34
def f35:L6:=cT Tryz.prog (mg Tryz.prog 35) false false 35
theorem aAY:R9 35 f35:=isQ
def f36:L6:={c:=_:J6 (fP 36 [])}.c
theorem Kh:R9 36 f36:=isP 36
def f37:L6:={c:=_:J6 (fE 37 [])}.c
theorem aAZ:R9 37 f37:=K9 37
def f38:L6:={c:=_:J6 (fE 38 [])}.c
theorem aB0:R9 38 f38:=K9 38
def MQ:SC:={c:=_:J6 (lE 39 0 [])}.c
attribute [local irreducible] MQ
def f39:L6:={c:=_:J6 (fE 39 [MQ])}.c
theorem aB1:R9 39 f39:=K9 39
def f40:L6:={c:=_:J6 (fR 40 [])}.c
theorem aB2:R9 40 f40:=isR 40
def f41:L6:={c:=_:J6 (fE 41 [])}.c
theorem aB3:R9 41 f41:=K9 41
def Ki:SC:={c:=_:J6 (lE 42 0 [])}.c
attribute [local irreducible] Ki
def f42:L6:={c:=_:J6 (fE 42 [Ki])}.c
theorem aB4:R9 42 f42:=K9 42
def MR:SC:={c:=_:J6 (lE 43 0 [])}.c
attribute [local irreducible] MR
def MS:SC:={c:=_:J6 (lE 43 1 [MR])}.c
attribute [local irreducible] MS
def f43:L6:={c:=_:J6 (fE 43 [MR,MS])}.c
theorem aB5:R9 43 f43:=K9 43
def BD:SC:={c:=_:J6 (lE 44 0 [])}.c
attribute [local irreducible] BD
def f44:L6:={c:=_:J6 (fE 44 [BD])}.c
theorem aB6:R9 44 f44:=K9 44
def f45:L6:=⟨false,[some 0,some 1],7,[.tmp 6],dx (bM (KZ (qX (G7 gH)) (sR sH) (KZ (qX (G7 (gL gH))) (sL (sL sH)) (vM (eF (bg ff)) (sR (sR sH)) bK)))) (dx (bM (K5 (H8 2 (G7 (gR gH))) (bL (Q0 L8) (K5 (H8 2 (G7 (gL (gL gH)))) (bL (Q0 L8) (nO (jy 34 [jd,L8]) (vM (eF L8) (sR (sL sH)) bK))))))) (dx (bM (K5 (H8 3 (G7 (gR gH))) (bL (Q0 L8) (K5 (H8 3 (G7 (gL (gL gH)))) (bL (Q0 L8) (nO (jy 34 [jd,L8]) (vM (eF L8) (sL (sR sH)) bK))))))) (dx (bM (K5 (gP (G7 (gR (gL gH))) true (eF (G7 (gL (gR gH))))) (K5 (bF (G7 (gR (gL gH))) L8 (bg ff)) (K5 (gP L8 true (H8 0 (G7 (gR gH)))) (bL (jW sj true (Q0 L8)) (K5 (gP jd true (H8 0 (G7 (gL (gL gH))))) (bL (jW sM true (Q0 L8)) (K5 (gP (aS 4) true (CZ EY EZ jd L8)) (K5 (bF (aS 5) L8 (bg ff)) (K5 (gP L8 true (H8 1 (G7 (gR gH)))) (bL (jW sj true (Q0 L8)) (K5 (gP jd true (H8 1 (G7 (gL (gL gH))))) (bL (jW sM true (Q0 L8)) (K5 (gP (aS 4) true (CZ EY EZ jd L8)) (K5 (bF (aS 5) L8 (bg ff)) (K5 (gP L8 true (H8 4 (G7 (gR gH)))) (bL (jW sj true (Q0 L8)) (K5 (gP jd true (H8 4 (G7 (gL (gL gH))))) (bL (jW sM true (Q0 L8)) (K5 (gP (aS 4) true (CZ EY EZ jd L8)) (K5 (bF (aS 5) L8 (bg ff)) (K5 (gP L8 true (H8 5 (G7 (gR gH)))) (bL (jW sj true (Q0 L8)) (K5 (gP jd true (H8 5 (G7 (gL (gL gH))))) (bL (jW sM true (Q0 L8)) (K5 (gP (aS 4) true (CZ EY EZ jd L8)) (K5 (bF (aS 5) L8 (bg ff)) (K5 (gP L8 true (H8 6 (G7 (gR gH)))) (bL (jW sj true (X9 2 L8)) (K5 (gP jd true (H8 6 (G7 (gL (gL gH))))) (bL (jW sM true (X9 2 L8)) (K5 (gP (aS 4) true (Gq (dS [.i,.i]) jd L8)) (K5 (bF (aS 5) L8 (bg ff)) (vM (eF L8) (sR (sR sH)) bK)))))))))))))))))))))))))))))))))) nR))),none⟩
theorem aB7:R9 45 f45:=K9 45
def f46:L6:={c:=_:J6 (fE 46 [])}.c
theorem aB8:R9 46 f46:=K9 46
def BF:SC:={c:=_:J6 (lE 47 0 [])}.c
attribute [local irreducible] BF
def f47:L6:={c:=_:J6 (fE 47 [BF])}.c
theorem aB9:R9 47 f47:=K9 47
def f48:L6:={c:=_:J6 (fE 48 [])}.c
theorem aBa:R9 48 f48:=K9 48
def MU:SC:={c:=_:J6 (lE 49 0 [])}.c
attribute [local irreducible] MU
def f49:L6:={c:=_:J6 (fE 49 [MU])}.c
theorem aBb:R9 49 f49:=K9 49
def MV:SC:={c:=_:J6 (lE 50 0 [])}.c
attribute [local irreducible] MV
def f50:L6:={c:=_:J6 (fE 50 [MV])}.c
theorem aBd:R9 50 f50:=K9 50
def f51:L6:={c:=_:J6 (fE 51 [])}.c
theorem aBe:R9 51 f51:=K9 51
def f52:L6:=⟨false,[some 0,some 1],5,[.tmp 4],dx (bM (KZ (qX (G7 gH)) (sR sH) (KZ (qX (G7 (gL gH))) (sL (sL sH)) (vM (eF (bg ff)) (sR (sL sH)) bK)))) (dx (bM (K5 (H8 0 (G7 (gR gH))) (bL (Q0 L8) (K5 (H8 0 (G7 (gL (gL gH)))) (bL (Q0 L8) (K5 (CZ EY EZ jd L8) (K5 (gP L8 true (H8 1 (G7 (gR gH)))) (bL (jW sj true (Q0 L8)) (K5 (gP jd true (H8 1 (G7 (gL (gL gH))))) (bL (jW sM true (Q0 L8)) (K5 (gP (aS 4) true (CZ EY EZ jd L8)) (K5 (bF (aS 5) L8 (bg ff)) (K5 (gP L8 true (H8 4 (G7 (gR gH)))) (bL (jW sj true (Q0 L8)) (K5 (gP jd true (H8 4 (G7 (gL (gL gH))))) (bL (jW sM true (Q0 L8)) (K5 (gP (aS 4) true (CZ EY EZ jd L8)) (K5 (bF (aS 5) L8 (bg ff)) (K5 (gP L8 true (H8 5 (G7 (gR gH)))) (bL (jW sj true (Q0 L8)) (K5 (gP jd true (H8 5 (G7 (gL (gL gH))))) (bL (jW sM true (Q0 L8)) (K5 (gP (aS 4) true (CZ EY EZ jd L8)) (K5 (bF (aS 5) L8 (bg ff)) (K5 (gP L8 true (H8 6 (G7 (gR gH)))) (bL (jW sj true (X9 2 L8)) (K5 (gP jd true (H8 6 (G7 (gL (gL gH))))) (bL (jW sM true (X9 2 L8)) (K5 (gP (aS 4) true (Gq (dS [.i,.i]) jd L8)) (K5 (bF (aS 5) L8 (bg ff)) (K5 (gP L8 true (H8 2 (G7 (gR gH)))) (bL (jW sj true (Q0 L8)) (K5 (gP jd true (H8 2 (G7 (gL (gL gH))))) (bL (jW sM true (Q0 L8)) (nO (gE (aS 4) true (jy 53 [jd,L8])) (K5 (bF (aS 5) L8 (bg ff)) (K5 (gP L8 true (H8 3 (G7 (gR gH)))) (bL (jW sj true (Q0 L8)) (K5 (gP jd true (H8 3 (G7 (gL (gL gH))))) (bL (jW sM true (Q0 L8)) (nO (gE (aS 4) true (jy 53 [jd,L8])) (K5 (bF (aS 5) L8 (bg ff)) (vM (eF L8) (sR (sL sH)) bK))))))))))))))))))))))))))))))))))))))))))) nR),none⟩
theorem aBf:R9 52 f52:=K9 52
def MW:SC:={c:=_:J6 (lE 53 0 [])}.c
attribute [local irreducible] MW
def f53:L6:={c:=_:J6 (fE 53 [MW])}.c
theorem aBg:R9 53 f53:=K9 53
def f54:L6:={c:=_:J6 (fE 54 [])}.c
theorem aBh:R9 54 f54:=K9 54
def f55:L6:={c:=_:J6 (fE 55 [])}.c
theorem aBi:R9 55 f55:=K9 55
end
end Go.Proofs.YtfnlnpllpfhhnaaGreatDoor.TT

/- The tables: functions of the program, their code computed from it; no condition. -/
import Derived.Test.YtfnlnpllpfhhnaaGreatDoorQB6
import Derived.KernelRfl
import Derived.Test.YtfnlnpllpfhhnaaGreatDoorProg
set_option linter.all false
namespace Go.Proofs.YtfnlnpllpfhhnaaGreatDoor.TT
open Go Go.AM
set_option maxRecDepth 100000
attribute [local irreducible] aS L8 sj jd sM bg gH gL gR G7 sH sL sR gF Hu Hw IK Hy BK Lc iOr Ld oK EY Ze YK YL Zf YM eH EZ Zg Zh sLe sGt sGe Ba iC mR dS qV dY gT eF bF nX iF CZ Le IW Gq VA Fa IX xG qW Bb nY tQ H8 xH Bc jY jE tT uK pExt HV xI Lf SX jQ Q0 X9 kS aT tX qd qX I8 tY iG jF PU iH mV tZ Bd lu Bf xK qY jy qZ nZ IZ bK vM K5 rcR bL KZ HY nO rcE uM gP jW gLk gE sP lJ xq Fg dcL Bg Ik Zl ghP PX kW bM qh mX dx oo kI qj ru nR oL
set_option maxHeartbeats 4000000
noncomputable section
def f3:L6:={c:=_:J6 (fE 3 [])}.c
theorem is3:R9 3 f3:=K9 3
def fq4:bU 4:={c:=_}
def f5:L6:={c:=_:J6 (fE 5 [])}.c
theorem is5:R9 5 f5:=K9 5
def ajx:SC:={c:=_:J6 (lE 6 0 [])}.c
attribute [local irreducible] ajx
def anA:SC:={c:=_:J6 (lE 6 1 [ajx])}.c
attribute [local irreducible] anA
def f6:L6:={c:=_:J6 (fE 6 [ajx,anA])}.c
theorem is6:R9 6 f6:=K9 6
def f7:L6:={c:=_:J6 (fE 7 [])}.c
theorem is7:R9 7 f7:=K9 7
def f8:L6:=cT Tryz.prog (mg Tryz.prog 8) false false 8
theorem is8:R9 8 f8:=isQ
def f9:L6:={c:=_:J6 (fE 9 [])}.c
theorem is9:R9 9 f9:=K9 9
def f10:L6:={c:=_:J6 (fE 10 [])}.c
theorem aAD:R9 10 f10:=K9 10
def f11:L6:={c:=_:J6 (fE 11 [])}.c
theorem aAE:R9 11 f11:=K9 11
def f12:L6:={c:=_:J6 (fE 12 [])}.c
theorem aAF:R9 12 f12:=K9 12
def f13:L6:=⟨false,[some 0,some 1],8,[.tmp 7],dx (bM (KZ (qX (G7 gH)) (sR sH) (KZ (qX (G7 (gL gH))) (sL (sL sH)) (vM (eF (bg ff)) (sL (sL (sL sH))) bK)))) (dx (bM (K5 (H8 20 (G7 (gR gH))) (bL (X9 8 L8) (K5 (H8 20 (G7 (gL (gL gH)))) (bL (X9 8 L8) (nO (jy 45 [jd,L8]) (vM (eF L8) (sL (sR sH)) bK))))))) (dx (bM (K5 (H8 28 (G7 (gR gH))) (K5 (H8 1 L8) (bL (Q0 L8) (K5 (H8 28 (G7 (gL (gL gH)))) (K5 (H8 1 L8) (bL (Q0 L8) (nO (jy 34 [sM,L8]) (vM (eF L8) (sR (sR sH)) bK))))))))) (dx (bM (K5 (H8 0 (G7 (gR gH))) (bL (Q0 L8) (K5 (H8 0 (G7 (gL (gL gH)))) (bL (Q0 L8) (K5 (CZ EY EZ jd L8) (K5 (gP L8 true (H8 1 (G7 (gR gH)))) (bL (jW sj true (Q0 L8)) (K5 (gP jd true (H8 1 (G7 (gL (gL gH))))) (bL (jW sM true (Q0 L8)) (K5 (gP (aS 4) true (CZ EY EZ jd L8)) (K5 (bF (aS 5) L8 (bg ff)) (K5 (gP L8 true (H8 2 (G7 (gR gH)))) (bL (jW sj true (Q0 L8)) (K5 (gP jd true (H8 2 (G7 (gL (gL gH))))) (bL (jW sM true (Q0 L8)) (K5 (gP (aS 4) true (CZ EY EZ jd L8)) (K5 (bF (aS 5) L8 (bg ff)) (K5 (gP L8 true (H8 3 (G7 (gR gH)))) (bL (jW sj true (Q0 L8)) (K5 (gP jd true (H8 3 (G7 (gL (gL gH))))) (bL (jW sM true (Q0 L8)) (K5 (gP (aS 4) true (CZ EY EZ jd L8)) (K5 (bF (aS 5) L8 (bg ff)) (vM (eF L8) (sR (sL sH)) bK))))))))))))))))))))))))) (dx (bM (K5 (gP (G7 (gR (gL gH))) true (H8 4 (G7 (gR gH)))) (bL (jW (G7 (gR (gL gH))) true (X9 2 L8)) (K5 (gP (G7 (gR (gL gH))) true (H8 4 (G7 (gL (gL gH))))) (bL (jW (G7 (gR (gL gH))) true (X9 2 L8)) (K5 (gP (G7 (gR (gL gH))) true (Gq (dS [.i,.i]) jd L8)) (K5 (bF (G7 (gR (gL gH))) L8 (bg ff)) (K5 (gP L8 true (H8 6 (G7 (gR gH)))) (bL (jW sj true (X9 8 L8)) (K5 (gP jd true (H8 6 (G7 (gL (gL gH))))) (bL (jW sM true (X9 8 L8)) (K5 (gP (aS 4) true (Gq (dS [.i,.i,.i,.i,.i,.i,.i,.i]) jd L8)) (K5 (bF (aS 5) L8 (bg ff)) (K5 (gP L8 true (H8 14 (G7 (gR gH)))) (bL (jW sj true (X9 2 L8)) (K5 (gP jd true (H8 14 (G7 (gL (gL gH))))) (bL (jW sM true (X9 2 L8)) (K5 (gP (aS 4) true (Gq (dS [.i,.i]) jd L8)) (K5 (bF (aS 5) L8 (bg ff)) (K5 (gP L8 true (H8 16 (G7 (gR gH)))) (bL (jW sj true (X9 4 L8)) (K5 (gP jd true (H8 16 (G7 (gL (gL gH))))) (bL (jW sM true (X9 4 L8)) (K5 (gP (aS 4) true (Gq (dS [.i,.i,.i,.i]) jd L8)) (K5 (bF (aS 5) L8 (bg ff)) (K5 (gP L8 true (eF (G7 (gL (gR gH))))) (K5 (bF sj L8 (bg ff)) (K5 (gP L8 true (H8 28 (G7 (gR gH)))) (K5 (gP sj true (H8 0 L8)) (bL (jW jd true (Q0 L8)) (K5 (gP sM true (H8 28 (G7 (gL (gL gH))))) (K5 (gP (aS 4) true (H8 0 L8)) (bL (jW (aS 5) true (Q0 L8)) (K5 (gP (aS 6) true (CZ EY EZ sM L8)) (K5 (bF (aS 7) L8 (bg ff)) (K5 (gP L8 true (eF (G7 (gR (gR gH))))) (K5 (bF sj L8 (bg ff)) (K5 (gP L8 true (H8 30 (G7 (gR gH)))) (bL (jW sj true (X9 2 L8)) (K5 (gP jd true (H8 30 (G7 (gL (gL gH))))) (bL (jW sM true (X9 2 L8)) (K5 (gP (aS 4) true (Gq (dS [.i,.i]) jd L8)) (K5 (bF (aS 5) L8 (bg ff)) (vM (eF L8) (sL (sL (sL sH))) bK)))))))))))))))))))))))))))))))))))))))))))) nR)))),none⟩
theorem aAG:R9 13 f13:=K9 13
def f14:L6:={c:=_:J6 (fE 14 [])}.c
theorem aAH:R9 14 f14:=K9 14
def f15:L6:={c:=_:J6 (fE 15 [])}.c
theorem aAI:R9 15 f15:=K9 15
def f16:L6:={c:=_:J6 (fE 16 [])}.c
theorem is16:R9 16 f16:=K9 16
def zO:SC:={c:=_:J6 (lE 17 0 [])}.c
attribute [local irreducible] zO
def f17:L6:={c:=_:J6 (fE 17 [zO])}.c
theorem aAJ:R9 17 f17:=K9 17
def Ke:SC:={c:=_:J6 (lE 18 0 [])}.c
attribute [local irreducible] Ke
def f18:L6:={c:=_:J6 (fE 18 [Ke])}.c
theorem aAK:R9 18 f18:=K9 18
def f19:L6:=⟨false,[some 0,some 1],6,[.tmp 5],dx (bM (KZ (qX (G7 gH)) (sR sH) (KZ (qX (G7 (gL gH))) (sL (sL sH)) (vM (eF (bg ff)) (sL (sR sH)) bK)))) (dx (mX 0 (xq (X9 32 (G7 (gR gH))) 0 gF (PX (jy 51 [L8]) Ik gF (xq (X9 32 (G7 (gL (gL gH)))) 1 gF (PX (jy 51 [L8]) Ik gF (lJ (Gq (dS [.i,.i]) jd L8) gF (lJ (eF L8) gF (lJ (gP L8 true (H8 2 (G7 (gR gH)))) gF (xq (jW sj true (Q0 L8)) 0 gF (lJ (gP jd true (H8 2 (G7 (gL (gL gH))))) gF (xq (jW sM true (Q0 L8)) 0 gF (lJ (gP (aS 4) true (CZ EY EZ jd L8)) gF (lJ (bF (aS 5) L8 (bg ff)) gF (lJ (eF L8) gF (lJ (gP L8 true (H8 3 (G7 (gR gH)))) gF (xq (jW sj true (Q0 L8)) 0 gF (lJ (gP jd true (H8 3 (G7 (gL (gL gH))))) gF (xq (jW sM true (Q0 L8)) 0 gF (lJ (gP (aS 4) true (CZ EY EZ jd L8)) gF (lJ (bF (aS 5) L8 (bg ff)) gF (lJ (eF L8) gF (lJ (gP L8 true (H8 4 (G7 (gR gH)))) gF (xq (jW sj true (X9 2 L8)) 0 gF (lJ (gP jd true (H8 4 (G7 (gL (gL gH))))) gF (xq (jW sM true (X9 2 L8)) 0 gF (lJ (gP (aS 4) true (Gq (dS [.i,.i]) jd L8)) gF (lJ (bF (aS 5) L8 (bg ff)) gF (lJ (eF L8) gF (lJ (gP L8 true (H8 6 (G7 (gR gH)))) gF (xq (jW sj true (X9 8 L8)) 0 gF (lJ (gP jd true (H8 6 (G7 (gL (gL gH))))) gF (xq (jW sM true (X9 8 L8)) 0 gF (lJ (gP (aS 4) true (Gq (dS [.i,.i,.i,.i,.i,.i,.i,.i]) jd L8)) gF (lJ (bF (aS 5) L8 (bg ff)) gF (lJ (eF L8) gF (lJ (gP L8 true (H8 14 (G7 (gR gH)))) gF (xq (jW sj true (X9 2 L8)) 0 gF (lJ (gP jd true (H8 14 (G7 (gL (gL gH))))) gF (xq (jW sM true (X9 2 L8)) 0 gF (lJ (gP (aS 4) true (Gq (dS [.i,.i]) jd L8)) gF (lJ (bF (aS 5) L8 (bg ff)) gF (lJ (eF L8) gF (lJ (gP L8 true (H8 16 (G7 (gR gH)))) gF (xq (jW sj true (X9 4 L8)) 0 gF (lJ (gP jd true (H8 16 (G7 (gL (gL gH))))) gF (xq (jW sM true (X9 4 L8)) 0 gF (lJ (gP (aS 4) true (Gq (dS [.i,.i,.i,.i]) jd L8)) gF (lJ (bF (aS 5) L8 (bg ff)) gF (lJ (eF L8) gF (lJ (gP L8 true (H8 30 (G7 (gR gH)))) gF (xq (jW sj true (X9 2 L8)) 0 gF (lJ (gP jd true (H8 30 (G7 (gL (gL gH))))) gF (xq (jW sM true (X9 2 L8)) 0 gF (lJ (gP (aS 4) true (Gq (dS [.i,.i]) jd L8)) gF (lJ (bF (aS 5) L8 (bg ff)) gF (lJ (eF L8) (sR (sL sH)) sP)))))))))))))))))))))))))))))))))))))))))))))))))))))))) (dx (bM (K5 (gP (G7 (gR (gL gH))) true (H8 20 (G7 (gR gH)))) (bL (jW (G7 (gR (gL gH))) true (X9 8 L8)) (K5 (gP (G7 (gR (gL gH))) true (H8 20 (G7 (gL (gL gH))))) (bL (jW (G7 (gR (gL gH))) true (X9 8 L8)) (nO (gE (G7 (gR (gL gH))) true (jy 52 [jd,L8])) (K5 (bF (G7 (gR (gL gH))) L8 (bg ff)) (K5 (gP L8 true (H8 28 (G7 (gR gH)))) (K5 (gP sj true (H8 0 L8)) (bL (jW jd true (Q0 L8)) (K5 (gP sM true (H8 28 (G7 (gL (gL gH))))) (K5 (gP (aS 4) true (H8 0 L8)) (bL (jW (aS 5) true (Q0 L8)) (K5 (gP (aS 6) true (CZ EY EZ sM L8)) (K5 (bF (aS 7) L8 (bg ff)) (K5 (gP L8 true (H8 28 (G7 (gR gH)))) (K5 (gP sj true (H8 1 L8)) (bL (jW jd true (Q0 L8)) (K5 (gP sM true (H8 28 (G7 (gL (gL gH))))) (K5 (gP (aS 4) true (H8 1 L8)) (bL (jW (aS 5) true (Q0 L8)) (nO (gE (aS 6) true (jy 53 [sM,L8])) (K5 (bF (aS 7) L8 (bg ff)) (vM (eF L8) (sL (sR sH)) bK)))))))))))))))))))))))) nR)),none⟩
theorem aAL:R9 19 f19:=K9 19
def BA:SC:={c:=_:J6 (lE 20 0 [])}.c
attribute [local irreducible] BA
def f20:L6:={c:=_:J6 (fE 20 [BA])}.c
theorem aAM:R9 20 f20:=K9 20
def Kg:SC:={c:=_:J6 (lE 21 0 [])}.c
attribute [local irreducible] Kg
def f21:L6:={c:=_:J6 (fE 21 [Kg])}.c
theorem aAN:R9 21 f21:=K9 21
def Hg:SC:={c:=_:J6 (lE 22 0 [])}.c
attribute [local irreducible] Hg
def f22:L6:={c:=_:J6 (fE 22 [Hg])}.c
theorem aAO:R9 22 f22:=K9 22
def f23:L6:={c:=_:J6 (fE 23 [])}.c
theorem aAP:R9 23 f23:=K9 23
def agN:SC:={c:=_:J6 (lE 24 0 [])}.c
attribute [local irreducible] agN
def f24:L6:={c:=_:J6 (fE 24 [agN])}.c
theorem aAQ:R9 24 f24:=K9 24
def agO:SC:={c:=_:J6 (lE 25 0 [])}.c
attribute [local irreducible] agO
def f25:L6:={c:=_:J6 (fE 25 [agO])}.c
theorem aAR:R9 25 f25:=K9 25
def f26:L6:={c:=_:J6 (fE 26 [])}.c
theorem aAS:R9 26 f26:=K9 26
def f27:L6:={c:=_:J6 (fE 27 [])}.c
theorem aAT:R9 27 f27:=K9 27
def Rp:SC:={c:=_:J6 (lE 28 0 [])}.c
attribute [local irreducible] Rp
def f28:L6:={c:=_:J6 (fE 28 [Rp])}.c
theorem aAU:R9 28 f28:=K9 28
end
end Go.Proofs.YtfnlnpllpfhhnaaGreatDoor.TT

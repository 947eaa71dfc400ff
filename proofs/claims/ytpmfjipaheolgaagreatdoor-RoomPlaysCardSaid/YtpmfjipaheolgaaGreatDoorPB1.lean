/- The tables: functions of the program, their code computed from it; no condition. -/
import Derived.Test.YtpmfjipaheolgaaGreatDoorPB6
import Derived.KernelRfl
import Derived.Test.YtpmfjipaheolgaaGreatDoorProg
set_option linter.all false
namespace Go.Proofs.YtpmfjipaheolgaaGreatDoor.TT
open Go Go.AM
set_option maxRecDepth 100000
open Nat (beq ble blt)
attribute [local irreducible] bE N9 uQ jJ vT bO gH gL gR G5 sH sL sR gT Oe Qz TP QA EO Lv iOr Yg Ah Hw iNe iLt iLe iGt iGe fZ Hy sNe sLt sLe sGt sGe II jQ um gy xW iR kI fI dw vW ou Hz Yh TR IU pNe Oi TS IV BI Me vX EP H9 IW Mf ow qV ER Dc pExt QD IX Yi pMm oQ U6 ak nX dH ET xY uR J2 EU mY qX TU kZ vY EW Mg lu Mh IZ BJ jZ BK vZ TW dz xV K8 rcR cZ Ol QF qE rcE Df gP kJ gLk gE xZ mE yG Oo dcL Mj Ls ghD ghP Uc qx dB yH rF dX wm qF yI BM rG Ai
set_option maxHeartbeats 4000000
noncomputable section
def UW:SC:={c:=_:J5 (lE 4 0 [])}.c
attribute [local irreducible] UW
def Ct:SC:={c:=_:J5 (lE 4 1 [UW])}.c
attribute [local irreducible] Ct
def f4:L6:={c:=_:J5 (fE 4 [UW,Ct])}.c
theorem is4:U2 4 f4:=K9 4
def Sl:SC:={c:=_:J5 (lE 5 0 [])}.c
attribute [local irreducible] Sl
def f5:L6:={c:=_:J5 (fE 5 [Sl])}.c
theorem is5:U2 5 f5:=K9 5
def f6:L6:=cT Tryz.prog (mh Tryz.prog 6) false false 6
theorem is6:U2 6 f6:=isQ
def fq8:Lu 8:={c:=_}
def Kh:SC:={c:=_:J5 (lE 14 0 [])}.c
attribute [local irreducible] Kh
def f14:L6:={c:=_:J5 (fE 14 [Kh])}.c
theorem atZ:U2 14 f14:=K9 14
def f15:L6:={c:=_:J5 (fE 15 [])}.c
theorem au0:U2 15 f15:=K9 15
def f16:L6:={c:=_:J5 (fE 16 [])}.c
theorem is16:U2 16 f16:=K9 16
def f17:L6:={c:=_:J5 (fE 17 [])}.c
theorem au1:U2 17 f17:=K9 17
def f18:L6:=⟨false,[some 0,some 1],8,[.tmp 7],dX (dB (Ol (uR (G5 gH)) (sR sH) (Ol (uR (G5 (gL gH))) (sL (sL sH)) (xV (fI (bO ff)) (sL (sL (sL sH))) dz)))) (dX (dB (K8 (H9 20 (G5 (gR gH))) (cZ (ak 8 N9) (K8 (H9 20 (G5 (gL (gL gH)))) (cZ (ak 8 N9) (qE (jZ 67 [jJ,N9]) (xV (fI N9) (sL (sR sH)) dz))))))) (dX (dB (K8 (H9 28 (G5 (gR gH))) (K8 (H9 1 N9) (cZ (U6 N9) (K8 (H9 28 (G5 (gL (gL gH)))) (K8 (H9 1 N9) (cZ (U6 N9) (qE (jZ 38 [vT,N9]) (xV (fI N9) (sR (sR sH)) dz))))))))) (dX (dB (K8 (H9 0 (G5 (gR gH))) (cZ (U6 N9) (K8 (H9 0 (G5 (gL (gL gH)))) (cZ (U6 N9) (K8 (Hz Hw Hy jJ N9) (K8 (gP N9 true (H9 1 (G5 (gR gH)))) (cZ (kJ uQ true (U6 N9)) (K8 (gP jJ true (H9 1 (G5 (gL (gL gH))))) (cZ (kJ vT true (U6 N9)) (K8 (gP (bE 4) true (Hz Hw Hy jJ N9)) (K8 (dw (bE 5) N9 (bO ff)) (K8 (gP N9 true (H9 2 (G5 (gR gH)))) (cZ (kJ uQ true (U6 N9)) (K8 (gP jJ true (H9 2 (G5 (gL (gL gH))))) (cZ (kJ vT true (U6 N9)) (K8 (gP (bE 4) true (Hz Hw Hy jJ N9)) (K8 (dw (bE 5) N9 (bO ff)) (K8 (gP N9 true (H9 3 (G5 (gR gH)))) (cZ (kJ uQ true (U6 N9)) (K8 (gP jJ true (H9 3 (G5 (gL (gL gH))))) (cZ (kJ vT true (U6 N9)) (K8 (gP (bE 4) true (Hz Hw Hy jJ N9)) (K8 (dw (bE 5) N9 (bO ff)) (xV (fI N9) (sR (sL sH)) dz))))))))))))))))))))))))) (dX (dB (K8 (gP (G5 (gR (gL gH))) true (H9 4 (G5 (gR gH)))) (cZ (kJ (G5 (gR (gL gH))) true (ak 2 N9)) (K8 (gP (G5 (gR (gL gH))) true (H9 4 (G5 (gL (gL gH))))) (cZ (kJ (G5 (gR (gL gH))) true (ak 2 N9)) (K8 (gP (G5 (gR (gL gH))) true (IU (gy [.i,.i]) jJ N9)) (K8 (dw (G5 (gR (gL gH))) N9 (bO ff)) (K8 (gP N9 true (H9 6 (G5 (gR gH)))) (cZ (kJ uQ true (ak 8 N9)) (K8 (gP jJ true (H9 6 (G5 (gL (gL gH))))) (cZ (kJ vT true (ak 8 N9)) (K8 (gP (bE 4) true (IU (gy [.i,.i,.i,.i,.i,.i,.i,.i]) jJ N9)) (K8 (dw (bE 5) N9 (bO ff)) (K8 (gP N9 true (H9 14 (G5 (gR gH)))) (cZ (kJ uQ true (ak 2 N9)) (K8 (gP jJ true (H9 14 (G5 (gL (gL gH))))) (cZ (kJ vT true (ak 2 N9)) (K8 (gP (bE 4) true (IU (gy [.i,.i]) jJ N9)) (K8 (dw (bE 5) N9 (bO ff)) (K8 (gP N9 true (H9 16 (G5 (gR gH)))) (cZ (kJ uQ true (ak 4 N9)) (K8 (gP jJ true (H9 16 (G5 (gL (gL gH))))) (cZ (kJ vT true (ak 4 N9)) (K8 (gP (bE 4) true (IU (gy [.i,.i,.i,.i]) jJ N9)) (K8 (dw (bE 5) N9 (bO ff)) (K8 (gP N9 true (fI (G5 (gL (gR gH))))) (K8 (dw uQ N9 (bO ff)) (K8 (gP N9 true (H9 28 (G5 (gR gH)))) (K8 (gP uQ true (H9 0 N9)) (cZ (kJ jJ true (U6 N9)) (K8 (gP vT true (H9 28 (G5 (gL (gL gH))))) (K8 (gP (bE 4) true (H9 0 N9)) (cZ (kJ (bE 5) true (U6 N9)) (K8 (gP (bE 6) true (Hz Hw Hy vT N9)) (K8 (dw (bE 7) N9 (bO ff)) (K8 (gP N9 true (fI (G5 (gR (gR gH))))) (K8 (dw uQ N9 (bO ff)) (K8 (gP N9 true (H9 30 (G5 (gR gH)))) (cZ (kJ uQ true (ak 2 N9)) (K8 (gP jJ true (H9 30 (G5 (gL (gL gH))))) (cZ (kJ vT true (ak 2 N9)) (K8 (gP (bE 4) true (IU (gy [.i,.i]) jJ N9)) (K8 (dw (bE 5) N9 (bO ff)) (xV (fI N9) (sL (sL (sL sH))) dz)))))))))))))))))))))))))))))))))))))))))))) rG)))),none⟩
theorem au2:U2 18 f18:=K9 18
def Ki:SC:={c:=_:J5 (lE 19 0 [])}.c
attribute [local irreducible] Ki
def f19:L6:={c:=_:J5 (fE 19 [Ki])}.c
theorem au3:U2 19 f19:=K9 19
def zM:SC:={c:=_:J5 (lE 20 0 [])}.c
attribute [local irreducible] zM
def f20:L6:={c:=_:J5 (fE 20 [zM])}.c
theorem au4:U2 20 f20:=K9 20
def f21:L6:={c:=_:J5 (fE 21 [])}.c
theorem au5:U2 21 f21:=K9 21
def Sn:SC:={c:=_:J5 (lE 22 0 [])}.c
attribute [local irreducible] Sn
def f22:L6:={c:=_:J5 (fE 22 [Sn])}.c
theorem au6:U2 22 f22:=K9 22
def Sq:SC:={c:=_:J5 (lE 23 0 [])}.c
attribute [local irreducible] Sq
def f23:L6:={c:=_:J5 (fE 23 [Sq])}.c
theorem au7:U2 23 f23:=K9 23
def He:SC:={c:=_:J5 (lE 24 0 [])}.c
attribute [local irreducible] He
def Sr:SC:={c:=_:J5 (lE 24 1 [He])}.c
attribute [local irreducible] Sr
def f24:L6:={c:=_:J5 (fE 24 [He,Sr])}.c
theorem au8:U2 24 f24:=K9 24
def Sv:SC:={c:=_:J5 (lE 25 0 [])}.c
attribute [local irreducible] Sv
def f25:L6:={c:=_:J5 (fE 25 [Sv])}.c
theorem au9:U2 25 f25:=K9 25
def Hf:SC:={c:=_:J5 (lE 26 0 [])}.c
attribute [local irreducible] Hf
def f26:L6:={c:=_:J5 (fE 26 [Hf])}.c
theorem aua:U2 26 f26:=K9 26
def f27:L6:={c:=_:J5 (fE 27 [])}.c
theorem aub:U2 27 f27:=K9 27
def Kj:SC:={c:=_:J5 (lE 28 0 [])}.c
attribute [local irreducible] Kj
def f28:L6:={c:=_:J5 (fE 28 [Kj])}.c
theorem auc:U2 28 f28:=K9 28
def f29:L6:={c:=_:J5 (fE 29 [])}.c
theorem aud:U2 29 f29:=K9 29
def f30:L6:={c:=_:J5 (fE 30 [])}.c
theorem aue:U2 30 f30:=K9 30
def Hg:SC:={c:=_:J5 (lE 31 0 [])}.c
attribute [local irreducible] Hg
def f31:L6:={c:=_:J5 (fE 31 [Hg])}.c
theorem auf:U2 31 f31:=K9 31
def f32:L6:={c:=_:J5 (fE 32 [])}.c
theorem is32:U2 32 f32:=K9 32
def aug:dG 33:={c:=_}
def ab1:Lu 34:={c:=_}
def ala:Lu 35:={c:=_}
def ahQ:Lu 36:={c:=_}
def auh:dG 37:={c:=_}
def Nn:SC:={c:=_:J5 (lE 38 0 [])}.c
attribute [local irreducible] Nn
def f38:L6:={c:=_:J5 (fE 38 [Nn])}.c
theorem aui:U2 38 f38:=K9 38
def f39:L6:={c:=_:J5 (fE 39 [])}.c
theorem auj:U2 39 f39:=K9 39
def f40:L6:={c:=_:J5 (fE 40 [])}.c
theorem auk:U2 40 f40:=K9 40
def f41:L6:=cT Tryz.prog (mh Tryz.prog 41) false false 41
theorem aul:U2 41 f41:=isQ
def aum:dG 42:={c:=_}
def f43:L6:=cT Tryz.prog (mh Tryz.prog 43) false false 43
theorem aun:U2 43 f43:=isQ
def f44:L6:={c:=_:J5 (fE 44 [])}.c
theorem auo:U2 44 f44:=K9 44
def aup:Lu 45:={c:=_}
def auq:Lu 46:={c:=_}
def f48:L6:={c:=_:J5 (fE 48 [])}.c
theorem aur:U2 48 f48:=K9 48
def Np:SC:={c:=_:J5 (lE 53 0 [])}.c
attribute [local irreducible] Np
def Xe:SC:={c:=_:J5 (lE 53 1 [Np])}.c
attribute [local irreducible] Xe
def Xf:SC:={c:=_:J5 (lE 53 2 [Np,Xe])}.c
attribute [local irreducible] Xf
def Xg:SC:={c:=_:J5 (lE 53 3 [Np,Xe,Xf])}.c
attribute [local irreducible] Xg
def f53:L6:={c:=_:J5 (fE 53 [Np,Xe,Xf,Xg])}.c
theorem aus:U2 53 f53:=K9 53
def f56:L6:={c:=_:J5 (fE 56 [])}.c
theorem aut:U2 56 f56:=K9 56
def f57:L6:={c:=_:J5 (fE 57 [])}.c
theorem auu:U2 57 f57:=K9 57
def f58:L6:={c:=_:J5 (fE 58 [])}.c
theorem auv:U2 58 f58:=K9 58
def f59:L6:={c:=_:J5 (fE 59 [])}.c
theorem auw:U2 59 f59:=K9 59
def Nq:SC:={c:=_:J5 (lE 60 0 [])}.c
attribute [local irreducible] Nq
def f60:L6:={c:=_:J5 (fE 60 [Nq])}.c
theorem auy:U2 60 f60:=K9 60
def f61:L6:={c:=_:J5 (fE 61 [])}.c
theorem auz:U2 61 f61:=K9 61
def f62:L6:={c:=_:J5 (fP 62 [])}.c
theorem auA:U2 62 f62:=isP 62
end
end Go.Proofs.YtpmfjipaheolgaaGreatDoor.TT

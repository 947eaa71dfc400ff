/- The tables: functions of the program, their code computed from it; no condition. -/
import Derived.Test.YtfnlnpllpfhhnaaGreatDoorPB6
import Derived.KernelRfl
import Derived.Test.YtfnlnpllpfhhnaaGreatDoorProg
set_option linter.all false
namespace Go.Proofs.YtfnlnpllpfhhnaaGreatDoor.TT
open Go Go.AM
set_option maxRecDepth 100000
attribute [local irreducible] Y9 K5 qC iy qJ au gH gL gR G6 sH sL sR eU Gd GJ GK JO Ap GL iOr JQ mW Dz XR Xy Xz XT XA gy DF XU XV sLe sGt sGe wz fU kS dw qL bR fC dG aB mD gB BL GU GV EZ Uz Ea GX wB pK zT nT rM G8 wC wD nU gD rO vI pExt Gf wE GY XB iZ L9 U3 jF aN rP nV pO U4 rQ iI iO Rn gF kV rR zU sQ zV wH pR iJ pU mE GZ aG uz J2 rcR aH JL Gg lT rcE sS gP jg gLk gE qN jU vV JV dcL zW Gt XD ghP OI jG aI nX kW bE mH jv nY pV lW mX
set_option maxHeartbeats 4000000
noncomputable section
def aBq:aT 29:={c:=_}
def Zi:JM 30:={c:=_}
def anV:JM 31:={c:=_}
def ake:JM 32:={c:=_}
def aBr:aT 33:={c:=_}
def Lm:SC:={c:=_:I4 (lE 34 0 [])}.c
attribute [local irreducible] Lm
def f34:K3:={c:=_:I4 (fE 34 [Lm])}.c
theorem aBs:Q0 34 f34:=J7 34
def f35:K3:=cT Tryz.prog (kE Tryz.prog 35) false false 35
theorem aBt:Q0 35 f35:=isQ
def f36:K3:={c:=_:I4 (fP 36 [])}.c
theorem Jb:Q0 36 f36:=isP 36
def f37:K3:={c:=_:I4 (fE 37 [])}.c
theorem aBu:Q0 37 f37:=J7 37
def f38:K3:={c:=_:I4 (fE 38 [])}.c
theorem aBv:Q0 38 f38:=J7 38
def Lr:SC:={c:=_:I4 (lE 39 0 [])}.c
attribute [local irreducible] Lr
def f39:K3:={c:=_:I4 (fE 39 [Lr])}.c
theorem aBw:Q0 39 f39:=J7 39
def f40:K3:={c:=_:I4 (fR 40 [])}.c
theorem aBx:Q0 40 f40:=isR 40
def f41:K3:={c:=_:I4 (fE 41 [])}.c
theorem aBy:Q0 41 f41:=J7 41
def aha:SC:={c:=_:I4 (lE 42 0 [])}.c
attribute [local irreducible] aha
def f42:K3:={c:=_:I4 (fE 42 [aha])}.c
theorem aBz:Q0 42 f42:=J7 42
def Zj:SC:={c:=_:I4 (lE 43 0 [])}.c
attribute [local irreducible] Zj
def ahb:SC:={c:=_:I4 (lE 43 1 [Zj])}.c
attribute [local irreducible] ahb
def f43:K3:={c:=_:I4 (fE 43 [Zj,ahb])}.c
theorem aBA:Q0 43 f43:=J7 43
def ahc:SC:={c:=_:I4 (lE 44 0 [])}.c
attribute [local irreducible] ahc
def f44:K3:={c:=_:I4 (fE 44 [ahc])}.c
theorem aBB:Q0 44 f44:=J7 44
def f45:K3:=⟨false,[some 0,some 1],7,[.tmp 6],bE (aI (JL (pO (G6 gH)) (sR sH) (JL (pO (G6 (gL gH))) (sL (sL sH)) (uz (dG (au ff)) (sR (sR sH)) aG)))) (bE (aI (J2 (G8 2 (G6 (gR gH))) (aH (L9 K5) (J2 (G8 2 (G6 (gL (gL gH)))) (aH (L9 K5) (lT (iJ 34 [iy,K5]) (uz (dG K5) (sR (sL sH)) aG))))))) (bE (aI (J2 (G8 3 (G6 (gR gH))) (aH (L9 K5) (J2 (G8 3 (G6 (gL (gL gH)))) (aH (L9 K5) (lT (iJ 34 [iy,K5]) (uz (dG K5) (sL (sR sH)) aG))))))) (bE (aI (J2 (gP (G6 (gR (gL gH))) true (dG (G6 (gL (gR gH))))) (J2 (aB (G6 (gR (gL gH))) K5 (au ff)) (J2 (gP K5 true (G8 0 (G6 (gR gH)))) (aH (jg qC true (L9 K5)) (J2 (gP iy true (G8 0 (G6 (gL (gL gH))))) (aH (jg qJ true (L9 K5)) (J2 (gP (Y9 4) true (BL Dz DF iy K5)) (J2 (aB (Y9 5) K5 (au ff)) (J2 (gP K5 true (G8 1 (G6 (gR gH)))) (aH (jg qC true (L9 K5)) (J2 (gP iy true (G8 1 (G6 (gL (gL gH))))) (aH (jg qJ true (L9 K5)) (J2 (gP (Y9 4) true (BL Dz DF iy K5)) (J2 (aB (Y9 5) K5 (au ff)) (J2 (gP K5 true (G8 4 (G6 (gR gH)))) (aH (jg qC true (L9 K5)) (J2 (gP iy true (G8 4 (G6 (gL (gL gH))))) (aH (jg qJ true (L9 K5)) (J2 (gP (Y9 4) true (BL Dz DF iy K5)) (J2 (aB (Y9 5) K5 (au ff)) (J2 (gP K5 true (G8 5 (G6 (gR gH)))) (aH (jg qC true (L9 K5)) (J2 (gP iy true (G8 5 (G6 (gL (gL gH))))) (aH (jg qJ true (L9 K5)) (J2 (gP (Y9 4) true (BL Dz DF iy K5)) (J2 (aB (Y9 5) K5 (au ff)) (J2 (gP K5 true (G8 6 (G6 (gR gH)))) (aH (jg qC true (U3 2 K5)) (J2 (gP iy true (G8 6 (G6 (gL (gL gH))))) (aH (jg qJ true (U3 2 K5)) (J2 (gP (Y9 4) true (EZ (dw [.i,.i]) iy K5)) (J2 (aB (Y9 5) K5 (au ff)) (uz (dG K5) (sR (sR sH)) aG)))))))))))))))))))))))))))))))))) lW))),none⟩
theorem aBC:Q0 45 f45:=J7 45
def f46:K3:={c:=_:I4 (fE 46 [])}.c
theorem aBD:Q0 46 f46:=J7 46
def ahd:SC:={c:=_:I4 (lE 47 0 [])}.c
attribute [local irreducible] ahd
def f47:K3:={c:=_:I4 (fE 47 [ahd])}.c
theorem aBE:Q0 47 f47:=J7 47
def f48:K3:={c:=_:I4 (fE 48 [])}.c
theorem aBF:Q0 48 f48:=J7 48
def ahe:SC:={c:=_:I4 (lE 49 0 [])}.c
attribute [local irreducible] ahe
def f49:K3:={c:=_:I4 (fE 49 [ahe])}.c
theorem aBG:Q0 49 f49:=J7 49
def ahf:SC:={c:=_:I4 (lE 50 0 [])}.c
attribute [local irreducible] ahf
def f50:K3:={c:=_:I4 (fE 50 [ahf])}.c
theorem aBH:Q0 50 f50:=J7 50
def f51:K3:={c:=_:I4 (fE 51 [])}.c
theorem aBI:Q0 51 f51:=J7 51
def f52:K3:=⟨false,[some 0,some 1],5,[.tmp 4],bE (aI (JL (pO (G6 gH)) (sR sH) (JL (pO (G6 (gL gH))) (sL (sL sH)) (uz (dG (au ff)) (sR (sL sH)) aG)))) (bE (aI (J2 (G8 0 (G6 (gR gH))) (aH (L9 K5) (J2 (G8 0 (G6 (gL (gL gH)))) (aH (L9 K5) (J2 (BL Dz DF iy K5) (J2 (gP K5 true (G8 1 (G6 (gR gH)))) (aH (jg qC true (L9 K5)) (J2 (gP iy true (G8 1 (G6 (gL (gL gH))))) (aH (jg qJ true (L9 K5)) (J2 (gP (Y9 4) true (BL Dz DF iy K5)) (J2 (aB (Y9 5) K5 (au ff)) (J2 (gP K5 true (G8 4 (G6 (gR gH)))) (aH (jg qC true (L9 K5)) (J2 (gP iy true (G8 4 (G6 (gL (gL gH))))) (aH (jg qJ true (L9 K5)) (J2 (gP (Y9 4) true (BL Dz DF iy K5)) (J2 (aB (Y9 5) K5 (au ff)) (J2 (gP K5 true (G8 5 (G6 (gR gH)))) (aH (jg qC true (L9 K5)) (J2 (gP iy true (G8 5 (G6 (gL (gL gH))))) (aH (jg qJ true (L9 K5)) (J2 (gP (Y9 4) true (BL Dz DF iy K5)) (J2 (aB (Y9 5) K5 (au ff)) (J2 (gP K5 true (G8 6 (G6 (gR gH)))) (aH (jg qC true (U3 2 K5)) (J2 (gP iy true (G8 6 (G6 (gL (gL gH))))) (aH (jg qJ true (U3 2 K5)) (J2 (gP (Y9 4) true (EZ (dw [.i,.i]) iy K5)) (J2 (aB (Y9 5) K5 (au ff)) (J2 (gP K5 true (G8 2 (G6 (gR gH)))) (aH (jg qC true (L9 K5)) (J2 (gP iy true (G8 2 (G6 (gL (gL gH))))) (aH (jg qJ true (L9 K5)) (lT (gE (Y9 4) true (iJ 53 [iy,K5])) (J2 (aB (Y9 5) K5 (au ff)) (J2 (gP K5 true (G8 3 (G6 (gR gH)))) (aH (jg qC true (L9 K5)) (J2 (gP iy true (G8 3 (G6 (gL (gL gH))))) (aH (jg qJ true (L9 K5)) (lT (gE (Y9 4) true (iJ 53 [iy,K5])) (J2 (aB (Y9 5) K5 (au ff)) (uz (dG K5) (sR (sL sH)) aG))))))))))))))))))))))))))))))))))))))))))) lW),none⟩
theorem aBJ:Q0 52 f52:=J7 52
def Ls:SC:={c:=_:I4 (lE 53 0 [])}.c
attribute [local irreducible] Ls
def f53:K3:={c:=_:I4 (fE 53 [Ls])}.c
theorem aBK:Q0 53 f53:=J7 53
def f54:K3:={c:=_:I4 (fE 54 [])}.c
theorem aBL:Q0 54 f54:=J7 54
def f55:K3:={c:=_:I4 (fE 55 [])}.c
theorem aBM:Q0 55 f55:=J7 55
end
end Go.Proofs.YtfnlnpllpfhhnaaGreatDoor.TT

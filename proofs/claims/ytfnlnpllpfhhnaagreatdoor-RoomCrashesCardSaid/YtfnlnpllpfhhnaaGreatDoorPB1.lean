/- The tables: functions of the program, their code computed from it; no condition. -/
import Derived.Test.YtfnlnpllpfhhnaaGreatDoorPB6
import Derived.KernelRfl
import Derived.Test.YtfnlnpllpfhhnaaGreatDoorProg
set_option linter.all false
namespace Go.Proofs.YtfnlnpllpfhhnaaGreatDoor.TT
open Go Go.AM
set_option maxRecDepth 100000
attribute [local irreducible] Y9 K5 qC iy qJ au gH gL gR G6 sH sL sR eU Gd GJ GK JO Ap GL iOr JQ mW Dz XR Xy Xz XT XA gy DF XU XV sLe sGt sGe wz fU kS dw qL bR fC dG aB mD gB BL GU GV EZ Uz Ea GX wB pK zT nT rM G8 wC wD nU gD rO vI pExt Gf wE GY XB iZ L9 U3 jF aN rP nV pO U4 rQ iI iO Rn gF kV rR zU sQ zV wH pR iJ pU mE GZ aG uz J2 rcR aH JL Gg lT rcE sS gP jg gLk gE qN jU vV JV dcL zW Gt XD ghP OI jG aI nX kW bE mH jv nY pV lW mX
set_option maxHeartbeats 4000000
noncomputable section
def f3:K3:={c:=_:I4 (fE 3 [])}.c
theorem is3:Q0 3 f3:=J7 3
def fq4:aT 4:={c:=_}
def f5:K3:={c:=_:I4 (fE 5 [])}.c
theorem is5:Q0 5 f5:=J7 5
def SI:SC:={c:=_:I4 (lE 6 0 [])}.c
attribute [local irreducible] SI
def Zh:SC:={c:=_:I4 (lE 6 1 [SI])}.c
attribute [local irreducible] Zh
def f6:K3:={c:=_:I4 (fE 6 [SI,Zh])}.c
theorem is6:Q0 6 f6:=J7 6
def f7:K3:={c:=_:I4 (fE 7 [])}.c
theorem is7:Q0 7 f7:=J7 7
def f8:K3:=cT Tryz.prog (kE Tryz.prog 8) false false 8
theorem is8:Q0 8 f8:=isQ
def f9:K3:={c:=_:I4 (fE 9 [])}.c
theorem is9:Q0 9 f9:=J7 9
def f10:K3:={c:=_:I4 (fE 10 [])}.c
theorem aB7:Q0 10 f10:=J7 10
def f11:K3:={c:=_:I4 (fE 11 [])}.c
theorem aB8:Q0 11 f11:=J7 11
def f12:K3:={c:=_:I4 (fE 12 [])}.c
theorem aB9:Q0 12 f12:=J7 12
def f13:K3:=⟨false,[some 0,some 1],8,[.tmp 7],bE (aI (JL (pO (G6 gH)) (sR sH) (JL (pO (G6 (gL gH))) (sL (sL sH)) (uz (dG (au ff)) (sL (sL (sL sH))) aG)))) (bE (aI (J2 (G8 20 (G6 (gR gH))) (aH (U3 8 K5) (J2 (G8 20 (G6 (gL (gL gH)))) (aH (U3 8 K5) (lT (iJ 45 [iy,K5]) (uz (dG K5) (sL (sR sH)) aG))))))) (bE (aI (J2 (G8 28 (G6 (gR gH))) (J2 (G8 1 K5) (aH (L9 K5) (J2 (G8 28 (G6 (gL (gL gH)))) (J2 (G8 1 K5) (aH (L9 K5) (lT (iJ 34 [qJ,K5]) (uz (dG K5) (sR (sR sH)) aG))))))))) (bE (aI (J2 (G8 0 (G6 (gR gH))) (aH (L9 K5) (J2 (G8 0 (G6 (gL (gL gH)))) (aH (L9 K5) (J2 (BL Dz DF iy K5) (J2 (gP K5 true (G8 1 (G6 (gR gH)))) (aH (jg qC true (L9 K5)) (J2 (gP iy true (G8 1 (G6 (gL (gL gH))))) (aH (jg qJ true (L9 K5)) (J2 (gP (Y9 4) true (BL Dz DF iy K5)) (J2 (aB (Y9 5) K5 (au ff)) (J2 (gP K5 true (G8 2 (G6 (gR gH)))) (aH (jg qC true (L9 K5)) (J2 (gP iy true (G8 2 (G6 (gL (gL gH))))) (aH (jg qJ true (L9 K5)) (J2 (gP (Y9 4) true (BL Dz DF iy K5)) (J2 (aB (Y9 5) K5 (au ff)) (J2 (gP K5 true (G8 3 (G6 (gR gH)))) (aH (jg qC true (L9 K5)) (J2 (gP iy true (G8 3 (G6 (gL (gL gH))))) (aH (jg qJ true (L9 K5)) (J2 (gP (Y9 4) true (BL Dz DF iy K5)) (J2 (aB (Y9 5) K5 (au ff)) (uz (dG K5) (sR (sL sH)) aG))))))))))))))))))))))))) (bE (aI (J2 (gP (G6 (gR (gL gH))) true (G8 4 (G6 (gR gH)))) (aH (jg (G6 (gR (gL gH))) true (U3 2 K5)) (J2 (gP (G6 (gR (gL gH))) true (G8 4 (G6 (gL (gL gH))))) (aH (jg (G6 (gR (gL gH))) true (U3 2 K5)) (J2 (gP (G6 (gR (gL gH))) true (EZ (dw [.i,.i]) iy K5)) (J2 (aB (G6 (gR (gL gH))) K5 (au ff)) (J2 (gP K5 true (G8 6 (G6 (gR gH)))) (aH (jg qC true (U3 8 K5)) (J2 (gP iy true (G8 6 (G6 (gL (gL gH))))) (aH (jg qJ true (U3 8 K5)) (J2 (gP (Y9 4) true (EZ (dw [.i,.i,.i,.i,.i,.i,.i,.i]) iy K5)) (J2 (aB (Y9 5) K5 (au ff)) (J2 (gP K5 true (G8 14 (G6 (gR gH)))) (aH (jg qC true (U3 2 K5)) (J2 (gP iy true (G8 14 (G6 (gL (gL gH))))) (aH (jg qJ true (U3 2 K5)) (J2 (gP (Y9 4) true (EZ (dw [.i,.i]) iy K5)) (J2 (aB (Y9 5) K5 (au ff)) (J2 (gP K5 true (G8 16 (G6 (gR gH)))) (aH (jg qC true (U3 4 K5)) (J2 (gP iy true (G8 16 (G6 (gL (gL gH))))) (aH (jg qJ true (U3 4 K5)) (J2 (gP (Y9 4) true (EZ (dw [.i,.i,.i,.i]) iy K5)) (J2 (aB (Y9 5) K5 (au ff)) (J2 (gP K5 true (dG (G6 (gL (gR gH))))) (J2 (aB qC K5 (au ff)) (J2 (gP K5 true (G8 28 (G6 (gR gH)))) (J2 (gP qC true (G8 0 K5)) (aH (jg iy true (L9 K5)) (J2 (gP qJ true (G8 28 (G6 (gL (gL gH))))) (J2 (gP (Y9 4) true (G8 0 K5)) (aH (jg (Y9 5) true (L9 K5)) (J2 (gP (Y9 6) true (BL Dz DF qJ K5)) (J2 (aB (Y9 7) K5 (au ff)) (J2 (gP K5 true (dG (G6 (gR (gR gH))))) (J2 (aB qC K5 (au ff)) (J2 (gP K5 true (G8 30 (G6 (gR gH)))) (aH (jg qC true (U3 2 K5)) (J2 (gP iy true (G8 30 (G6 (gL (gL gH))))) (aH (jg qJ true (U3 2 K5)) (J2 (gP (Y9 4) true (EZ (dw [.i,.i]) iy K5)) (J2 (aB (Y9 5) K5 (au ff)) (uz (dG K5) (sL (sL (sL sH))) aG)))))))))))))))))))))))))))))))))))))))))))) lW)))),none⟩
theorem aBa:Q0 13 f13:=J7 13
def f14:K3:={c:=_:I4 (fE 14 [])}.c
theorem aBb:Q0 14 f14:=J7 14
def f15:K3:={c:=_:I4 (fE 15 [])}.c
theorem aBd:Q0 15 f15:=J7 15
def f16:K3:={c:=_:I4 (fE 16 [])}.c
theorem is16:Q0 16 f16:=J7 16
def xM:SC:={c:=_:I4 (lE 17 0 [])}.c
attribute [local irreducible] xM
def f17:K3:={c:=_:I4 (fE 17 [xM])}.c
theorem aBe:Q0 17 f17:=J7 17
def ah7:SC:={c:=_:I4 (lE 18 0 [])}.c
attribute [local irreducible] ah7
def f18:K3:={c:=_:I4 (fE 18 [ah7])}.c
theorem aBf:Q0 18 f18:=J7 18
def f19:K3:=⟨false,[some 0,some 1],6,[.tmp 5],bE (aI (JL (pO (G6 gH)) (sR sH) (JL (pO (G6 (gL gH))) (sL (sL sH)) (uz (dG (au ff)) (sL (sR sH)) aG)))) (bE (kW 0 (vV (U3 32 (G6 (gR gH))) 0 eU (OI (iJ 51 [K5]) Gt eU (vV (U3 32 (G6 (gL (gL gH)))) 1 eU (OI (iJ 51 [K5]) Gt eU (jU (EZ (dw [.i,.i]) iy K5) eU (jU (dG K5) eU (jU (gP K5 true (G8 2 (G6 (gR gH)))) eU (vV (jg qC true (L9 K5)) 0 eU (jU (gP iy true (G8 2 (G6 (gL (gL gH))))) eU (vV (jg qJ true (L9 K5)) 0 eU (jU (gP (Y9 4) true (BL Dz DF iy K5)) eU (jU (aB (Y9 5) K5 (au ff)) eU (jU (dG K5) eU (jU (gP K5 true (G8 3 (G6 (gR gH)))) eU (vV (jg qC true (L9 K5)) 0 eU (jU (gP iy true (G8 3 (G6 (gL (gL gH))))) eU (vV (jg qJ true (L9 K5)) 0 eU (jU (gP (Y9 4) true (BL Dz DF iy K5)) eU (jU (aB (Y9 5) K5 (au ff)) eU (jU (dG K5) eU (jU (gP K5 true (G8 4 (G6 (gR gH)))) eU (vV (jg qC true (U3 2 K5)) 0 eU (jU (gP iy true (G8 4 (G6 (gL (gL gH))))) eU (vV (jg qJ true (U3 2 K5)) 0 eU (jU (gP (Y9 4) true (EZ (dw [.i,.i]) iy K5)) eU (jU (aB (Y9 5) K5 (au ff)) eU (jU (dG K5) eU (jU (gP K5 true (G8 6 (G6 (gR gH)))) eU (vV (jg qC true (U3 8 K5)) 0 eU (jU (gP iy true (G8 6 (G6 (gL (gL gH))))) eU (vV (jg qJ true (U3 8 K5)) 0 eU (jU (gP (Y9 4) true (EZ (dw [.i,.i,.i,.i,.i,.i,.i,.i]) iy K5)) eU (jU (aB (Y9 5) K5 (au ff)) eU (jU (dG K5) eU (jU (gP K5 true (G8 14 (G6 (gR gH)))) eU (vV (jg qC true (U3 2 K5)) 0 eU (jU (gP iy true (G8 14 (G6 (gL (gL gH))))) eU (vV (jg qJ true (U3 2 K5)) 0 eU (jU (gP (Y9 4) true (EZ (dw [.i,.i]) iy K5)) eU (jU (aB (Y9 5) K5 (au ff)) eU (jU (dG K5) eU (jU (gP K5 true (G8 16 (G6 (gR gH)))) eU (vV (jg qC true (U3 4 K5)) 0 eU (jU (gP iy true (G8 16 (G6 (gL (gL gH))))) eU (vV (jg qJ true (U3 4 K5)) 0 eU (jU (gP (Y9 4) true (EZ (dw [.i,.i,.i,.i]) iy K5)) eU (jU (aB (Y9 5) K5 (au ff)) eU (jU (dG K5) eU (jU (gP K5 true (G8 30 (G6 (gR gH)))) eU (vV (jg qC true (U3 2 K5)) 0 eU (jU (gP iy true (G8 30 (G6 (gL (gL gH))))) eU (vV (jg qJ true (U3 2 K5)) 0 eU (jU (gP (Y9 4) true (EZ (dw [.i,.i]) iy K5)) eU (jU (aB (Y9 5) K5 (au ff)) eU (jU (dG K5) (sR (sL sH)) qN)))))))))))))))))))))))))))))))))))))))))))))))))))))))) (bE (aI (J2 (gP (G6 (gR (gL gH))) true (G8 20 (G6 (gR gH)))) (aH (jg (G6 (gR (gL gH))) true (U3 8 K5)) (J2 (gP (G6 (gR (gL gH))) true (G8 20 (G6 (gL (gL gH))))) (aH (jg (G6 (gR (gL gH))) true (U3 8 K5)) (lT (gE (G6 (gR (gL gH))) true (iJ 52 [iy,K5])) (J2 (aB (G6 (gR (gL gH))) K5 (au ff)) (J2 (gP K5 true (G8 28 (G6 (gR gH)))) (J2 (gP qC true (G8 0 K5)) (aH (jg iy true (L9 K5)) (J2 (gP qJ true (G8 28 (G6 (gL (gL gH))))) (J2 (gP (Y9 4) true (G8 0 K5)) (aH (jg (Y9 5) true (L9 K5)) (J2 (gP (Y9 6) true (BL Dz DF qJ K5)) (J2 (aB (Y9 7) K5 (au ff)) (J2 (gP K5 true (G8 28 (G6 (gR gH)))) (J2 (gP qC true (G8 1 K5)) (aH (jg iy true (L9 K5)) (J2 (gP qJ true (G8 28 (G6 (gL (gL gH))))) (J2 (gP (Y9 4) true (G8 1 K5)) (aH (jg (Y9 5) true (L9 K5)) (lT (gE (Y9 6) true (iJ 53 [qJ,K5])) (J2 (aB (Y9 7) K5 (au ff)) (uz (dG K5) (sL (sR sH)) aG)))))))))))))))))))))))) lW)),none⟩
theorem aBg:Q0 19 f19:=J7 19
def ah8:SC:={c:=_:I4 (lE 20 0 [])}.c
attribute [local irreducible] ah8
def f20:K3:={c:=_:I4 (fE 20 [ah8])}.c
theorem aBh:Q0 20 f20:=J7 20
def FQ:SC:={c:=_:I4 (lE 21 0 [])}.c
attribute [local irreducible] FQ
def f21:K3:={c:=_:I4 (fE 21 [FQ])}.c
theorem aBi:Q0 21 f21:=J7 21
def ah9:SC:={c:=_:I4 (lE 22 0 [])}.c
attribute [local irreducible] ah9
def f22:K3:={c:=_:I4 (fE 22 [ah9])}.c
theorem aBj:Q0 22 f22:=J7 22
def f23:K3:={c:=_:I4 (fE 23 [])}.c
theorem aBk:Q0 23 f23:=J7 23
def FT:SC:={c:=_:I4 (lE 24 0 [])}.c
attribute [local irreducible] FT
def f24:K3:={c:=_:I4 (fE 24 [FT])}.c
theorem aBl:Q0 24 f24:=J7 24
def Ll:SC:={c:=_:I4 (lE 25 0 [])}.c
attribute [local irreducible] Ll
def f25:K3:={c:=_:I4 (fE 25 [Ll])}.c
theorem aBm:Q0 25 f25:=J7 25
def f26:K3:={c:=_:I4 (fE 26 [])}.c
theorem aBn:Q0 26 f26:=J7 26
def f27:K3:={c:=_:I4 (fE 27 [])}.c
theorem aBo:Q0 27 f27:=J7 27
def Qt:SC:={c:=_:I4 (lE 28 0 [])}.c
attribute [local irreducible] Qt
def f28:K3:={c:=_:I4 (fE 28 [Qt])}.c
theorem aBp:Q0 28 f28:=J7 28
end
end Go.Proofs.YtfnlnpllpfhhnaaGreatDoor.TT

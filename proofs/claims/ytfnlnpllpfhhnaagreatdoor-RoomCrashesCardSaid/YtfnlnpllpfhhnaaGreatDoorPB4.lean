/- The tables: functions of the program, their code computed from it; no condition. -/
import Derived.Test.YtfnlnpllpfhhnaaGreatDoorPB6
import Derived.KernelRfl
import Derived.Test.YtfnlnpllpfhhnaaGreatDoorProg
set_option linter.all false
namespace Go.Proofs.YtfnlnpllpfhhnaaGreatDoor.TT
open Go Go.AM
set_option maxRecDepth 100000
attribute [local irreducible] Y9 K5 qC iy qJ au gH gL gR G6 sH sL sR eU Gd GJ GK JO Ap GL iOr JQ mW Dz XR Xy Xz XT XA gy DF XU XV sLe sGt sGe wz fU kS dw qL bR fC dG aB mD gB BL GU GV EZ Uz Ea GX wB pK zT nT rM G8 wC wD nU gD rO vI pExt Gf wE GY XB iZ L9 U3 jF aN rP nV pO U4 rQ iI iO Rn gF kV rR zU sQ zV wH pR iJ pU mE GZ aG uz J2 rcR aH JL Gg lT rcE sS gP jg gLk gE qN jU vV JV dcL zW Gt XD ghP OI jG aI nX kW bE mH jv nY pV lW mX
set_option maxHeartbeats 4000000
noncomputable section
def Zo:SC:={c:=_:I4 (lE 94 0 [])}.c
attribute [local irreducible] Zo
def ahp:SC:={c:=_:I4 (lE 94 1 [Zo])}.c
attribute [local irreducible] ahp
def f94:K3:={c:=_:I4 (fE 94 [Zo,ahp])}.c
theorem aCm:Q0 94 f94:=J7 94
def CX:SC:={c:=_:I4 (lE 95 0 [])}.c
attribute [local irreducible] CX
def f95:K3:={c:=_:I4 (fE 95 [CX])}.c
theorem aCn:Q0 95 f95:=J7 95
def Lx:SC:={c:=_:I4 (lE 96 0 [])}.c
attribute [local irreducible] Lx
def f96:K3:={c:=_:I4 (fE 96 [Lx])}.c
theorem aCo:Q0 96 f96:=J7 96
def LB:SC:={c:=_:I4 (lE 97 0 [])}.c
attribute [local irreducible] LB
def f97:K3:={c:=_:I4 (fE 97 [LB])}.c
theorem aCp:Q0 97 f97:=J7 97
def f98:K3:={c:=_:I4 (fE 98 [])}.c
theorem aCr:Q0 98 f98:=J7 98
def f99:K3:={c:=_:I4 (fE 99 [])}.c
theorem aCs:Q0 99 f99:=J7 99
def Zp:SC:={c:=_:I4 (lE 100 0 [])}.c
attribute [local irreducible] Zp
def f100:K3:={c:=_:I4 (fE 100 [Zp])}.c
theorem anW:Q0 100 f100:=J7 100
def Zq:SC:={c:=_:I4 (lE 101 0 [])}.c
attribute [local irreducible] Zq
def f101:K3:={c:=_:I4 (fE 101 [Zq])}.c
theorem anX:Q0 101 f101:=J7 101
def SK:SC:={c:=_:I4 (lE 102 0 [])}.c
attribute [local irreducible] SK
def Zr:SC:={c:=_:I4 (lE 102 1 [SK])}.c
attribute [local irreducible] Zr
def f102:K3:={c:=_:I4 (fE 102 [SK,Zr])}.c
theorem anY:Q0 102 f102:=J7 102
def f103:K3:={c:=_:I4 (fE 103 [])}.c
theorem anZ:Q0 103 f103:=J7 103
def f104:K3:={c:=_:I4 (fE 104 [])}.c
theorem ao0:Q0 104 f104:=J7 104
def f105:K3:={c:=_:I4 (fE 105 [])}.c
theorem ao1:Q0 105 f105:=J7 105
def f106:K3:={c:=_:I4 (fE 106 [])}.c
theorem ao2:Q0 106 f106:=J7 106
def Bf:SC:={c:=_:I4 (lE 107 0 [])}.c
attribute [local irreducible] Bf
def EB:SC:={c:=_:I4 (lE 107 1 [Bf])}.c
attribute [local irreducible] EB
def f107:K3:={c:=_:I4 (fE 107 [Bf,EB])}.c
theorem ao3:Q0 107 f107:=J7 107
def f108:K3:=⟨false,[some 0,some 1],5,[.tmp 4],bE (aI (JL (pO (G6 gH)) (sR sH) (JL (pO (G6 (gL gH))) (sL (sL sH)) (uz (dG (au ff)) (sR (sL sH)) aG)))) (bE (kW 0 (vV (U3 32 (G6 (gR gH))) 0 eU (OI (iJ 51 [K5]) Gt eU (vV (U3 32 (G6 (gL (gL gH)))) 1 eU (OI (iJ 51 [K5]) Gt eU (jU (EZ (dw [.i,.i]) iy K5) eU (jU (dG K5) (sR (sL sH)) qN))))))) lW),none⟩
theorem ao4:Q0 108 f108:=J7 108
def ao5:aT 109:={c:=_}
def Qx:JM 110:={c:=_}
def ao6:aT 111:={c:=_}
def dR:JM 112:={c:=_}
def Zt:SC:={c:=_:I4 (lE 113 0 [])}.c
attribute [local irreducible] Zt
def f113:K3:={c:=_:I4 (fE 113 [Zt])}.c
theorem ao7:Q0 113 f113:=J7 113
def ao8:aT 114:={c:=_}
def ao9:JM 115:={c:=_}
def aoa:aT 116:={c:=_}
def SL:SC:={c:=_:I4 (lE 117 0 [])}.c
attribute [local irreducible] SL
def Zu:SC:={c:=_:I4 (lE 117 1 [SL])}.c
attribute [local irreducible] Zu
def f117:K3:={c:=_:I4 (fE 117 [SL,Zu])}.c
theorem aob:Q0 117 f117:=J7 117
def aoc:aT 118:={c:=_}
def aod:JM 119:={c:=_}
def aoe:JM 120:={c:=_}
def aof:JM 121:={c:=_}
def eB:JM 122:={c:=_}
def f123:K3:={c:=_:I4 (fP 123 [])}.c
theorem P9:Q0 123 f123:=isP 123
def aog:aT 124:={c:=_}
def aoh:aT 125:={c:=_}
def aoi:JM 126:={c:=_}
def EC:SC:={c:=_:I4 (lE 127 0 [])}.c
attribute [local irreducible] EC
def f127:K3:={c:=_:I4 (fE 127 [EC])}.c
theorem aoj:Q0 127 f127:=J7 127
def eT:JM 128:={c:=_}
def f129:K3:={c:=_:I4 (fE 129 [])}.c
theorem aok:Q0 129 f129:=J7 129
def f130:K3:={c:=_:I4 (fE 130 [])}.c
theorem aol:Q0 130 f130:=J7 130
def f131:K3:={c:=_:I4 (fE 131 [])}.c
theorem aom:Q0 131 f131:=J7 131
def f132:K3:={c:=_:I4 (fE 132 [])}.c
theorem aon:Q0 132 f132:=J7 132
def f133:K3:={c:=_:I4 (fE 133 [])}.c
theorem aoo:Q0 133 f133:=J7 133
def f134:K3:={c:=_:I4 (fE 134 [])}.c
theorem aop:Q0 134 f134:=J7 134
def f135:K3:={c:=_:I4 (fE 135 [])}.c
theorem aoq:Q0 135 f135:=J7 135
def f136:K3:={c:=_:I4 (fE 136 [])}.c
theorem aor:Q0 136 f136:=J7 136
def f137:K3:={c:=_:I4 (fE 137 [])}.c
theorem aos:Q0 137 f137:=J7 137
end
end Go.Proofs.YtfnlnpllpfhhnaaGreatDoor.TT

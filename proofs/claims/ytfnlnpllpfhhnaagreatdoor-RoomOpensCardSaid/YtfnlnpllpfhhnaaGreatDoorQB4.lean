/- The tables: functions of the program, their code computed from it; no condition. -/
import Derived.Test.YtfnlnpllpfhhnaaGreatDoorQB6
import Derived.KernelRfl
import Derived.Test.YtfnlnpllpfhhnaaGreatDoorProg
set_option linter.all false
namespace Go.Proofs.YtfnlnpllpfhhnaaGreatDoor.TT
open Go Go.AM
set_option maxRecDepth 100000
attribute [local irreducible] aS L8 sj jd sM bg gH gL gR G7 sH sL sR gF Hu Hw IK Hy BK Lc iOr Ld oK EY Ze YK YL Zf YM eH EZ Zg Zh sLe sGt sGe Ba iC mR dS qV dY gT eF bF nX iF CZ Le IW Gq VA Fa IX xG qW Bb nY tQ H8 xH Bc jY jE tT uK pExt HV xI Lf SX jQ Q0 X9 kS aT tX qd qX I8 tY iG jF PU iH mV tZ Bd lu Bf xK qY jy qZ nZ IZ bK vM K5 rcR bL KZ HY nO rcE uM gP jW gLk gE sP lJ xq Fg dcL Bg Ik Zl ghP PX kW bM qh mX dx oo kI qj ru nR oL
set_option maxHeartbeats 4000000
noncomputable section
def aap:SC:={c:=_:J6 (lE 94 0 [])}.c
attribute [local irreducible] aap
def agQ:SC:={c:=_:J6 (lE 94 1 [aap])}.c
attribute [local irreducible] agQ
def f94:L6:={c:=_:J6 (fE 94 [aap,agQ])}.c
theorem aBT:R9 94 f94:=K9 94
def Ei:SC:={c:=_:J6 (lE 95 0 [])}.c
attribute [local irreducible] Ei
def f95:L6:={c:=_:J6 (fE 95 [Ei])}.c
theorem aBU:R9 95 f95:=K9 95
def Nb:SC:={c:=_:J6 (lE 96 0 [])}.c
attribute [local irreducible] Nb
def f96:L6:={c:=_:J6 (fE 96 [Nb])}.c
theorem aBV:R9 96 f96:=K9 96
def Nc:SC:={c:=_:J6 (lE 97 0 [])}.c
attribute [local irreducible] Nc
def f97:L6:={c:=_:J6 (fE 97 [Nc])}.c
theorem aBW:R9 97 f97:=K9 97
def f98:L6:={c:=_:J6 (fE 98 [])}.c
theorem aBY:R9 98 f98:=K9 98
def f99:L6:={c:=_:J6 (fE 99 [])}.c
theorem aBZ:R9 99 f99:=K9 99
def FQ:SC:={c:=_:J6 (lE 100 0 [])}.c
attribute [local irreducible] FQ
def f100:L6:={c:=_:J6 (fE 100 [FQ])}.c
theorem anC:R9 100 f100:=K9 100
def FT:SC:={c:=_:J6 (lE 101 0 [])}.c
attribute [local irreducible] FT
def f101:L6:={c:=_:J6 (fE 101 [FT])}.c
theorem anD:R9 101 f101:=K9 101
def zP:SC:={c:=_:J6 (lE 102 0 [])}.c
attribute [local irreducible] zP
def Kj:SC:={c:=_:J6 (lE 102 1 [zP])}.c
attribute [local irreducible] Kj
def f102:L6:={c:=_:J6 (fE 102 [zP,Kj])}.c
theorem anE:R9 102 f102:=K9 102
def f103:L6:={c:=_:J6 (fE 103 [])}.c
theorem anF:R9 103 f103:=K9 103
def f104:L6:={c:=_:J6 (fE 104 [])}.c
theorem anG:R9 104 f104:=K9 104
def f105:L6:={c:=_:J6 (fE 105 [])}.c
theorem anH:R9 105 f105:=K9 105
def f106:L6:={c:=_:J6 (fE 106 [])}.c
theorem anI:R9 106 f106:=K9 106
def Cq:SC:={c:=_:J6 (lE 107 0 [])}.c
attribute [local irreducible] Cq
def FU:SC:={c:=_:J6 (lE 107 1 [Cq])}.c
attribute [local irreducible] FU
def f107:L6:={c:=_:J6 (fE 107 [Cq,FU])}.c
theorem anJ:R9 107 f107:=K9 107
def f108:L6:=⟨false,[some 0,some 1],5,[.tmp 4],dx (bM (KZ (qX (G7 gH)) (sR sH) (KZ (qX (G7 (gL gH))) (sL (sL sH)) (vM (eF (bg ff)) (sR (sL sH)) bK)))) (dx (mX 0 (xq (X9 32 (G7 (gR gH))) 0 gF (PX (jy 51 [L8]) Ik gF (xq (X9 32 (G7 (gL (gL gH)))) 1 gF (PX (jy 51 [L8]) Ik gF (lJ (Gq (dS [.i,.i]) jd L8) gF (lJ (eF L8) (sR (sL sH)) sP))))))) nR),none⟩
theorem anK:R9 108 f108:=K9 108
def anL:bU 109:={c:=_}
def Ry:La 110:={c:=_}
def anM:bU 111:={c:=_}
def fC:La 112:={c:=_}
def aaq:SC:={c:=_:J6 (lE 113 0 [])}.c
attribute [local irreducible] aaq
def f113:L6:={c:=_:J6 (fE 113 [aaq])}.c
theorem anN:R9 113 f113:=K9 113
def anO:bU 114:={c:=_}
def anP:La 115:={c:=_}
def anQ:bU 116:={c:=_}
def Uc:SC:={c:=_:J6 (lE 117 0 [])}.c
attribute [local irreducible] Uc
def aar:SC:={c:=_:J6 (lE 117 1 [Uc])}.c
attribute [local irreducible] aar
def f117:L6:={c:=_:J6 (fE 117 [Uc,aar])}.c
theorem anR:R9 117 f117:=K9 117
def anS:bU 118:={c:=_}
def anT:La 119:={c:=_}
def anU:La 120:={c:=_}
def anV:La 121:={c:=_}
def anW:La 122:={c:=_}
def f123:L6:={c:=_:J6 (fP 123 [])}.c
theorem Q9:R9 123 f123:=isP 123
def anX:bU 124:={c:=_}
def anY:bU 125:={c:=_}
def anZ:La 126:={c:=_}
def FV:SC:={c:=_:J6 (lE 127 0 [])}.c
attribute [local irreducible] FV
def f127:L6:={c:=_:J6 (fE 127 [FV])}.c
theorem ao0:R9 127 f127:=K9 127
def gy:La 128:={c:=_}
def f129:L6:={c:=_:J6 (fE 129 [])}.c
theorem ao1:R9 129 f129:=K9 129
def f130:L6:={c:=_:J6 (fE 130 [])}.c
theorem ao2:R9 130 f130:=K9 130
def f131:L6:={c:=_:J6 (fE 131 [])}.c
theorem ao3:R9 131 f131:=K9 131
def f132:L6:={c:=_:J6 (fE 132 [])}.c
theorem ao4:R9 132 f132:=K9 132
def f133:L6:={c:=_:J6 (fE 133 [])}.c
theorem ao5:R9 133 f133:=K9 133
def f134:L6:={c:=_:J6 (fE 134 [])}.c
theorem ao6:R9 134 f134:=K9 134
def f135:L6:={c:=_:J6 (fE 135 [])}.c
theorem ao7:R9 135 f135:=K9 135
def f136:L6:={c:=_:J6 (fE 136 [])}.c
theorem ao8:R9 136 f136:=K9 136
def f137:L6:={c:=_:J6 (fE 137 [])}.c
theorem ao9:R9 137 f137:=K9 137
end
end Go.Proofs.YtfnlnpllpfhhnaaGreatDoor.TT

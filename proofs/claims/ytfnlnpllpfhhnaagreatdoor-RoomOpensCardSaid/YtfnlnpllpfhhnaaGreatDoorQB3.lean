/- The tables: functions of the program, their code computed from it; no condition. -/
import Derived.Test.YtfnlnpllpfhhnaaGreatDoorQB6
import Derived.KernelRfl
import Derived.Test.YtfnlnpllpfhhnaaGreatDoorProg
set_option linter.all false
namespace Go.Proofs.YtfnlnpllpfhhnaaGreatDoor.TT
open Go Go.AM
set_option maxRecDepth 100000
attribute [local irreducible] aS L8 sj jd sM bg gH gL gR G7 sH sL sR gF Hu Hw IK Hy BK Lc iOr Ld oK EY Ze YK YL Zf YM eH EZ Zg Zh sLe sGt sGe Ba iC mR dS qV dY gT eF bF nX iF CZ Le IW Gq VA Fa IX xG qW Bb nY tQ H8 xH Bc jY jE tT uK pExt HV xI Lf SX jQ Q0 X9 kS aT tX qd qX I8 tY iG jF PU iH mV tZ Bd lu Bf xK qY jy qZ nZ IZ bK vM K5 rcR bL KZ HY nO rcE uM gP jW gLk gE sP lJ xq Fg dcL Bg Ik Zl ghP PX kW bM qh mX dx oo kI qj ru nR oL
set_option maxHeartbeats 4000000
noncomputable section
def f56:L6:={c:=_:J6 (fE 56 [])}.c
theorem aBj:R9 56 f56:=K9 56
def BG:SC:={c:=_:J6 (lE 57 0 [])}.c
attribute [local irreducible] BG
def Rq:SC:={c:=_:J6 (lE 57 1 [BG])}.c
attribute [local irreducible] Rq
def f57:L6:={c:=_:J6 (fE 57 [BG,Rq])}.c
theorem aBk:R9 57 f57:=K9 57
def f58:L6:={c:=_:J6 (fE 58 [])}.c
theorem aBl:R9 58 f58:=K9 58
def f59:L6:={c:=_:J6 (fE 59 [])}.c
theorem aBm:R9 59 f59:=K9 59
def Rs:SC:={c:=_:J6 (lE 60 0 [])}.c
attribute [local irreducible] Rs
def f60:L6:={c:=_:J6 (fE 60 [Rs])}.c
theorem aBn:R9 60 f60:=K9 60
def Rt:SC:={c:=_:J6 (lE 61 0 [])}.c
attribute [local irreducible] Rt
def f61:L6:={c:=_:J6 (fE 61 [Rt])}.c
theorem aBo:R9 61 f61:=K9 61
def f62:L6:={c:=_:J6 (fE 62 [])}.c
theorem aBp:R9 62 f62:=K9 62
def Ru:SC:={c:=_:J6 (lE 63 0 [])}.c
attribute [local irreducible] Ru
def f63:L6:={c:=_:J6 (fE 63 [Ru])}.c
theorem aBq:R9 63 f63:=K9 63
def f64:L6:={c:=_:J6 (fE 64 [])}.c
theorem aBr:R9 64 f64:=K9 64
def Rv:SC:={c:=_:J6 (lE 65 0 [])}.c
attribute [local irreducible] Rv
def f65:L6:={c:=_:J6 (fE 65 [Rv])}.c
theorem aBs:R9 65 f65:=K9 65
def f66:L6:={c:=_:J6 (fE 66 [])}.c
theorem aBt:R9 66 f66:=K9 66
def f67:L6:={c:=_:J6 (fE 67 [])}.c
theorem aBu:R9 67 f67:=K9 67
def aan:La 68:={c:=_}
def aBv:La 69:={c:=_}
def aBw:La 70:={c:=_}
def aBx:La 71:={c:=_}
def kY:La 72:={c:=_}
def aBy:bU 73:={c:=_}
def aBz:La 74:={c:=_}
def aBA:bU 75:={c:=_}
def aBB:bU 76:={c:=_}
def aBC:bU 77:={c:=_}
def f78:L6:={c:=_:J6 (fE 78 [])}.c
theorem aBD:R9 78 f78:=K9 78
def f79:L6:={c:=_:J6 (fE 79 [])}.c
theorem aBE:R9 79 f79:=K9 79
def MX:SC:={c:=_:J6 (lE 80 0 [])}.c
attribute [local irreducible] MX
def f80:L6:={c:=_:J6 (fE 80 [MX])}.c
theorem aBF:R9 80 f80:=K9 80
def f81:L6:={c:=_:J6 (fE 81 [])}.c
theorem aBG:R9 81 f81:=K9 81
def MZ:SC:={c:=_:J6 (lE 82 0 [])}.c
attribute [local irreducible] MZ
def f82:L6:={c:=_:J6 (fE 82 [MZ])}.c
theorem aBH:R9 82 f82:=K9 82
def Rw:SC:={c:=_:J6 (lE 83 0 [])}.c
attribute [local irreducible] Rw
def VY:SC:={c:=_:J6 (lE 83 1 [Rw])}.c
attribute [local irreducible] VY
def aao:SC:={c:=_:J6 (lE 83 2 [Rw,VY])}.c
attribute [local irreducible] aao
def agP:SC:={c:=_:J6 (lE 83 3 [Rw,VY,aao])}.c
attribute [local irreducible] agP
def f83:L6:={c:=_:J6 (fE 83 [Rw,VY,aao,agP])}.c
theorem aBI:R9 83 f83:=K9 83
def f84:L6:={c:=_:J6 (fE 84 [])}.c
theorem aBJ:R9 84 f84:=K9 84
def f85:L6:={c:=_:J6 (fE 85 [])}.c
theorem aBK:R9 85 f85:=K9 85
def Eh:SC:={c:=_:J6 (lE 86 0 [])}.c
attribute [local irreducible] Eh
def f86:L6:={c:=_:J6 (fE 86 [Eh])}.c
theorem aBL:R9 86 f86:=K9 86
def f87:L6:={c:=_:J6 (fE 87 [])}.c
theorem aBM:R9 87 f87:=K9 87
def Na:SC:={c:=_:J6 (lE 88 0 [])}.c
attribute [local irreducible] Na
def VZ:SC:={c:=_:J6 (lE 88 1 [Na])}.c
attribute [local irreducible] VZ
def Wd:SC:={c:=_:J6 (lE 88 2 [Na,VZ])}.c
attribute [local irreducible] Wd
def Wh:SC:={c:=_:J6 (lE 88 3 [Na,VZ,Wd])}.c
attribute [local irreducible] Wh
def f88:L6:={c:=_:J6 (fE 88 [Na,VZ,Wd,Wh])}.c
theorem aBN:R9 88 f88:=K9 88
def f89:L6:={c:=_:J6 (fE 89 [])}.c
theorem aBO:R9 89 f89:=K9 89
def BH:SC:={c:=_:J6 (lE 90 0 [])}.c
attribute [local irreducible] BH
def f90:L6:={c:=_:J6 (fE 90 [BH])}.c
theorem aBP:R9 90 f90:=K9 90
def Rx:SC:={c:=_:J6 (lE 91 0 [])}.c
attribute [local irreducible] Rx
def f91:L6:={c:=_:J6 (fE 91 [Rx])}.c
theorem aBQ:R9 91 f91:=K9 91
def f92:L6:={c:=_:J6 (fE 92 [])}.c
theorem aBR:R9 92 f92:=K9 92
def f93:L6:={c:=_:J6 (fE 93 [])}.c
theorem aBS:R9 93 f93:=K9 93
end
end Go.Proofs.YtfnlnpllpfhhnaaGreatDoor.TT

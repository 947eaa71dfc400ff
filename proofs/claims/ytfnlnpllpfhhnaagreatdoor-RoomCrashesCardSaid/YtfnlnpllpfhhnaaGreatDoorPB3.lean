/- The tables: functions of the program, their code computed from it; no condition. -/
import Derived.Test.YtfnlnpllpfhhnaaGreatDoorPB6
import Derived.KernelRfl
import Derived.Test.YtfnlnpllpfhhnaaGreatDoorProg
set_option linter.all false
namespace Go.Proofs.YtfnlnpllpfhhnaaGreatDoor.TT
open Go Go.AM
set_option maxRecDepth 100000
attribute [local irreducible] Y9 K5 qC iy qJ au gH gL gR G6 sH sL sR eU Gd GJ GK JO Ap GL iOr JQ mW Dz XR Xy Xz XT XA gy DF XU XV sLe sGt sGe wz fU kS dw qL bR fC dG aB mD gB BL GU GV EZ Uz Ea GX wB pK zT nT rM G8 wC wD nU gD rO vI pExt Gf wE GY XB iZ L9 U3 jF aN rP nV pO U4 rQ iI iO Rn gF kV rR zU sQ zV wH pR iJ pU mE GZ aG uz J2 rcR aH JL Gg lT rcE sS gP jg gLk gE qN jU vV JV dcL zW Gt XD ghP OI jG aI nX kW bE mH jv nY pV lW mX
set_option maxHeartbeats 4000000
noncomputable section
def f56:K3:={c:=_:I4 (fE 56 [])}.c
theorem aBN:Q0 56 f56:=J7 56
def Zk:SC:={c:=_:I4 (lE 57 0 [])}.c
attribute [local irreducible] Zk
def ahg:SC:={c:=_:I4 (lE 57 1 [Zk])}.c
attribute [local irreducible] ahg
def f57:K3:={c:=_:I4 (fE 57 [Zk,ahg])}.c
theorem aBO:Q0 57 f57:=J7 57
def f58:K3:={c:=_:I4 (fE 58 [])}.c
theorem aBP:Q0 58 f58:=J7 58
def f59:K3:={c:=_:I4 (fE 59 [])}.c
theorem aBQ:Q0 59 f59:=J7 59
def ahh:SC:={c:=_:I4 (lE 60 0 [])}.c
attribute [local irreducible] ahh
def f60:K3:={c:=_:I4 (fE 60 [ahh])}.c
theorem aBR:Q0 60 f60:=J7 60
def ahi:SC:={c:=_:I4 (lE 61 0 [])}.c
attribute [local irreducible] ahi
def f61:K3:={c:=_:I4 (fE 61 [ahi])}.c
theorem aBS:Q0 61 f61:=J7 61
def f62:K3:={c:=_:I4 (fE 62 [])}.c
theorem aBT:Q0 62 f62:=J7 62
def ahj:SC:={c:=_:I4 (lE 63 0 [])}.c
attribute [local irreducible] ahj
def f63:K3:={c:=_:I4 (fE 63 [ahj])}.c
theorem aBU:Q0 63 f63:=J7 63
def f64:K3:={c:=_:I4 (fE 64 [])}.c
theorem aBV:Q0 64 f64:=J7 64
def Qu:SC:={c:=_:I4 (lE 65 0 [])}.c
attribute [local irreducible] Qu
def f65:K3:={c:=_:I4 (fE 65 [Qu])}.c
theorem aBW:Q0 65 f65:=J7 65
def f66:K3:={c:=_:I4 (fE 66 [])}.c
theorem aBX:Q0 66 f66:=J7 66
def f67:K3:={c:=_:I4 (fE 67 [])}.c
theorem aBY:Q0 67 f67:=J7 67
def Zl:JM 68:={c:=_}
def jS:JM 69:={c:=_}
def aBZ:JM 70:={c:=_}
def aC0:JM 71:={c:=_}
def jI:JM 72:={c:=_}
def aC1:aT 73:={c:=_}
def aC2:JM 74:={c:=_}
def aC3:aT 75:={c:=_}
def aC4:aT 76:={c:=_}
def aC5:aT 77:={c:=_}
def f78:K3:={c:=_:I4 (fE 78 [])}.c
theorem aC6:Q0 78 f78:=J7 78
def f79:K3:={c:=_:I4 (fE 79 [])}.c
theorem aC7:Q0 79 f79:=J7 79
def Lu:SC:={c:=_:I4 (lE 80 0 [])}.c
attribute [local irreducible] Lu
def f80:K3:={c:=_:I4 (fE 80 [Lu])}.c
theorem aC8:Q0 80 f80:=J7 80
def f81:K3:={c:=_:I4 (fE 81 [])}.c
theorem aC9:Q0 81 f81:=J7 81
def Lv:SC:={c:=_:I4 (lE 82 0 [])}.c
attribute [local irreducible] Lv
def f82:K3:={c:=_:I4 (fE 82 [Lv])}.c
theorem aCa:Q0 82 f82:=J7 82
def Qv:SC:={c:=_:I4 (lE 83 0 [])}.c
attribute [local irreducible] Qv
def Va:SC:={c:=_:I4 (lE 83 1 [Qv])}.c
attribute [local irreducible] Va
def Zm:SC:={c:=_:I4 (lE 83 2 [Qv,Va])}.c
attribute [local irreducible] Zm
def ahk:SC:={c:=_:I4 (lE 83 3 [Qv,Va,Zm])}.c
attribute [local irreducible] ahk
def f83:K3:={c:=_:I4 (fE 83 [Qv,Va,Zm,ahk])}.c
theorem aCb:Q0 83 f83:=J7 83
def f84:K3:={c:=_:I4 (fE 84 [])}.c
theorem aCc:Q0 84 f84:=J7 84
def f85:K3:={c:=_:I4 (fE 85 [])}.c
theorem aCd:Q0 85 f85:=J7 85
def ahl:SC:={c:=_:I4 (lE 86 0 [])}.c
attribute [local irreducible] ahl
def f86:K3:={c:=_:I4 (fE 86 [ahl])}.c
theorem aCe:Q0 86 f86:=J7 86
def f87:K3:={c:=_:I4 (fE 87 [])}.c
theorem aCf:Q0 87 f87:=J7 87
def Qw:SC:={c:=_:I4 (lE 88 0 [])}.c
attribute [local irreducible] Qw
def Vb:SC:={c:=_:I4 (lE 88 1 [Qw])}.c
attribute [local irreducible] Vb
def Zn:SC:={c:=_:I4 (lE 88 2 [Qw,Vb])}.c
attribute [local irreducible] Zn
def ahm:SC:={c:=_:I4 (lE 88 3 [Qw,Vb,Zn])}.c
attribute [local irreducible] ahm
def f88:K3:={c:=_:I4 (fE 88 [Qw,Vb,Zn,ahm])}.c
theorem aCg:Q0 88 f88:=J7 88
def f89:K3:={c:=_:I4 (fE 89 [])}.c
theorem aCh:Q0 89 f89:=J7 89
def ahn:SC:={c:=_:I4 (lE 90 0 [])}.c
attribute [local irreducible] ahn
def f90:K3:={c:=_:I4 (fE 90 [ahn])}.c
theorem aCi:Q0 90 f90:=J7 90
def aho:SC:={c:=_:I4 (lE 91 0 [])}.c
attribute [local irreducible] aho
def f91:K3:={c:=_:I4 (fE 91 [aho])}.c
theorem aCj:Q0 91 f91:=J7 91
def f92:K3:={c:=_:I4 (fE 92 [])}.c
theorem aCk:Q0 92 f92:=J7 92
def f93:K3:={c:=_:I4 (fE 93 [])}.c
theorem aCl:Q0 93 f93:=J7 93
end
end Go.Proofs.YtfnlnpllpfhhnaaGreatDoor.TT

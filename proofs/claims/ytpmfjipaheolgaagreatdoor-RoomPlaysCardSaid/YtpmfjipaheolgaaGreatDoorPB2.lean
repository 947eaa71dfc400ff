/- The tables: functions of the program, their code computed from it; no condition. -/
import Derived.Test.YtpmfjipaheolgaaGreatDoorPB6
import Derived.KernelRfl
import Derived.Test.YtpmfjipaheolgaaGreatDoorProg
set_option linter.all false
namespace Go.Proofs.YtpmfjipaheolgaaGreatDoor.TT
open Go Go.AM
set_option maxRecDepth 100000
open Nat (beq ble blt)
attribute [local irreducible] bE N9 uQ jJ vT bO gH gL gR G5 sH sL sR gT Oe Qz TP QA EO Lv iOr Yg Ah Hw iNe iLt iLe iGt iGe fZ Hy sNe sLt sLe sGt sGe II jQ um gy xW iR kI fI dw vW ou Hz Yh TR IU pNe Oi TS IV BI Me vX EP H9 IW Mf ow qV ER Dc pExt QD IX Yi pMm oQ U6 ak nX dH ET xY uR J2 EU mY qX TU kZ vY EW Mg lu Mh IZ BJ jZ BK vZ TW dz xV K8 rcR cZ Ol QF qE rcE Df gP kJ gLk gE xZ mE yG Oo dcL Mj Ls ghD ghP Uc qx dB yH rF dX wm qF yI BM rG Ai
set_option maxHeartbeats 4000000
noncomputable section
def Nr:SC:={c:=_:J5 (lE 63 0 [])}.c
attribute [local irreducible] Nr
def f63:L6:={c:=_:J5 (fE 63 [Nr])}.c
theorem auB:U2 63 f63:=K9 63
def Ns:SC:={c:=_:J5 (lE 64 0 [])}.c
attribute [local irreducible] Ns
def f64:L6:={c:=_:J5 (fE 64 [Ns])}.c
theorem auC:U2 64 f64:=K9 64
def f65:L6:={c:=_:J5 (fE 65 [])}.c
theorem auD:U2 65 f65:=K9 65
def Nt:SC:={c:=_:J5 (lE 66 0 [])}.c
attribute [local irreducible] Nt
def f66:L6:={c:=_:J5 (fE 66 [Nt])}.c
theorem auE:U2 66 f66:=K9 66
def f67:L6:=⟨false,[some 0,some 1],7,[.tmp 6],dX (dB (Ol (uR (G5 gH)) (sR sH) (Ol (uR (G5 (gL gH))) (sL (sL sH)) (xV (fI (bO ff)) (sR (sR sH)) dz)))) (dX (dB (K8 (H9 2 (G5 (gR gH))) (cZ (U6 N9) (K8 (H9 2 (G5 (gL (gL gH)))) (cZ (U6 N9) (qE (jZ 38 [jJ,N9]) (xV (fI N9) (sR (sL sH)) dz))))))) (dX (dB (K8 (H9 3 (G5 (gR gH))) (cZ (U6 N9) (K8 (H9 3 (G5 (gL (gL gH)))) (cZ (U6 N9) (qE (jZ 38 [jJ,N9]) (xV (fI N9) (sL (sR sH)) dz))))))) (dX (dB (K8 (gP (G5 (gR (gL gH))) true (fI (G5 (gL (gR gH))))) (K8 (dw (G5 (gR (gL gH))) N9 (bO ff)) (K8 (gP N9 true (H9 0 (G5 (gR gH)))) (cZ (kJ uQ true (U6 N9)) (K8 (gP jJ true (H9 0 (G5 (gL (gL gH))))) (cZ (kJ vT true (U6 N9)) (K8 (gP (bE 4) true (Hz Hw Hy jJ N9)) (K8 (dw (bE 5) N9 (bO ff)) (K8 (gP N9 true (H9 1 (G5 (gR gH)))) (cZ (kJ uQ true (U6 N9)) (K8 (gP jJ true (H9 1 (G5 (gL (gL gH))))) (cZ (kJ vT true (U6 N9)) (K8 (gP (bE 4) true (Hz Hw Hy jJ N9)) (K8 (dw (bE 5) N9 (bO ff)) (K8 (gP N9 true (H9 4 (G5 (gR gH)))) (cZ (kJ uQ true (U6 N9)) (K8 (gP jJ true (H9 4 (G5 (gL (gL gH))))) (cZ (kJ vT true (U6 N9)) (K8 (gP (bE 4) true (Hz Hw Hy jJ N9)) (K8 (dw (bE 5) N9 (bO ff)) (K8 (gP N9 true (H9 5 (G5 (gR gH)))) (cZ (kJ uQ true (U6 N9)) (K8 (gP jJ true (H9 5 (G5 (gL (gL gH))))) (cZ (kJ vT true (U6 N9)) (K8 (gP (bE 4) true (Hz Hw Hy jJ N9)) (K8 (dw (bE 5) N9 (bO ff)) (K8 (gP N9 true (H9 6 (G5 (gR gH)))) (cZ (kJ uQ true (ak 2 N9)) (K8 (gP jJ true (H9 6 (G5 (gL (gL gH))))) (cZ (kJ vT true (ak 2 N9)) (K8 (gP (bE 4) true (IU (gy [.i,.i]) jJ N9)) (K8 (dw (bE 5) N9 (bO ff)) (xV (fI N9) (sR (sR sH)) dz)))))))))))))))))))))))))))))))))) rG))),none⟩
theorem auF:U2 67 f67:=K9 67
def f68:L6:={c:=_:J5 (fE 68 [])}.c
theorem auG:U2 68 f68:=K9 68
def BD:SC:={c:=_:J5 (lE 69 0 [])}.c
attribute [local irreducible] BD
def f69:L6:={c:=_:J5 (fE 69 [BD])}.c
theorem auH:U2 69 f69:=K9 69
def f70:L6:={c:=_:J5 (fE 70 [])}.c
theorem auI:U2 70 f70:=K9 70
def f71:L6:={c:=_:J5 (fE 71 [])}.c
theorem auJ:U2 71 f71:=K9 71
def f72:L6:={c:=_:J5 (fE 72 [])}.c
theorem auK:U2 72 f72:=K9 72
def Nu:SC:={c:=_:J5 (lE 73 0 [])}.c
attribute [local irreducible] Nu
def f73:L6:={c:=_:J5 (fE 73 [Nu])}.c
theorem auL:U2 73 f73:=K9 73
def f74:L6:={c:=_:J5 (fE 74 [])}.c
theorem auM:U2 74 f74:=K9 74
def f75:L6:={c:=_:J5 (fE 75 [])}.c
theorem auN:U2 75 f75:=K9 75
def f76:L6:={c:=_:J5 (fE 76 [])}.c
theorem auO:U2 76 f76:=K9 76
def Sw:SC:={c:=_:J5 (lE 77 0 [])}.c
attribute [local irreducible] Sw
def f77:L6:={c:=_:J5 (fE 77 [Sw])}.c
theorem auP:U2 77 f77:=K9 77
def BF:SC:={c:=_:J5 (lE 78 0 [])}.c
attribute [local irreducible] BF
def Sy:SC:={c:=_:J5 (lE 78 1 [BF])}.c
attribute [local irreducible] Sy
def f78:L6:={c:=_:J5 (fE 78 [BF,Sy])}.c
theorem auQ:U2 78 f78:=K9 78
def f79:L6:={c:=_:J5 (fE 79 [])}.c
theorem auR:U2 79 f79:=K9 79
def f80:L6:={c:=_:J5 (fE 80 [])}.c
theorem auS:U2 80 f80:=K9 80
def zN:SC:={c:=_:J5 (lE 81 0 [])}.c
attribute [local irreducible] zN
def f81:L6:={c:=_:J5 (fE 81 [zN])}.c
theorem auT:U2 81 f81:=K9 81
def alb:Lu 82:={c:=_}
def auU:Lu 83:={c:=_}
def auV:Lu 84:={c:=_}
def auW:dG 85:={c:=_}
def auX:Lu 86:={c:=_}
def auY:dG 87:={c:=_}
def auZ:dG 88:={c:=_}
def f89:L6:={c:=_:J5 (fE 89 [])}.c
theorem av0:U2 89 f89:=K9 89
def Nv:SC:={c:=_:J5 (lE 90 0 [])}.c
attribute [local irreducible] Nv
def f90:L6:={c:=_:J5 (fE 90 [Nv])}.c
theorem av1:U2 90 f90:=K9 90
def f91:L6:=cT Tryz.prog (mh Tryz.prog 91) true false 91
theorem av2:U2 91 f91:=isQ
def f92:L6:={c:=_:J5 (fE 92 [])}.c
theorem av3:U2 92 f92:=K9 92
def f93:L6:=cT Tryz.prog (mh Tryz.prog 93) false false 93
theorem av4:U2 93 f93:=isQ
def f94:L6:={c:=_:J5 (fE 94 [])}.c
theorem av5:U2 94 f94:=K9 94
def av6:dG 95:={c:=_}
def av7:dG 96:={c:=_}
def av8:dG 97:={c:=_}
def av9:dG 98:={c:=_}
def ava:dG 99:={c:=_}
def f100:L6:={c:=_:J5 (fE 100 [])}.c
theorem alc:U2 100 f100:=K9 100
def ald:dG 101:={c:=_}
def Kk:SC:={c:=_:J5 (lE 103 0 [])}.c
attribute [local irreducible] Kk
def f103:L6:={c:=_:J5 (fE 103 [Kk])}.c
theorem ale:U2 103 f103:=K9 103
def f104:L6:=cT Tryz.prog (mh Tryz.prog 104) false false 104
theorem alf:U2 104 f104:=isQ
def alg:dG 105:={c:=_}
def alh:dG 107:={c:=_}
def ali:dG 108:={c:=_}
def alj:dG 109:={c:=_}
def alk:dG 110:={c:=_}
def f112:L6:={c:=_:J5 (fP 112 [])}.c
theorem alm:U2 112 f112:=isP 112
def aln:dG 113:={c:=_}
def f118:L6:={c:=_:J5 (fE 118 [])}.c
theorem alo:U2 118 f118:=K9 118
def f119:L6:={c:=_:J5 (fE 119 [])}.c
theorem alp:U2 119 f119:=K9 119
def UY:SC:={c:=_:J5 (lE 120 0 [])}.c
attribute [local irreducible] UY
def f120:L6:={c:=_:J5 (fE 120 [UY])}.c
theorem alq:U2 120 f120:=K9 120
def Po:SC:={c:=_:J5 (lE 121 0 [])}.c
attribute [local irreducible] Po
def UZ:SC:={c:=_:J5 (lE 121 1 [Po])}.c
attribute [local irreducible] UZ
def Va:SC:={c:=_:J5 (lE 121 2 [Po,UZ])}.c
attribute [local irreducible] Va
def f121:L6:={c:=_:J5 (fE 121 [Po,UZ,Va])}.c
theorem alr:U2 121 f121:=K9 121
def f124:L6:={c:=_:J5 (fE 124 [])}.c
theorem als:U2 124 f124:=K9 124
def zP:SC:={c:=_:J5 (lE 126 0 [])}.c
attribute [local irreducible] zP
def Cu:SC:={c:=_:J5 (lE 126 1 [zP])}.c
attribute [local irreducible] Cu
def FH:SC:={c:=_:J5 (lE 126 2 [zP,Cu])}.c
attribute [local irreducible] FH
def Kl:SC:={c:=_:J5 (lE 126 3 [zP,Cu,FH])}.c
attribute [local irreducible] Kl
def Pp:SC:={c:=_:J5 (lE 126 4 [zP,Cu,FH,Kl])}.c
attribute [local irreducible] Pp
def Vb:SC:={c:=_:J5 (lE 126 5 [zP,Cu,FH,Kl,Pp])}.c
attribute [local irreducible] Vb
def f126:L6:={c:=_:J5 (fE 126 [zP,Cu,FH,Kl,Pp,Vb])}.c
theorem alu:U2 126 f126:=K9 126
def Km:SC:={c:=_:J5 (lE 127 0 [])}.c
attribute [local irreducible] Km
def Pq:SC:={c:=_:J5 (lE 127 1 [Km])}.c
attribute [local irreducible] Pq
def Vd:SC:={c:=_:J5 (lE 127 2 [Km,Pq])}.c
attribute [local irreducible] Vd
def f127:L6:={c:=_:J5 (fE 127 [Km,Pq,Vd])}.c
theorem alv:U2 127 f127:=K9 127
def f128:L6:={c:=_:J5 (fE 128 [])}.c
theorem alx:U2 128 f128:=K9 128
def f130:L6:={c:=_:J5 (fE 130 [])}.c
theorem aly:U2 130 f130:=K9 130
def f131:L6:={c:=_:J5 (fE 131 [])}.c
theorem alz:U2 131 f131:=K9 131
def f132:L6:={c:=_:J5 (fE 132 [])}.c
theorem alA:U2 132 f132:=K9 132
def Ve:SC:={c:=_:J5 (lE 133 0 [])}.c
attribute [local irreducible] Ve
def ab2:SC:={c:=_:J5 (lE 133 1 [Ve])}.c
attribute [local irreducible] ab2
def f133:L6:={c:=_:J5 (fE 133 [Ve,ab2])}.c
theorem alB:U2 133 f133:=K9 133
def wR:SC:={c:=_:J5 (lE 134 0 [])}.c
attribute [local irreducible] wR
def f134:L6:={c:=_:J5 (fE 134 [wR])}.c
theorem alC:U2 134 f134:=K9 134
def f135:L6:={c:=_:J5 (fE 135 [])}.c
theorem alD:U2 135 f135:=K9 135
def f136:L6:={c:=_:J5 (fE 136 [])}.c
theorem alE:U2 136 f136:=K9 136
def f137:L6:={c:=_:J5 (fE 137 [])}.c
theorem alF:U2 137 f137:=K9 137
def f138:L6:=⟨false,[some 0,some 1],6,[.tmp 5],dX (dB (Ol (uR (G5 gH)) (sR sH) (Ol (uR (G5 (gL gH))) (sL (sL sH)) (xV (fI (bO ff)) (sL (sR sH)) dz)))) (dX (rF 0 (yG (ak 32 (G5 (gR gH))) 0 gT (Uc (jZ 44 [N9]) Ls gT (yG (ak 32 (G5 (gL (gL gH)))) 1 gT (Uc (jZ 44 [N9]) Ls gT (mE (IU (gy [.i,.i]) jJ N9) gT (mE (fI N9) gT (mE (gP N9 true (H9 2 (G5 (gR gH)))) gT (yG (kJ uQ true (U6 N9)) 0 gT (mE (gP jJ true (H9 2 (G5 (gL (gL gH))))) gT (yG (kJ vT true (U6 N9)) 0 gT (mE (gP (bE 4) true (Hz Hw Hy jJ N9)) gT (mE (dw (bE 5) N9 (bO ff)) gT (mE (fI N9) gT (mE (gP N9 true (H9 3 (G5 (gR gH)))) gT (yG (kJ uQ true (U6 N9)) 0 gT (mE (gP jJ true (H9 3 (G5 (gL (gL gH))))) gT (yG (kJ vT true (U6 N9)) 0 gT (mE (gP (bE 4) true (Hz Hw Hy jJ N9)) gT (mE (dw (bE 5) N9 (bO ff)) gT (mE (fI N9) gT (mE (gP N9 true (H9 4 (G5 (gR gH)))) gT (yG (kJ uQ true (ak 2 N9)) 0 gT (mE (gP jJ true (H9 4 (G5 (gL (gL gH))))) gT (yG (kJ vT true (ak 2 N9)) 0 gT (mE (gP (bE 4) true (IU (gy [.i,.i]) jJ N9)) gT (mE (dw (bE 5) N9 (bO ff)) gT (mE (fI N9) gT (mE (gP N9 true (H9 6 (G5 (gR gH)))) gT (yG (kJ uQ true (ak 8 N9)) 0 gT (mE (gP jJ true (H9 6 (G5 (gL (gL gH))))) gT (yG (kJ vT true (ak 8 N9)) 0 gT (mE (gP (bE 4) true (IU (gy [.i,.i,.i,.i,.i,.i,.i,.i]) jJ N9)) gT (mE (dw (bE 5) N9 (bO ff)) gT (mE (fI N9) gT (mE (gP N9 true (H9 14 (G5 (gR gH)))) gT (yG (kJ uQ true (ak 2 N9)) 0 gT (mE (gP jJ true (H9 14 (G5 (gL (gL gH))))) gT (yG (kJ vT true (ak 2 N9)) 0 gT (mE (gP (bE 4) true (IU (gy [.i,.i]) jJ N9)) gT (mE (dw (bE 5) N9 (bO ff)) gT (mE (fI N9) gT (mE (gP N9 true (H9 16 (G5 (gR gH)))) gT (yG (kJ uQ true (ak 4 N9)) 0 gT (mE (gP jJ true (H9 16 (G5 (gL (gL gH))))) gT (yG (kJ vT true (ak 4 N9)) 0 gT (mE (gP (bE 4) true (IU (gy [.i,.i,.i,.i]) jJ N9)) gT (mE (dw (bE 5) N9 (bO ff)) gT (mE (fI N9) gT (mE (gP N9 true (H9 30 (G5 (gR gH)))) gT (yG (kJ uQ true (ak 2 N9)) 0 gT (mE (gP jJ true (H9 30 (G5 (gL (gL gH))))) gT (yG (kJ vT true (ak 2 N9)) 0 gT (mE (gP (bE 4) true (IU (gy [.i,.i]) jJ N9)) gT (mE (dw (bE 5) N9 (bO ff)) gT (mE (fI N9) (sR (sL sH)) xZ)))))))))))))))))))))))))))))))))))))))))))))))))))))))) (dX (dB (K8 (gP (G5 (gR (gL gH))) true (H9 20 (G5 (gR gH)))) (cZ (kJ (G5 (gR (gL gH))) true (ak 8 N9)) (K8 (gP (G5 (gR (gL gH))) true (H9 20 (G5 (gL (gL gH))))) (cZ (kJ (G5 (gR (gL gH))) true (ak 8 N9)) (qE (gE (G5 (gR (gL gH))) true (jZ 223 [jJ,N9])) (K8 (dw (G5 (gR (gL gH))) N9 (bO ff)) (K8 (gP N9 true (H9 28 (G5 (gR gH)))) (K8 (gP uQ true (H9 0 N9)) (cZ (kJ jJ true (U6 N9)) (K8 (gP vT true (H9 28 (G5 (gL (gL gH))))) (K8 (gP (bE 4) true (H9 0 N9)) (cZ (kJ (bE 5) true (U6 N9)) (K8 (gP (bE 6) true (Hz Hw Hy vT N9)) (K8 (dw (bE 7) N9 (bO ff)) (K8 (gP N9 true (H9 28 (G5 (gR gH)))) (K8 (gP uQ true (H9 1 N9)) (cZ (kJ jJ true (U6 N9)) (K8 (gP vT true (H9 28 (G5 (gL (gL gH))))) (K8 (gP (bE 4) true (H9 1 N9)) (cZ (kJ (bE 5) true (U6 N9)) (qE (gE (bE 6) true (jZ 224 [vT,N9])) (K8 (dw (bE 7) N9 (bO ff)) (xV (fI N9) (sL (sR sH)) dz)))))))))))))))))))))))) rG)),none⟩
theorem alG:U2 138 f138:=K9 138
def uI:SC:={c:=_:J5 (lE 139 0 [])}.c
attribute [local irreducible] uI
def f139:L6:={c:=_:J5 (fE 139 [uI])}.c
theorem alH:U2 139 f139:=K9 139
def f140:L6:={c:=_:J5 (fE 140 [])}.c
theorem alI:U2 140 f140:=K9 140
def wS:SC:={c:=_:J5 (lE 141 0 [])}.c
attribute [local irreducible] wS
def f141:L6:={c:=_:J5 (fE 141 [wS])}.c
theorem alJ:U2 141 f141:=K9 141
def f142:L6:=⟨false,[some 0,some 2],4,[.tmp 3],dX (dB (Ol (uR (G5 gH)) (sL sH) (xV (fI (bO ff)) (sL (sL sH)) dz))) (dX (rF 0 (yG (ak 32 (G5 (gL gH))) 0 gT (Uc (jZ 44 [N9]) Ls gT (yG (ak 32 (G5 (gR gH))) 1 gT (Uc (jZ 44 [N9]) Ls gT (mE (IU (gy [.i,.i]) jJ N9) gT (mE (fI N9) (sL (sL sH)) xZ))))))) rG),none⟩
theorem alK:U2 142 f142:=K9 142
def oN:SC:={c:=_:J5 (lE 143 0 [])}.c
attribute [local irreducible] oN
def f143:L6:={c:=_:J5 (fE 143 [oN])}.c
theorem alL:U2 143 f143:=K9 143
def Ko:SC:={c:=_:J5 (lE 144 0 [])}.c
attribute [local irreducible] Ko
def f144:L6:={c:=_:J5 (fE 144 [Ko])}.c
theorem alM:U2 144 f144:=K9 144
def Cv:SC:={c:=_:J5 (lE 145 0 [])}.c
attribute [local irreducible] Cv
def f145:L6:={c:=_:J5 (fE 145 [Cv])}.c
theorem alN:U2 145 f145:=K9 145
def Cw:SC:={c:=_:J5 (lE 146 0 [])}.c
attribute [local irreducible] Cw
def f146:L6:={c:=_:J5 (fE 146 [Cw])}.c
theorem alO:U2 146 f146:=K9 146
def wT:SC:={c:=_:J5 (lE 147 0 [])}.c
attribute [local irreducible] wT
def f147:L6:={c:=_:J5 (fE 147 [wT])}.c
theorem alP:U2 147 f147:=K9 147
def f148:L6:={c:=_:J5 (fE 148 [])}.c
theorem alQ:U2 148 f148:=K9 148
def alR:dG 149:={c:=_}
def agV:Lu 150:={c:=_}
def ab3:SC:={c:=_:J5 (lE 151 0 [])}.c
attribute [local irreducible] ab3
def f151:L6:={c:=_:J5 (fE 151 [ab3])}.c
theorem alS:U2 151 f151:=K9 151
def alT:dG 152:={c:=_}
def alU:Lu 153:={c:=_}
end
end Go.Proofs.YtpmfjipaheolgaaGreatDoor.TT

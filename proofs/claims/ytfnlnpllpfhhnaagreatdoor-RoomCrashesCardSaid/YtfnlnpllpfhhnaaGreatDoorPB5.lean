/- The tables: functions of the program, their code computed from it; no condition. -/
import Derived.Test.YtfnlnpllpfhhnaaGreatDoorPB6
import Derived.KernelRfl
import Derived.Test.YtfnlnpllpfhhnaaGreatDoorProg
set_option linter.all false
namespace Go.Proofs.YtfnlnpllpfhhnaaGreatDoor.TT
open Go Go.AM
set_option maxRecDepth 100000
attribute [local irreducible] Y9 K5 qC iy qJ au gH gL gR G6 sH sL sR eU Gd GJ GK JO Ap GL iOr JQ mW Dz XR Xy Xz XT XA gy DF XU XV sLe sGt sGe wz fU kS dw qL bR fC dG aB mD gB BL GU GV EZ Uz Ea GX wB pK zT nT rM G8 wC wD nU gD rO vI pExt Gf wE GY XB iZ L9 U3 jF aN rP nV pO U4 rQ iI iO Rn gF kV rR zU sQ zV wH pR iJ pU mE GZ aG uz J2 rcR aH JL Gg lT rcE sS gP jg gLk gE qN jU vV JV dcL zW Gt XD ghP OI jG aI nX kW bE mH jv nY pV lW mX
set_option maxHeartbeats 4000000
noncomputable section
def f138:K3:={c:=_:I4 (fE 138 [])}.c
theorem aot:Q0 138 f138:=J7 138
def f139:K3:={c:=_:I4 (fE 139 [])}.c
theorem aou:Q0 139 f139:=J7 139
def f140:K3:={c:=_:I4 (fE 140 [])}.c
theorem aov:Q0 140 f140:=J7 140
def f141:K3:={c:=_:I4 (fE 141 [])}.c
theorem aow:Q0 141 f141:=J7 141
def f142:K3:={c:=_:I4 (fE 142 [])}.c
theorem aox:Q0 142 f142:=J7 142
def sI:SC:={c:=_:I4 (lE 143 0 [])}.c
attribute [local irreducible] sI
def f143:K3:={c:=_:I4 (fE 143 [sI])}.c
theorem aoy:Q0 143 f143:=J7 143
def f144:K3:={c:=_:I4 (fE 144 [])}.c
theorem aoz:Q0 144 f144:=J7 144
def f145:K3:=⟨false,[some 0],3,[.tmp 2],bE (aI (JL (pO (G6 gH)) (sL sH) (uz (dG (au ff)) (sR sH) aG))) (bE (kW 0 (jU (G8 30 (G6 (gL gH))) eU (jU (G8 0 K5) eU (vV (L9 K5) 0 eU (OI (iJ 38 [K5,(au (d9.int .i64 (Int.ofNat 1))),(au (d9.int .i64 (Int.ofNat 6)))]) Gt eU (jU (dG K5) eU (jU (gP K5 true (G8 30 (G6 (gL gH)))) eU (jU (gP qC true (G8 1 K5)) eU (vV (jg iy true (L9 K5)) 0 eU (OI (gE qJ true (iJ 38 [K5,(au (d9.int .i64 (Int.ofNat 1))),(au (d9.int .i64 (Int.ofNat 60)))])) Gt eU (jU (aB (Y9 4) K5 (au ff)) eU (jU (dG K5) eU (vV (jg K5 true (U3 32 (G6 (gL gH)))) 0 eU (OI (gE qC true (iJ 51 [K5])) Gt eU (jU (gP iy true (G8 30 (G6 (gL gH)))) eU (vV (jg qJ true (U3 2 K5)) 1 eU (jU (gP (Y9 4) true (Uz (dw [.i,.i]) K5 iy)) eU (jU (aB (Y9 5) K5 (au ff)) eU (jU (dG K5) (sR sH) qN))))))))))))))))))) lW),none⟩
theorem aoA:Q0 145 f145:=J7 145
def f146:K3:={c:=_:I4 (fE 146 [])}.c
theorem aoB:Q0 146 f146:=J7 146
def f147:K3:={c:=_:I4 (fE 147 [])}.c
theorem aoC:Q0 147 f147:=J7 147
def f148:K3:={c:=_:I4 (fE 148 [])}.c
theorem aoD:Q0 148 f148:=J7 148
def f149:K3:={c:=_:I4 (fE 149 [])}.c
theorem aoE:Q0 149 f149:=J7 149
def f150:K3:={c:=_:I4 (fE 150 [])}.c
theorem aoF:Q0 150 f150:=J7 150
def f151:K3:={c:=_:I4 (fE 151 [])}.c
theorem aoG:Q0 151 f151:=J7 151
def f152:K3:={c:=_:I4 (fE 152 [])}.c
theorem aoH:Q0 152 f152:=J7 152
def f153:K3:={c:=_:I4 (fE 153 [])}.c
theorem aoI:Q0 153 f153:=J7 153
def f154:K3:={c:=_:I4 (fE 154 [])}.c
theorem aoJ:Q0 154 f154:=J7 154
def f155:K3:={c:=_:I4 (fE 155 [])}.c
theorem aoK:Q0 155 f155:=J7 155
def f156:K3:={c:=_:I4 (fE 156 [])}.c
theorem aoL:Q0 156 f156:=J7 156
def f157:K3:={c:=_:I4 (fE 157 [])}.c
theorem aoM:Q0 157 f157:=J7 157
def f158:K3:={c:=_:I4 (fE 158 [])}.c
theorem aoN:Q0 158 f158:=J7 158
def qp:SC:={c:=_:I4 (lE 159 0 [])}.c
attribute [local irreducible] qp
def f159:K3:={c:=_:I4 (fE 159 [qp])}.c
theorem aoO:Q0 159 f159:=J7 159
def f160:K3:={c:=_:I4 (fE 160 [])}.c
theorem aoP:Q0 160 f160:=J7 160
def f161:K3:={c:=_:I4 (fE 161 [])}.c
theorem aoQ:Q0 161 f161:=J7 161
def f162:K3:={c:=_:I4 (fE 162 [])}.c
theorem aoR:Q0 162 f162:=J7 162
def f163:K3:={c:=_:I4 (fE 163 [])}.c
theorem aoS:Q0 163 f163:=J7 163
def f166:K3:={c:=_:I4 (fE 166 [])}.c
theorem aoT:Q0 166 f166:=J7 166
def f167:K3:={c:=_:I4 (fE 167 [])}.c
theorem aoU:Q0 167 f167:=J7 167
def f168:K3:={c:=_:I4 (fE 168 [])}.c
theorem aoV:Q0 168 f168:=J7 168
def Zv:SC:={c:=_:I4 (lE 169 0 [])}.c
attribute [local irreducible] Zv
def f169:K3:={c:=_:I4 (fE 169 [Zv])}.c
theorem aoW:Q0 169 f169:=J7 169
def Np:SC:={c:=_:I4 (lE 170 0 [])}.c
attribute [local irreducible] Np
def SN:SC:={c:=_:I4 (lE 170 1 [Np])}.c
attribute [local irreducible] SN
def Zw:SC:={c:=_:I4 (lE 170 2 [Np,SN])}.c
attribute [local irreducible] Zw
def f170:K3:={c:=_:I4 (fE 170 [Np,SN,Zw])}.c
theorem aoX:Q0 170 f170:=J7 170
def Bg:SC:={c:=_:I4 (lE 174 0 [])}.c
attribute [local irreducible] Bg
def ED:SC:={c:=_:I4 (lE 174 1 [Bg])}.c
attribute [local irreducible] ED
def Jc:SC:={c:=_:I4 (lE 174 2 [Bg,ED])}.c
attribute [local irreducible] Jc
def Nq:SC:={c:=_:I4 (lE 174 3 [Bg,ED,Jc])}.c
attribute [local irreducible] Nq
def SQ:SC:={c:=_:I4 (lE 174 4 [Bg,ED,Jc,Nq])}.c
attribute [local irreducible] SQ
def Zx:SC:={c:=_:I4 (lE 174 5 [Bg,ED,Jc,Nq,SQ])}.c
attribute [local irreducible] Zx
def f174:K3:={c:=_:I4 (fE 174 [Bg,ED,Jc,Nq,SQ,Zx])}.c
theorem aoY:Q0 174 f174:=J7 174
def Nr:SC:={c:=_:I4 (lE 175 0 [])}.c
attribute [local irreducible] Nr
def SS:SC:={c:=_:I4 (lE 175 1 [Nr])}.c
attribute [local irreducible] SS
def Zy:SC:={c:=_:I4 (lE 175 2 [Nr,SS])}.c
attribute [local irreducible] Zy
def f175:K3:={c:=_:I4 (fE 175 [Nr,SS,Zy])}.c
theorem aoZ:Q0 175 f175:=J7 175
def f176:K3:={c:=_:I4 (fE 176 [])}.c
theorem ap0:Q0 176 f176:=J7 176
def Jd:SC:={c:=_:I4 (lE 177 0 [])}.c
attribute [local irreducible] Jd
def f177:K3:={c:=_:I4 (fE 177 [Jd])}.c
theorem ap1:Q0 177 f177:=J7 177
def f180:K3:={c:=_:I4 (fE 180 [])}.c
theorem ap2:Q0 180 f180:=J7 180
def f181:K3:={c:=_:I4 (fE 181 [])}.c
theorem ap3:Q0 181 f181:=J7 181
def f182:K3:={c:=_:I4 (fE 182 [])}.c
theorem ap4:Q0 182 f182:=J7 182
def f183:K3:={c:=_:I4 (fE 183 [])}.c
theorem ap5:Q0 183 f183:=J7 183
def xO:SC:={c:=_:I4 (lE 184 0 [])}.c
attribute [local irreducible] xO
def qw:SC:={c:=_:I4 (lE 184 1 [xO])}.c
attribute [local irreducible] qw
def Bh:SC:={c:=_:I4 (lE 184 2 [xO,qw])}.c
attribute [local irreducible] Bh
def f184:K3:={c:=_:I4 (fE 184 [xO,qw,Bh])}.c
theorem ap6:Q0 184 f184:=J7 184
def Je:SC:={c:=_:I4 (lE 185 0 [])}.c
attribute [local irreducible] Je
def f185:K3:={c:=_:I4 (fE 185 [Je])}.c
theorem ap7:Q0 185 f185:=J7 185
def f186:K3:={c:=_:I4 (fE 186 [])}.c
theorem ap8:Q0 186 f186:=J7 186
def f187:K3:=cT Tryz.prog (kE Tryz.prog 187) true false 187
theorem ahq:Q0 187 f187:=isQ
def f188:K3:=cT Tryz.prog (kE Tryz.prog 188) false false 188
theorem ap9:Q0 188 f188:=isQ
def apa:aT 189:={c:=_}
def apb:aT 190:={c:=_}
def apc:aT 191:={c:=_}
def apd:aT 192:={c:=_}
def ape:aT 193:={c:=_}
def apf:aT 194:={c:=_}
def f196:K3:=cT Tryz.prog (kE Tryz.prog 196) false false 196
theorem apg:Q0 196 f196:=isQ
def aph:aT 197:={c:=_}
def apj:aT 199:={c:=_}
def apk:aT 200:={c:=_}
def apl:aT 201:={c:=_}
def apm:aT 202:={c:=_}
def apn:aT 204:={c:=_}
def apo:aT 205:={c:=_}
def apq:aT 206:={c:=_}
def apr:aT 207:={c:=_}
def aps:aT 208:={c:=_}
def apt:aT 209:={c:=_}
def SV:SC:={c:=_:I4 (lE 210 0 [])}.c
attribute [local irreducible] SV
def f210:K3:={c:=_:I4 (fE 210 [SV])}.c
theorem apu:Q0 210 f210:=J7 210
def apv:JM 211:={c:=_}
def apw:JM 212:={c:=_}
def bN:JM 213:={c:=_}
def eD:JM 214:={c:=_}
def apx:aT 215:={c:=_}
end
end Go.Proofs.YtfnlnpllpfhhnaaGreatDoor.TT

/- The tables: functions of the program, their code computed from it; no condition. -/
import Derived.Test.YtfnlnpllpfhhnaaGreatDoorPB6
import Derived.KernelRfl
import Derived.Test.YtfnlnpllpfhhnaaGreatDoorProg
set_option linter.all false
namespace Go.Proofs.YtfnlnpllpfhhnaaGreatDoor.TT
open Go Go.AM
set_option maxRecDepth 100000
attribute [local irreducible] Y9 K5 qC iy qJ au gH gL gR G6 sH sL sR eU Gd GJ GK JO Ap GL iOr JQ mW Dz XR Xy Xz XT XA gy DF XU XV sLe sGt sGe wz fU kS dw qL bR fC dG aB mD gB BL GU GV EZ Uz Ea GX wB pK zT nT rM G8 wC wD nU gD rO vI pExt Gf wE GY XB iZ L9 U3 jF aN rP nV pO U4 rQ iI iO Rn gF kV rR zU sQ zV wH pR iJ pU mE GZ aG uz J2 rcR aH JL Gg lT rcE sS gP jg gLk gE qN jU vV JV dcL zW Gt XD ghP OI jG aI nX kW bE mH jv nY pV lW mX
set_option maxHeartbeats 4000000
noncomputable section
def apy:aT 216:={c:=_}
def f217:K3:={c:=_:I4 (fE 217 [])}.c
theorem apz:Q0 217 f217:=J7 217
def apA:aT 218:={c:=_}
def apB:aT 219:={c:=_}
def f220:K3:={c:=_:I4 (fE 220 [])}.c
theorem apC:Q0 220 f220:=J7 220
def apD:aT 221:={c:=_}
def apE:aT 222:={c:=_}
def f223:K3:={c:=_:I4 (fE 223 [])}.c
theorem apF:Q0 223 f223:=J7 223
def apG:aT 224:={c:=_}
def apH:aT 225:={c:=_}
def apI:aT 226:={c:=_}
def apJ:aT 227:={c:=_}
def f228:K3:={c:=_:I4 (fE 228 [])}.c
theorem apK:Q0 228 f228:=J7 228
def Ns:SC:={c:=_:I4 (lE 229 0 [])}.c
attribute [local irreducible] Ns
def f229:K3:={c:=_:I4 (fE 229 [Ns])}.c
theorem apL:Q0 229 f229:=J7 229
def SX:SC:={c:=_:I4 (lE 230 0 [])}.c
attribute [local irreducible] SX
def f230:K3:={c:=_:I4 (fE 230 [SX])}.c
theorem apM:Q0 230 f230:=J7 230
def f231:K3:={c:=_:I4 (fE 231 [])}.c
theorem apN:Q0 231 f231:=J7 231
def Nt:SC:={c:=_:I4 (lE 232 0 [])}.c
attribute [local irreducible] Nt
def SY:SC:={c:=_:I4 (lE 232 1 [Nt])}.c
attribute [local irreducible] SY
def f232:K3:={c:=_:I4 (fP 232 [Nt,SY])}.c
theorem apO:Q0 232 f232:=isP 232
def apP:aT 233:={c:=_}
def apQ:aT 234:={c:=_}
def apR:aT 235:={c:=_}
def apS:aT 236:={c:=_}
def apT:aT 237:={c:=_}
def apU:aT 238:={c:=_}
def f239:K3:={c:=_:I4 (fE 239 [])}.c
theorem apV:Q0 239 f239:=J7 239
def f240:K3:={c:=_:I4 (fE 240 [])}.c
theorem apW:Q0 240 f240:=J7 240
def apX:aT 241:={c:=_}
def apY:aT 242:={c:=_}
def f243:K3:={c:=_:I4 (fE 243 [])}.c
theorem apZ:Q0 243 f243:=J7 243
def aq0:aT 244:={c:=_}
def f246:K3:={c:=_:I4 (fE 246 [])}.c
theorem aq1:Q0 246 f246:=J7 246
def Ta:SC:={c:=_:I4 (lE 250 0 [])}.c
attribute [local irreducible] Ta
def Zz:SC:={c:=_:I4 (lE 250 1 [Ta])}.c
attribute [local irreducible] Zz
def f250:K3:={c:=_:I4 (fE 250 [Ta,Zz])}.c
theorem aq2:Q0 250 f250:=J7 250
def ZA:SC:={c:=_:I4 (lE 256 0 [])}.c
attribute [local irreducible] ZA
def f256:K3:={c:=_:I4 (fE 256 [ZA])}.c
theorem aq3:Q0 256 f256:=J7 256
def f257:K3:={c:=_:I4 (fE 257 [])}.c
theorem aq5:Q0 257 f257:=J7 257
def Bj:SC:={c:=_:I4 (lE 265 0 [])}.c
attribute [local irreducible] Bj
def EG:SC:={c:=_:I4 (lE 265 1 [Bj])}.c
attribute [local irreducible] EG
def f265:K3:={c:=_:I4 (fE 265 [Bj,EG])}.c
theorem aq6:Q0 265 f265:=J7 265
def oo:SC:={c:=_:I4 (lE 266 0 [])}.c
attribute [local irreducible] oo
def xP:SC:={c:=_:I4 (lE 266 1 [oo])}.c
attribute [local irreducible] xP
def vg:SC:={c:=_:I4 (lE 266 2 [oo,xP])}.c
attribute [local irreducible] vg
def EH:SC:={c:=_:I4 (lE 266 3 [oo,xP,vg])}.c
attribute [local irreducible] EH
def Bl:SC:={c:=_:I4 (lE 266 4 [oo,xP,vg,EH])}.c
attribute [local irreducible] Bl
def f266:K3:={c:=_:I4 (fE 266 [oo,xP,vg,EH,Bl])}.c
theorem aq7:Q0 266 f266:=J7 266
def f267:K3:={c:=_:I4 (fE 267 [])}.c
theorem aq9:Q0 267 f267:=J7 267
def f268:K3:=cT Tryz.prog (kE Tryz.prog 268) false false 268
theorem aqa:Q0 268 f268:=isQ
def aqb:aT 269:={c:=_}
def f270:K3:={c:=_:I4 (fE 270 [])}.c
theorem aqc:Q0 270 f270:=J7 270
def aqd:aT 271:={c:=_}
def aqe:aT 272:={c:=_}
def aqf:aT 273:={c:=_}
def aqg:aT 274:={c:=_}
def aqh:aT 275:={c:=_}
def aqi:aT 276:={c:=_}
def aqj:aT 277:={c:=_}
def aqk:aT 278:={c:=_}
def aql:aT 279:={c:=_}
def aqm:aT 280:={c:=_}
def aqn:aT 281:={c:=_}
def aqo:aT 282:={c:=_}
def akf:SC:=bE (aI (uz (BL Xy XV (G6 (gR gH)) (G6 (gL (gL gH)))) (sR (sL sH)) aG)) (bE (mH (G6 (gR (gL gH))) jG (pV 0)) (bE (jv 1 (bE (aI (uz (dG (G6 (gR gH))) (sR (sR sH)) aG)) (bE (kW 0 (vV (U3 2 (G6 (gL (gR gH)))) 0 eU (jU (dG (G6 (gL gH))) eU (jU (dG (G6 (gR (gR gH)))) eU (jU (nU 2 qC K5) eU (vV (U3 2 K5) 0 eU (jU (EZ (dw [.i,.i]) (Y9 4) K5) (sL (sL (sL sH))) qN))))))) (mH (G6 (gL (gL (gL gH)))) (bE (aI (uz (dG (G6 (gR (gR gH)))) (sR (sL (sL sH))) aG)) lW) jG)))) (aI (J2 (BL Gd gy (G6 (gR gH)) (au (d9.int .i64 (Int.ofNat 1)))) (uz (dG K5) (sR sH) aG)))))
def f283:K3:=⟨false,[some 1,some 0],9,[.tmp 8],bE (aI (JL (pO (G6 gH)) (sL (sR sH)) (uz (dG (au (d9.int .i64 (Int.ofNat 0)))) (sR (sL (sL sH))) aG))) (bE (bE (aI (uz (Gf (G6 (gL gH))) (sL (sL sH)) (uz (dG (au (d9.int .i64 (Int.ofNat 0)))) (sR sH) aG))) (jv 0 (nY akf))) (bE (aI (uz (dG (au (d9.int .i64 (Int.negSucc 0)))) (sR (sL (sL sH))) aG)) lW)),none⟩
theorem aqp:Q0 283 f283:=J7 283
def aqr:aT 284:={c:=_}
def aqs:aT 285:={c:=_}
def aqt:aT 286:={c:=_}
end
end Go.Proofs.YtfnlnpllpfhhnaaGreatDoor.TT

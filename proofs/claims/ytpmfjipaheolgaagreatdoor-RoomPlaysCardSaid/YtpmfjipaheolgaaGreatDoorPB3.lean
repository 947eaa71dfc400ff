/- The tables: functions of the program, their code computed from it; no condition. -/
import Derived.Test.YtpmfjipaheolgaaGreatDoorPB6
import Derived.KernelRfl
import Derived.Test.YtpmfjipaheolgaaGreatDoorProg
set_option linter.all false
namespace Go.Proofs.YtpmfjipaheolgaaGreatDoor.TT
open Go Go.AM
set_option maxRecDepth 100000
open Nat (beq ble blt)
attribute [local irreducible] bE N9 uQ jJ vT bO gH gL gR G5 sH sL sR gT Oe Qz TP QA EO Lv iOr Yg Ah Hw iNe iLt iLe iGt iGe fZ Hy sNe sLt sLe sGt sGe II jQ um gy xW iR kI fI dw vW ou Hz Yh TR IU pNe Oi TS IV BI Me vX EP H9 IW Mf ow qV ER Dc pExt QD IX Yi pMm oQ U6 ak nX dH ET xY uR J2 EU mY qX TU kZ vY EW Mg lu Mh IZ BJ jZ BK vZ TW dz xV K8 rcR cZ Ol QF qE rcE Df gP kJ gLk gE xZ mE yG Oo dcL Mj Ls ghD ghP Uc qx dB yH rF dX wm qF yI BM rG Ai
set_option maxHeartbeats 4000000
noncomputable section
def alV:dG 154:={c:=_}
def Vf:SC:={c:=_:J5 (lE 155 0 [])}.c
attribute [local irreducible] Vf
def ab4:SC:={c:=_:J5 (lE 155 1 [Vf])}.c
attribute [local irreducible] ab4
def f155:L6:={c:=_:J5 (fE 155 [Vf,ab4])}.c
theorem alW:U2 155 f155:=K9 155
def alX:dG 156:={c:=_}
def alY:Lu 157:={c:=_}
def alZ:Lu 158:={c:=_}
def am0:Lu 159:={c:=_}
def am1:Lu 160:={c:=_}
def am2:dG 161:={c:=_}
def am3:Lu 162:={c:=_}
def gU:Lu 163:={c:=_}
def FI:SC:={c:=_:J5 (lE 164 0 [])}.c
attribute [local irreducible] FI
def f164:L6:={c:=_:J5 (fE 164 [FI])}.c
theorem am4:U2 164 f164:=K9 164
def f165:L6:={c:=_:J5 (fE 165 [])}.c
theorem am5:U2 165 f165:=K9 165
def FJ:SC:={c:=_:J5 (lE 166 0 [])}.c
attribute [local irreducible] FJ
def f166:L6:={c:=_:J5 (fE 166 [FJ])}.c
theorem am6:U2 166 f166:=K9 166
def f167:L6:={c:=_:J5 (fE 167 [])}.c
theorem am7:U2 167 f167:=K9 167
def f168:L6:={c:=_:J5 (fE 168 [])}.c
theorem am8:U2 168 f168:=K9 168
def f169:L6:={c:=_:J5 (fE 169 [])}.c
theorem am9:U2 169 f169:=K9 169
def f170:L6:={c:=_:J5 (fE 170 [])}.c
theorem ama:U2 170 f170:=K9 170
def Cx:SC:={c:=_:J5 (lE 171 0 [])}.c
attribute [local irreducible] Cx
def FK:SC:={c:=_:J5 (lE 171 1 [Cx])}.c
attribute [local irreducible] FK
def f171:L6:={c:=_:J5 (fE 171 [Cx,FK])}.c
theorem amb:U2 171 f171:=K9 171
def f172:L6:=⟨false,[some 0,some 1],5,[.tmp 4],dX (dB (Ol (uR (G5 gH)) (sR sH) (Ol (uR (G5 (gL gH))) (sL (sL sH)) (xV (fI (bO ff)) (sR (sL sH)) dz)))) (dX (rF 0 (yG (ak 32 (G5 (gR gH))) 0 gT (Uc (jZ 44 [N9]) Ls gT (yG (ak 32 (G5 (gL (gL gH)))) 1 gT (Uc (jZ 44 [N9]) Ls gT (mE (IU (gy [.i,.i]) jJ N9) gT (mE (fI N9) (sR (sL sH)) xZ))))))) rG),none⟩
theorem amc:U2 172 f172:=K9 172
def amd:dG 173:={c:=_}
def f174:L6:={c:=_:J5 (fE 174 [])}.c
theorem ame:U2 174 f174:=K9 174
def f175:L6:={c:=_:J5 (fE 175 [])}.c
theorem amf:U2 175 f175:=K9 175
def amg:dG 176:={c:=_}
def amh:dG 177:={c:=_}
def ami:dG 178:={c:=_}
def amj:dG 179:={c:=_}
def f180:L6:={c:=_:J5 (fE 180 [])}.c
theorem amk:U2 180 f180:=K9 180
def Pt:SC:={c:=_:J5 (lE 181 0 [])}.c
attribute [local irreducible] Pt
def f181:L6:={c:=_:J5 (fE 181 [Pt])}.c
theorem aml:U2 181 f181:=K9 181
def Vg:SC:={c:=_:J5 (lE 182 0 [])}.c
attribute [local irreducible] Vg
def f182:L6:={c:=_:J5 (fE 182 [Vg])}.c
theorem amm:U2 182 f182:=K9 182
def f183:L6:={c:=_:J5 (fE 183 [])}.c
theorem amn:U2 183 f183:=K9 183
def Pv:SC:={c:=_:J5 (lE 184 0 [])}.c
attribute [local irreducible] Pv
def Vh:SC:={c:=_:J5 (lE 184 1 [Pv])}.c
attribute [local irreducible] Vh
def f184:L6:={c:=_:J5 (fP 184 [Pv,Vh])}.c
theorem amo:U2 184 f184:=isP 184
def amq:dG 185:={c:=_}
def amr:dG 186:={c:=_}
def ams:dG 187:={c:=_}
def amt:dG 188:={c:=_}
def f189:L6:={c:=_:J5 (fE 189 [])}.c
theorem amu:U2 189 f189:=K9 189
def uJ:SC:={c:=_:J5 (lE 190 0 [])}.c
attribute [local irreducible] uJ
def f190:L6:={c:=_:J5 (fE 190 [uJ])}.c
theorem amv:U2 190 f190:=K9 190
def Vi:SC:={c:=_:J5 (lE 192 0 [])}.c
attribute [local irreducible] Vi
def ab5:SC:={c:=_:J5 (lE 192 1 [Vi])}.c
attribute [local irreducible] ab5
def f192:L6:={c:=_:J5 (fE 192 [Vi,ab5])}.c
theorem amw:U2 192 f192:=K9 192
def Kq:SC:={c:=_:J5 (lE 197 0 [])}.c
attribute [local irreducible] Kq
def f197:L6:={c:=_:J5 (fE 197 [Kq])}.c
theorem amx:U2 197 f197:=K9 197
def f200:L6:={c:=_:J5 (fR 200 [])}.c
theorem amy:U2 200 f200:=isR 200
def f201:L6:={c:=_:J5 (fE 201 [])}.c
theorem amz:U2 201 f201:=K9 201
def f202:L6:={c:=_:J5 (fE 202 [])}.c
theorem amA:U2 202 f202:=K9 202
def f203:L6:={c:=_:J5 (fE 203 [])}.c
theorem amB:U2 203 f203:=K9 203
def f204:L6:={c:=_:J5 (fE 204 [])}.c
theorem amC:U2 204 f204:=K9 204
def f205:L6:={c:=_:J5 (fE 205 [])}.c
theorem amD:U2 205 f205:=K9 205
def f206:L6:={c:=_:J5 (fE 206 [])}.c
theorem amE:U2 206 f206:=K9 206
def f207:L6:={c:=_:J5 (fE 207 [])}.c
theorem amF:U2 207 f207:=K9 207
def f208:L6:={c:=_:J5 (fE 208 [])}.c
theorem amG:U2 208 f208:=K9 208
def f209:L6:={c:=_:J5 (fE 209 [])}.c
theorem amH:U2 209 f209:=K9 209
def f210:L6:={c:=_:J5 (fE 210 [])}.c
theorem amI:U2 210 f210:=K9 210
def f211:L6:={c:=_:J5 (fE 211 [])}.c
theorem amJ:U2 211 f211:=K9 211
def f212:L6:={c:=_:J5 (fE 212 [])}.c
theorem amK:U2 212 f212:=K9 212
def f213:L6:={c:=_:J5 (fE 213 [])}.c
theorem amL:U2 213 f213:=K9 213
def f214:L6:={c:=_:J5 (fE 214 [])}.c
theorem amM:U2 214 f214:=K9 214
def f215:L6:={c:=_:J5 (fE 215 [])}.c
theorem amN:U2 215 f215:=K9 215
def f216:L6:={c:=_:J5 (fE 216 [])}.c
theorem amO:U2 216 f216:=K9 216
def f217:L6:={c:=_:J5 (fE 217 [])}.c
theorem amP:U2 217 f217:=K9 217
def f218:L6:={c:=_:J5 (fE 218 [])}.c
theorem amQ:U2 218 f218:=K9 218
def uK:SC:={c:=_:J5 (lE 219 0 [])}.c
attribute [local irreducible] uK
def f219:L6:={c:=_:J5 (fE 219 [uK])}.c
theorem amR:U2 219 f219:=K9 219
def f220:L6:={c:=_:J5 (fE 220 [])}.c
theorem amS:U2 220 f220:=K9 220
def f221:L6:=⟨false,[some 0],3,[.tmp 2],dX (dB (Ol (uR (G5 gH)) (sL sH) (xV (fI (bO ff)) (sR sH) dz))) (dX (rF 0 (mE (H9 30 (G5 (gL gH))) gT (mE (H9 0 N9) gT (yG (U6 N9) 0 gT (Uc (jZ 56 [N9,(bO (j5.int .i64 (Int.ofNat 1))),(bO (j5.int .i64 (Int.ofNat 6)))]) Ls gT (mE (fI N9) gT (mE (gP N9 true (H9 30 (G5 (gL gH)))) gT (mE (gP uQ true (H9 1 N9)) gT (yG (kJ jJ true (U6 N9)) 0 gT (Uc (gE vT true (jZ 56 [N9,(bO (j5.int .i64 (Int.ofNat 1))),(bO (j5.int .i64 (Int.ofNat 60)))])) Ls gT (mE (dw (bE 4) N9 (bO ff)) gT (mE (fI N9) gT (yG (kJ N9 true (ak 32 (G5 (gL gH)))) 0 gT (Uc (gE uQ true (jZ 44 [N9])) Ls gT (mE (gP jJ true (H9 30 (G5 (gL gH)))) gT (yG (kJ vT true (ak 2 N9)) 1 gT (mE (gP (bE 4) true (pNe (gy [.i,.i]) N9 jJ)) gT (mE (dw (bE 5) N9 (bO ff)) gT (mE (fI N9) (sR sH) xZ))))))))))))))))))) rG),none⟩
theorem amT:U2 221 f221:=K9 221
def f222:L6:={c:=_:J5 (fE 222 [])}.c
theorem amU:U2 222 f222:=K9 222
def f223:L6:=⟨false,[some 0,some 1],5,[.tmp 4],dX (dB (Ol (uR (G5 gH)) (sR sH) (Ol (uR (G5 (gL gH))) (sL (sL sH)) (xV (fI (bO ff)) (sR (sL sH)) dz)))) (dX (dB (K8 (H9 0 (G5 (gR gH))) (cZ (U6 N9) (K8 (H9 0 (G5 (gL (gL gH)))) (cZ (U6 N9) (K8 (Hz Hw Hy jJ N9) (K8 (gP N9 true (H9 1 (G5 (gR gH)))) (cZ (kJ uQ true (U6 N9)) (K8 (gP jJ true (H9 1 (G5 (gL (gL gH))))) (cZ (kJ vT true (U6 N9)) (K8 (gP (bE 4) true (Hz Hw Hy jJ N9)) (K8 (dw (bE 5) N9 (bO ff)) (K8 (gP N9 true (H9 4 (G5 (gR gH)))) (cZ (kJ uQ true (U6 N9)) (K8 (gP jJ true (H9 4 (G5 (gL (gL gH))))) (cZ (kJ vT true (U6 N9)) (K8 (gP (bE 4) true (Hz Hw Hy jJ N9)) (K8 (dw (bE 5) N9 (bO ff)) (K8 (gP N9 true (H9 5 (G5 (gR gH)))) (cZ (kJ uQ true (U6 N9)) (K8 (gP jJ true (H9 5 (G5 (gL (gL gH))))) (cZ (kJ vT true (U6 N9)) (K8 (gP (bE 4) true (Hz Hw Hy jJ N9)) (K8 (dw (bE 5) N9 (bO ff)) (K8 (gP N9 true (H9 6 (G5 (gR gH)))) (cZ (kJ uQ true (ak 2 N9)) (K8 (gP jJ true (H9 6 (G5 (gL (gL gH))))) (cZ (kJ vT true (ak 2 N9)) (K8 (gP (bE 4) true (IU (gy [.i,.i]) jJ N9)) (K8 (dw (bE 5) N9 (bO ff)) (K8 (gP N9 true (H9 2 (G5 (gR gH)))) (cZ (kJ uQ true (U6 N9)) (K8 (gP jJ true (H9 2 (G5 (gL (gL gH))))) (cZ (kJ vT true (U6 N9)) (qE (gE (bE 4) true (jZ 224 [jJ,N9])) (K8 (dw (bE 5) N9 (bO ff)) (K8 (gP N9 true (H9 3 (G5 (gR gH)))) (cZ (kJ uQ true (U6 N9)) (K8 (gP jJ true (H9 3 (G5 (gL (gL gH))))) (cZ (kJ vT true (U6 N9)) (qE (gE (bE 4) true (jZ 224 [jJ,N9])) (K8 (dw (bE 5) N9 (bO ff)) (xV (fI N9) (sR (sL sH)) dz))))))))))))))))))))))))))))))))))))))))))) rG),none⟩
theorem amV:U2 223 f223:=K9 223
def FL:SC:={c:=_:J5 (lE 224 0 [])}.c
attribute [local irreducible] FL
def f224:L6:={c:=_:J5 (fE 224 [FL])}.c
theorem amW:U2 224 f224:=K9 224
def f225:L6:={c:=_:J5 (fE 225 [])}.c
theorem amX:U2 225 f225:=K9 225
def f226:L6:={c:=_:J5 (fE 226 [])}.c
theorem amY:U2 226 f226:=K9 226
def FM:SC:={c:=_:J5 (lE 227 0 [])}.c
attribute [local irreducible] FM
def f227:L6:={c:=_:J5 (fE 227 [FM])}.c
theorem amZ:U2 227 f227:=K9 227
def FP:SC:={c:=_:J5 (lE 228 0 [])}.c
attribute [local irreducible] FP
def f228:L6:={c:=_:J5 (fE 228 [FP])}.c
theorem an0:U2 228 f228:=K9 228
def FQ:SC:={c:=_:J5 (lE 229 0 [])}.c
attribute [local irreducible] FQ
def FT:SC:={c:=_:J5 (lE 229 1 [FQ])}.c
attribute [local irreducible] FT
def f229:L6:={c:=_:J5 (fE 229 [FQ,FT])}.c
theorem an1:U2 229 f229:=K9 229
def uL:SC:={c:=_:J5 (lE 230 0 [])}.c
attribute [local irreducible] uL
def f230:L6:={c:=_:J5 (fE 230 [uL])}.c
theorem an2:U2 230 f230:=K9 230
def an3:dG 231:={c:=_}
def an4:dG 232:={c:=_}
def an5:dG 233:={c:=_}
def an6:dG 234:={c:=_}
def an7:dG 235:={c:=_}
def an8:dG 236:={c:=_}
def Vj:SC:={c:=_:J5 (lE 237 0 [])}.c
attribute [local irreducible] Vj
def f237:L6:={c:=_:J5 (fE 237 [Vj])}.c
theorem an9:U2 237 f237:=K9 237
def ana:Lu 238:={c:=_}
def anb:Lu 239:={c:=_}
def anc:Lu 240:={c:=_}
def ane:Lu 241:={c:=_}
def anf:dG 242:={c:=_}
def ang:dG 243:={c:=_}
def f244:L6:={c:=_:J5 (fE 244 [])}.c
theorem anh:U2 244 f244:=K9 244
def ani:dG 245:={c:=_}
def anj:dG 246:={c:=_}
def f247:L6:={c:=_:J5 (fE 247 [])}.c
theorem ank:U2 247 f247:=K9 247
def anl:dG 248:={c:=_}
def anm:dG 249:={c:=_}
def f250:L6:={c:=_:J5 (fE 250 [])}.c
theorem ano:U2 250 f250:=K9 250
def anp:dG 251:={c:=_}
def anq:dG 252:={c:=_}
def anr:dG 253:={c:=_}
def ant:dG 254:={c:=_}
def anu:dG 255:={c:=_}
def anv:dG 256:={c:=_}
def f257:L6:={c:=_:J5 (fE 257 [])}.c
theorem anw:U2 257 f257:=K9 257
def f258:L6:={c:=_:J5 (fE 258 [])}.c
theorem anx:U2 258 f258:=K9 258
def anz:dG 259:={c:=_}
def anA:dG 260:={c:=_}
def f261:L6:={c:=_:J5 (fE 261 [])}.c
theorem anB:U2 261 f261:=K9 261
def f262:L6:={c:=_:J5 (fE 262 [])}.c
theorem anC:U2 262 f262:=K9 262
def f263:L6:={c:=_:J5 (fE 263 [])}.c
theorem anD:U2 263 f263:=K9 263
def f264:L6:={c:=_:J5 (fE 264 [])}.c
theorem anE:U2 264 f264:=K9 264
def f265:L6:={c:=_:J5 (fE 265 [])}.c
theorem anF:U2 265 f265:=K9 265
def f266:L6:={c:=_:J5 (fE 266 [])}.c
theorem anG:U2 266 f266:=K9 266
def f267:L6:={c:=_:J5 (fE 267 [])}.c
theorem anH:U2 267 f267:=K9 267
def f268:L6:={c:=_:J5 (fE 268 [])}.c
theorem anI:U2 268 f268:=K9 268
def f269:L6:={c:=_:J5 (fE 269 [])}.c
theorem anJ:U2 269 f269:=K9 269
def f270:L6:={c:=_:J5 (fE 270 [])}.c
theorem anK:U2 270 f270:=K9 270
def f271:L6:={c:=_:J5 (fE 271 [])}.c
theorem anL:U2 271 f271:=K9 271
def f272:L6:={c:=_:J5 (fE 272 [])}.c
theorem anM:U2 272 f272:=K9 272
def f273:L6:={c:=_:J5 (fE 273 [])}.c
theorem anN:U2 273 f273:=K9 273
def f274:L6:={c:=_:J5 (fE 274 [])}.c
theorem anO:U2 274 f274:=K9 274
def rY:SC:={c:=_:J5 (lE 275 0 [])}.c
attribute [local irreducible] rY
def f275:L6:={c:=_:J5 (fE 275 [rY])}.c
theorem anP:U2 275 f275:=K9 275
def f276:L6:={c:=_:J5 (fE 276 [])}.c
theorem anQ:U2 276 f276:=K9 276
def f277:L6:={c:=_:J5 (fE 277 [])}.c
theorem anR:U2 277 f277:=K9 277
def f278:L6:={c:=_:J5 (fE 278 [])}.c
theorem anS:U2 278 f278:=K9 278
def f279:L6:={c:=_:J5 (fE 279 [])}.c
theorem anT:U2 279 f279:=K9 279
def zQ:SC:={c:=_:J5 (lE 280 0 [])}.c
attribute [local irreducible] zQ
def rZ:SC:={c:=_:J5 (lE 280 1 [zQ])}.c
attribute [local irreducible] rZ
def Cy:SC:={c:=_:J5 (lE 280 2 [zQ,rZ])}.c
attribute [local irreducible] Cy
def f280:L6:={c:=_:J5 (fE 280 [zQ,rZ,Cy])}.c
theorem anU:U2 280 f280:=K9 280
def anV:dG 281:={c:=_}
def f290:L6:={c:=_:J5 (fE 290 [])}.c
theorem anW:U2 290 f290:=K9 290
def anX:dG 291:={c:=_}
def anY:dG 299:={c:=_}
def anZ:dG 301:={c:=_}
def ao0:dG 303:={c:=_}
def f311:L6:={c:=_:J5 (fE 311 [])}.c
theorem ao1:U2 311 f311:=K9 311
def ao2:dG 312:={c:=_}
def f313:L6:={c:=_:J5 (fE 313 [])}.c
theorem ao3:U2 313 f313:=K9 313
def f314:L6:={c:=_:J5 (fE 314 [])}.c
theorem ao4:U2 314 f314:=K9 314
def FU:SC:={c:=_:J5 (lE 315 0 [])}.c
attribute [local irreducible] FU
def Kr:SC:={c:=_:J5 (lE 315 1 [FU])}.c
attribute [local irreducible] Kr
def Px:SC:={c:=_:J5 (lE 315 2 [FU,Kr])}.c
attribute [local irreducible] Px
def Vk:SC:={c:=_:J5 (lE 315 3 [FU,Kr,Px])}.c
attribute [local irreducible] Vk
def f315:L6:={c:=_:J5 (fE 315 [FU,Kr,Px,Vk])}.c
theorem ao5:U2 315 f315:=K9 315
def ao6:dG 317:={c:=_}
end
end Go.Proofs.YtpmfjipaheolgaaGreatDoor.TT

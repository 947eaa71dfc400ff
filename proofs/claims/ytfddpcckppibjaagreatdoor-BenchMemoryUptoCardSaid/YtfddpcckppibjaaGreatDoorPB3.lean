/- The tables: each function of the program is the code that stands here; no condition. -/
import Derived.Test.YtfddpcckppibjaaGreatDoorPB0
import Derived.KernelRfl
import Derived.Test.YtfddpcckppibjaaGreatDoorProg
set_option linter.all false
namespace Go.Proofs.YtfddpcckppibjaaGreatDoor.TT
open Go Go.AM
set_option maxRecDepth 100000
noncomputable section
def f103:T9:=⟨false,[some 0],9,[.cell 3 (some 4)],j4 (j5 (nP Ox vC (nP zaW zag o8))) (j4 (j5 (l7 Nu (H6 V5 (D6 (F6 55 [E9]) (l7 Nu ze3))))) (j4 (j4 (j5 (l7 Nu (H6 V5 (l7 Ns (l7 za3 (l7 zbP (H6 Ub (l7 zcu (l7 zbv (l7 (gP E9 false Nu) (H6 Ub (D6 (gE iy false (F6 66 [E9,C9 (.func (.func 196) [] [])])) zdp)))))))))))) (u7 qz zbD F9)) (j4 (j4 (j5 (H6 YJ (D6 (F6 197 [E9]) (l7 zcV (H6 Ua (l7 zcC (l7 (gP tV true YO) (H6 zd2 (l7 (gP OB true zbz) (J7 zd9 Db o8)))))))))) (u7 zap zbD F9)) (j4 (j5 (H6 YJ (D6 (F6 13 [E9,C9 Z]) (l7 Ud (l7 YN (J7 Oz FL zdX)))))) (j4 (G8 0 (j4 (j5 (l7 (N7 Ot Ov qY yE) zbM)) (u7 yG zbD (j4 (j5 (l7 (N7 IX KR zQ yE) zbl)) (u7 Nt (j4 (j5 (l7 (Ja zQ) (l7 (aN zaw [(0,1,yF),(1,1,E9)]) (nu zc4 (l7 (aN zaw [(0,1,Xa),(3,1,E9)]) zft))))) A9) F9))))) (j4 (j5 (l7 (aN zaw [(0,1,yF),(1,1,zQ)]) zft)) A9)))))),none⟩
theorem aif:aW 103 f103:=R3 [0,1,22,2,33,4,40,3,44]
def f108:T9:=⟨false,[some 0],2,[.tmp 1],j4 zbA (j4 (j5 (nu (U6 1 8 [zfm] [(0,1,C9 (d9.str [108,101,116])),(1,1,C9 (d9.str [105,102])),(2,1,C9 (d9.str [101,108,115,101])),(3,1,C9 (d9.str [119,104,105,108,101])),(4,1,C9 (d9.str [112,114,105,110,116])),(5,1,zfa),(6,1,C9 (d9.str [111,114])),(7,1,C9 (d9.str [110,111,116]))]) (D6 (F6 199 [E9,iA]) WU))) A9),none⟩
theorem aii:aW 108 f108:=R3 [0,2]
def f109:T9:=⟨false,[some 0,some 1],3,[.tmp 2],j4 zaU (j4 (j5 (D6 (F6 200 [iA,dK,zfH]) FM)) A9),none⟩
theorem aij:aW 109 f109:=R3 [0,1,4]
def f110:T9:=⟨false,[some 0],2,[.tmp 1],j4 zbA (j4 (j5 (l7 (N7 Ou OH iA (C9 (d9.int .i32 (Int.ofNat 127)))) (l7 zbV (l7 (gP dV false (Le .u8 E9)) (D6 ze6 (l7 (gP tV false Oy) (l7 ze9 (l7 zci (l7 (gP dV true (Le .u8 E9)) (D6 (gE iy true (F6 95 [E9])) (l7 (gP tV true Oy) (l7 (gP zeX false (iM OA E9 WX)) (l7 (iM (aZ 10) zfH E9) WU))))))))))))) A9),none⟩
theorem aik:aW 110 f110:=R3 [0,2]
def fH:SC:=j4 WW (j4 WZ (j4 (G8 1 (j4 zb4 (j4 (j5 (l7 (bG 4 iA qY) (H6 KU zcQ))) za0))) WV))
def f111:T9:=⟨false,[some 0,some 4],8,[.tmp 7],j4 zaJ (j4 (j4 za5 (G8 0 (U3 fH))) zba),none⟩
theorem ail:aW 111 f111:=R3 [0,8,7,9,1,5,16,4]
def f112:T9:=⟨false,[some 0],3,[.tmp 2],j4 zbW (j4 (j5 (l7 (wJ (.func 113) [] [dK]) FM)) A9),none⟩
theorem ain:aW 112 f112:=R3 [0,1,2]
def f113:T9:=⟨false,[some 1,some 2,some 0],5,[.tmp 3,.tmp 4],j4 zcn (j4 (j5 (H6 zdY (D6 (dL E9 [dK,qz]) (D6 (F6 70 [E9]) zbK)))) A9),none⟩
theorem aio:aW 113 f113:=R3 [2,0,1,5,6]
def f114:T9:=⟨false,[some 0],3,[.tmp 2],j4 zbW (j4 (j5 (l7 (wJ (.func 115) [] [dK]) FM)) A9),none⟩
theorem aip:aW 114 f114:=R3 [0,1,2]
def f115:T9:=⟨false,[some 3,some 0,some 2],6,[.tmp 4,.tmp 5],j4 zbe (j4 (j4 (j5 (J7 zd0 vC o8)) (u7 dK (j4 (j5 (J7 Ba Db (J7 zbG Dc o8))) A9) F9)) (j4 (j5 (H6 (jm qz) (D6 (dL E9 [rz,iA]) zc9))) A9)),none⟩
theorem aiq:aW 115 f115:=R3 [1,8,2,0,5,6]
def f116:T9:=⟨false,[some 0,some 1],6,[.tmp 4,.tmp 5],j4 zbe (j4 (j4 (j5 (l7 zd0 (l7 (gP E9 false zbr) (l7 (gP dV false za3) (J7 zdk vY o8))))) (u7 qz (j4 zbe A9) F9)) (j4 (j4 (j5 (l7 (Ja iA) (l7 (pMm true iA [E9]) (l7 (Ja dK) (l7 (pMm true dK [E9]) (l7 (N7 Lc qE zc8 E9) (J7 (N7 Ou OH tV E9) zag o8))))))) (u7 rz (j4 (j5 (J7 Ba Db (J7 zcJ Dc o8))) A9) F9)) (j4 (j5 (l7 (N7 UR qE iA dK) zc9)) A9))),none⟩
theorem air:aW 116 f116:=R3 [0,1,11,21,4,5]
def f117:T9:=⟨false,[some 0,some 1],3,[.tmp 2],j4 zaU (j4 (j5 (l7 (N7 Lc qE iA dK) FM)) A9),none⟩
theorem ais:aW 117 f117:=R3 [0,1,4]
def f118:T9:=⟨false,[some 0,some 1],3,[.tmp 2],j4 zaU (j4 (j5 (l7 (N7 YV qE iA dK) FM)) A9),none⟩
theorem ait:aW 118 f118:=R3 [0,1,4]
def f119:T9:=⟨false,[some 0,some 1],4,[.tmp 2,.tmp 3],j4 zbh (j4 (j5 (l7 (N7 bM P6 iA dK) zcD)) A9),none⟩
theorem aiu:aW 119 f119:=R3 [0,1,4,5]
def f120:T9:=⟨false,[some 0],4,[.tmp 2,.tmp 3],j4 zbh (j4 (j4 (j5 (D6 (F6 32 [iA]) (J7 Oy vC o8))) (u7 dK (j4 (j5 (J7 Ba vY zdT)) A9) F9)) (j4 (j5 (J7 Qf vY zaV)) A9)),none⟩
theorem aiv:aW 120 f120:=R3 [0,6,2,3]
def f121:T9:=⟨false,[some 0,some 1],4,[.tmp 2,.tmp 3],j4 zbh (j4 (j5 (l7 (N7 Dn qE iA dK) zcD)) A9),none⟩
theorem aiw:aW 121 f121:=R3 [0,1,4,5]
def f122:T9:=⟨false,[some 0,some 1],3,[.tmp 2],j4 UG (j4 (j5 (l7 zeL FM)) A9),none⟩
theorem aix:aW 122 f122:=R3 [0,1,4]
def f123:T9:=⟨false,[some 0,some 1],3,[.tmp 2],j4 UG (j4 (j5 (l7 (N7 QF UC iA dK) FM)) A9),none⟩
theorem aiy:aW 123 f123:=R3 [0,1,4]
def f124:T9:=⟨false,[some 0,some 1],3,[.tmp 2],j4 UG (j4 (j5 (l7 (N7 Ou OH iA dK) FM)) A9),none⟩
theorem aiz:aW 124 f124:=R3 [0,1,4]
def f125:T9:=⟨false,[some 0,some 1],3,[.tmp 2],j4 UG (j4 (j5 (l7 (N7 Sn UU iA dK) FM)) A9),none⟩
theorem aiA:aW 125 f125:=R3 [0,1,4]
def f126:T9:=⟨false,[some 0,some 1],3,[.tmp 2],j4 UG (j4 (j5 (l7 (N7 gD gF iA dK) FM)) A9),none⟩
theorem aiB:aW 126 f126:=R3 [0,1,4]
def f127:T9:=⟨false,[some 0,some 1],3,[.tmp 2],j4 UG (j4 (j5 (l7 (N7 Ot Ov iA dK) FM)) A9),none⟩
theorem aiC:aW 127 f127:=R3 [0,1,4]
def yj:SC:=j4 (j5 (J7 (N7 IX KR Qg Rt) UH o8)) (j4 (u7 WY F9 (rM 2)) (j4 (G8 3 (j4 (j5 (l7 (Ad 1 2 YM Qg) zbR)) (j4 (j5 (l7 zcg (D6 (F6 133 [zcz,E9]) (nP YH zdN zcj)))) (j5 (H6 zeT (l7 (M0 0 zb8) (H6 V5 (l7 (M0 1 zb8) (H6 V5 (l7 Gq (l7 zdl (nu zbn (D6 (F6 62 [Uc,E9]) (D6 (N9 2 zbJ E9) o8)))))))))))))) (j5 (l7 (N7 bM P6 Qg yF) zcd))))
def yu:SC:=j4 WW (j4 WZ (j4 (G8 1 (j4 (j5 (l7 zdh (H6 zeu (nP zb1 Cx zdq)))) (j4 (j4 zc0 (u7 yG (j4 (j5 (l7 zca zec)) A9) F9)) (j4 (j5 (l7 zcb (l7 (M0 2 Nt) (H6 V5 (l7 zcg (D6 (F6 63 [dV,E9]) (D6 (F6 62 [OA,E9]) (nP YH Xf zcj)))))))) (j4 (j4 (j5 (l7 (M0 3 Nt) (H6 V5 (l7 (M0 4 Nt) (H6 V5 (J7 zeS zcX zbb)))))) (G8 2 (U3 yj))) (j5 (H6 zeI (H6 zeT (nu zbn (D6 (F6 62 [iy,E9]) (D6 (N9 2 zct E9) o8))))))))))) WV))
def f133:T9:=⟨false,[some 0,some 5],16,[.cell 7 (some 2)],j4 (j5 (nP YH FL o8)) (j4 (j5 (nP YH TY o8)) (j4 (j4 zat (G8 0 (U3 yu))) (j4 (j5 (H6 zeI zec)) A9))),none⟩
theorem aiD:aW 133 f133:=R3 [0,14,13,15,12,1,19,4,7,33,34,32,10,8,11,5]
def qA:SC:=j4 WW (j4 WZ (j4 (G8 1 (j4 zb4 (j4 (j5 (l7 (bG 5 iA qY) (H6 zeu zcQ))) za0))) WV))
def f134:T9:=⟨false,[some 0,some 4],8,[.tmp 7],j4 zaJ (j4 (j4 za5 (G8 0 (U3 qA))) zba),none⟩
theorem aiE:aW 134 f134:=R3 [0,8,7,9,1,5,16,4]
def f135:T9:=⟨false,[some 0],3,[.tmp 2],zbx,none⟩
theorem aiF:aW 135 f135:=R3 [0,1,2]
def f136:T9:=⟨false,[some 0],3,[.tmp 2],zbw,none⟩
theorem aiG:aW 136 f136:=R3 [0,1,2]
def f149:T9:=⟨false,[some 1,some 0],4,[.cell 3 (some 2)],j4 (j5 (nP Ox vY (nP zcf zag o8))) (j4 (j5 (l7 (wJ (.func 214) [] [qz]) (l7 (aN [tN,d9.nilFunc] [(0,1,dK),(1,1,E9)]) zek))) A9),none⟩
theorem aiH:aW 149 f149:=R3 [1,0,3,4]
def f159:T9:=⟨false,[some 0],3,[.cell 2 (some 2)],j4 (j5 (nP Ox vC (nP zcf vY o8))) (j4 (j5 (l7 (wJ (.func 216) [] [dK]) (l7 (aN [tN,d9.nilFunc] [(0,1,Rt),(1,1,E9)]) (D6 (N9 2 qz E9) o8)))) A9),none⟩
theorem aiI:aW 159 f159:=R3 [0,1,2]
def f177:T9:=⟨false,[some 7,some 4,some 0],13,[.tmp 12],j4 (j5 (nP Ox vC (J7 Ba zbQ o8))) (j4 (j4 (j5 (l7 Kj (Zc V5 vY o8))) (G8 0 (j4 (j5 (l7 (N7 gD gF qz Rt) zbO)) (u7 rz (j4 (j5 (l7 zbF (H6 V5 (D6 (F6 88 [zap,E9]) (J7 zdZ Dc o8))))) (u7 qY zdc F9)) (j4 (j5 (l7 (N7 gD gF qz YI) zbM)) (u7 yG (j4 (bN 1 (R9 zcN D8 (R9 zd3 D8 (R9 Xg D8 (jT V5 0 D8 (R9 zbF D8 (jT V5 0 D8 (jT (yM eqStr 1 (A [tN,d9.nilFunc]) true iy E9) 0 D8 (R9 wH D8 (R9 Ud D8 (dcL zcf 0 UH (vK (N9 2 E9 dV) Sq D8 (R9 (pExt tV 1) D8 (R9 wH Cx pR)))))))))))))) (j4 (j4 (j5 (J7 (UW Nt) KT o8)) (u7 Qg zdc F9)) (j4 (j5 (l7 Nu (H6 V5 (l7 Ns (l7 (M0 0 WY) (H6 V5 (J7 (N7 Ot Ov iy E9) zcX o8))))))) (u7 YM (j4 (j5 (J7 za2 zbQ o8)) A9) F9)))) F9)))))) (j4 (j5 (l7 Nu (H6 V5 (D6 (F6 87 [zQ,zap,E9]) zbR)))) A9)),none⟩
theorem aiJ:aW 177 f177:=R3 [2,5,10,11,1,17,18,0,8,31,7,37,6]
def f181:T9:=⟨false,[some 0],3,[],j4 (j5 (l7 zdC (l7 Xg (H6 V5 (J7 zdZ vC o8))))) (u7 dK (j5 (H6 (rG iA) (H6 (jS [(135,0),(246,2),(247,2)] E9) (l7 zdC zed)))) (j4 (j5 (l7 zdC (l7 Xg (H6 V5 (J7 (pNe iL E9 iA) vY o8))))) (u7 qz (j5 (D6 Zb o8)) F9))),none⟩
theorem aiK:aW 181 f181:=R3 [0,6,19]
def f182:T9:=⟨false,[some 0,some 2],14,[.tmp 13],j4 (j5 (nP Ox vC (J7 zcL Xf o8))) (j4 (j4 (j5 (l7 Kj (H6 V5 (D6 (F6 229 [E9]) (J7 (N7 IX KR E9 qz) zag o8))))) (u7 rz (j4 (j5 (H6 YJ (D6 zeh (l7 (N7 bM P6 (C9 (d9.str [40])) E9) (l7 zeB zbt))))) A9) F9)) (j4 (j4 (j5 (l7 Kj (Zc V5 Db o8))) (G8 0 (j4 (j5 (l7 (N7 gD gF zap yF) Qh)) (u7 qY (j4 (j5 (l7 zb2 (H6 V5 (D6 (F6 230 [E9]) zbt)))) A9) (j4 (j5 (l7 (N7 gD gF zap Rt) zbM)) (u7 yG (j4 (j5 (l7 zbF (H6 V5 zbt))) A9) (j4 (j5 (l7 (N7 gD gF zap YI) za7)) (u7 zQ (j4 (bN 0 (R9 Nu D8 (jT V5 0 D8 (vK zdA (bZ zbF false D8 (CR V5 1 false D8 (bZ zeC false D8 (jU D8 (jU D8 (jU Xf dR)))))) D8 (R9 zbF D8 (jT V5 1 D8 (R9 zeC D8 (R9 (N7 bM P6 E9 tV) D8 (R9 zeB D8 zdz))))))))) A9) (j4 (j5 (l7 (N7 gD gF zap Xa) zbl)) (u7 Nt (j4 (j5 (l7 Nu (H6 V5 (l7 zaP (H6 KU (D6 (F6 182 [E9,za8]) (l7 (N7 bM P6 (C9 (d9.str [45])) E9) zbt))))))) A9) (j4 (j5 (l7 (N7 gD gF zap zaZ) zcd)) (u7 Qg (j4 (j5 (l7 Nu (H6 V5 (l7 zaP (H6 KU (D6 (F6 182 [E9,Rt]) (l7 (N7 bM P6 (C9 (d9.str [110,111,116,32])) E9) zbt))))))) A9) F9)))))))))))) (j4 (j5 (l7 Kj (H6 V5 (D6 (F6 229 [E9]) zce)))) (j4 (j5 (J7 zcO zbQ o8)) (j4 (j4 (j5 (J7 (N7 gD gF WY YI) zcX o8)) (u7 YM (j5 (l7 ze1 (l7 Gq zbR))) F9)) (j4 (bN 0 (R9 Nu D8 (jT V5 0 D8 (R9 zaP D8 (jT KU 0 D8 (R9 ze1 D8 (vK (F6 182 [dV,E9]) (xC D8 (bZ Nu false D8 (CR V5 2 false D8 (bZ zbL false D8 (CR KU 2 false D8 (bZ zcO false D8 (bZ Gq false D8 (xC D8 (jU D8 (bZ Kj false D8 (CR V5 3 false D8 (jU D8 (jU D8 (jU D8 (jU D8 (jU Xf dR)))))))))))))))) D8 (vK (F6 231 []) (bZ Nu false D8 (CR V5 2 false D8 (bZ zbL false D8 (CR KU 2 false D8 (bZ zcO false D8 (bZ Gq false D8 (xC D8 (bZ zdi false D8 (bZ Kj false D8 (CR V5 3 false D8 (jU D8 (jU D8 (jU D8 (jU D8 (jU Xf dR))))))))))))))) D8 (R9 Nu D8 (jT V5 2 D8 (R9 zbL D8 (jT KU 2 D8 (R9 zcO D8 (R9 Gq D8 (vK (F6 182 [iy,E9]) (bZ zdi false D8 (bZ Kj false D8 (CR V5 3 false D8 (CR zej 1 false D8 (bZ zeA false D8 (bZ zeD false D8 (jU D8 (jU Xf dR)))))))) D8 (R9 zdi D8 (R9 Kj D8 (jT V5 3 D8 (jT zej 1 D8 (R9 zeA D8 (R9 zeD D8 (R9 (N7 bM P6 E9 YL) D8 zdz)))))))))))))))))))))) A9)))))),none⟩
theorem aiL:aW 182 f182:=R3 [0,2,1,11,17,18,23,27,37,45,5,58,6,4]
def f196:T9:=⟨false,[some 0],3,[.tmp 2],j4 zaY (j4 (j5 (H6 YJ (D6 (F6 197 [E9]) zfA))) A9),none⟩
theorem aiM:aW 196 f196:=R3 [0,1,2]
def f197:T9:=⟨false,[some 0],3,[.tmp 2],j4 zaY (j4 (j5 (l7 Kj (H6 V5 (l7 zbB (l7 zbP (H6 Ub (l7 (gP iy false (N7 gD gF E9 Xa)) (l7 zeo (l7 zcV (H6 Ua (l7 zcC (l7 (gP tV true Xg) (H6 zd2 (l7 (gP OB true zbB) (l7 (gP (aZ 10) false zd9) (l7 (iM (aZ 11) zfH E9) FM)))))))))))))))) A9),none⟩
theorem aiN:aW 197 f197:=R3 [0,1,2]
def f199:T9:=⟨false,[some 0,some 1],3,[.tmp 2],j4 UG (j4 (j5 (D6 (F6 250 [iA,dK]) zbg)) A9),none⟩
theorem aiO:aW 199 f199:=R3 [0,1,4]
def mY:SC:=j4 (j5 (OO (Dv dK) zag ze0)) (j4 zb5 (G8 1 (j4 (j5 (l7 (pExt rz 1) (l7 (pExt rz 2) (J7 Oz Cx zdX)))) (j4 (j5 (D6 (dL zap [qY]) (J7 (pEq nZ E9 yG) FL o8))) (u7 zQ (j4 (j5 (J7 zdj KT o8)) A9) F9)))))
def f200:T9:=⟨false,[some 0,some 4,some 6],10,[.tmp 9],j4 zbp (j4 (j4 (j5 (OO (CQ iA) vC o8)) (G8 0 (U3 mY))) (j4 (j5 (J7 za9 KT o8)) A9)),none⟩
theorem aiP:aW 200 f200:=R3 [0,10,12,11,1,8,2,19,7,6]
def f229:T9:=⟨false,[some 0],10,[.tmp 9],j4 zbp (j4 (j4 zdo (G8 0 (j4 (j5 (l7 (N7 gD gF dK zcq) FM)) (u7 qz (j4 zbp A9) (j4 (j5 (l7 (N7 gD gF dK zdG) zbO)) (u7 rz (j4 (j5 (J7 za2 KT o8)) A9) (j4 (j5 (l7 (N7 gD gF dK zaZ) zbN)) (u7 zap (j4 (j5 (J7 zcI KT o8)) A9) (j4 (j4 (j5 (l7 (N7 gD gF dK zdI) Qh)) (u7 qY F9 (j4 (j5 (l7 (N7 gD gF dK zdJ) Qh)) (u7 qY F9 (j4 (j5 (l7 (N7 gD gF dK zdK) Qh)) (u7 qY F9 (j4 (j5 (l7 (N7 gD gF dK zdL) Qh)) (u7 qY F9 (j4 (j5 (l7 (N7 gD gF dK zdM) Qh)) (u7 qY F9 (j5 (l7 (N7 gD gF dK zc2) Qh)))))))))))) (u7 qY (j4 (j5 (J7 zcJ KT o8)) A9) (j4 (j4 (j5 (l7 (N7 gD gF dK zdR) zbM)) (u7 yG F9 (j5 (l7 (N7 gD gF dK zdH) zbM)))) (u7 yG (j4 (j5 (J7 (L9 Xa) KT o8)) A9) (j4 (j4 (j5 (l7 (N7 gD gF dK za8) za7)) (u7 zQ F9 (j4 (j5 (l7 (N7 gD gF dK zcy) za7)) (u7 zQ F9 (j5 (l7 (N7 gD gF dK zc6) za7)))))) (u7 zQ (j4 (j5 (J7 zbG KT o8)) A9) (j4 (j5 (l7 (N7 gD gF dK Xa) zbl)) (u7 Nt (j4 (j5 (J7 zex KT o8)) A9) F9)))))))))))))))) (j4 (j5 (J7 (L9 zcy) KT o8)) A9)),none⟩
theorem aiQ:aW 229 f229:=R3 [0,3,4,6,8,10,17,20,24,2]
def f231:T9:=⟨false,[],1,[.tmp 0],j4 zcs (j4 (j5 (nu eZ (D6 (G9 K8 1 E9 za8 (C9 (d9.str [42]))) (D6 (G9 K8 1 dV zcy (C9 (d9.str [47]))) (D6 (G9 K8 1 iy zc6 (C9 (d9.str [37]))) (D6 (G9 K8 1 tV zdR (C9 (d9.str [43]))) (D6 (G9 K8 1 OA zdH (C9 (d9.str [45]))) (D6 (G9 K8 1 OB zdI (C9 (d9.str [60]))) (D6 (G9 K8 1 YL zdJ (C9 (d9.str [60,61]))) (D6 (G9 K8 1 Uc zdK (C9 (d9.str [62]))) (D6 (G9 K8 1 YP zdL (C9 (d9.str [62,61]))) (D6 (G9 K8 1 zeX zdM (C9 (d9.str [61,61]))) (D6 (G9 K8 1 (aZ 10) zc2 (C9 (d9.str [33,61]))) (D6 (G9 K8 1 (aZ 11) zdG zfa) (D6 (G9 K8 1 (aZ 12) zcq (C9 (d9.str [111,114]))) (J7 (L9 (aZ 13)) sH o8)))))))))))))))) A9),none⟩
theorem aiR:aW 231 f231:=R3 [0]
def f238:T9:=⟨false,[some 2,some 0],5,[.tmp 4],j4 (j5 (J7 zfk Db o8)) (j4 (j5 zdT) (j4 (j4 (j5 (l7 (Bl iA yE) (OO (F6 93 [E9]) vC o8))) (u7 dK (j5 (J7 za2 zag o8)) F9)) (j4 (j5 (l7 (cK qz) (l7 Xg (H6 V5 (l7 Ns (l7 zb6 (l7 (gP E9 true zbY) (l7 (gP dV true zd3) (l7 (gP iy true Xg) (H6 (Vh tV true V5) (l7 (gP OA true (bG 2 E9 yE)) (H6 (Vh OB true zeV) (l7 (gP YL true YK) (l7 (gP Uc true Qf) (l7 (gP YP true (aN [tN,zfm] [(0,1,dV),(1,1,E9)])) (l7 (gP zeX true (pEq (xw [.i,.s]) tV E9)) (l7 (iM (aZ 10) E9 WX) zbN))))))))))))))))) A9))),none⟩
theorem aiS:aW 238 f238:=R3 [1,8,0,5,4]
def aej:SC:=j4 (j5 (D6 (Bo iA) (J7 Ud vC o8))) (j4 (u7 dK F9 zfx) (G8 1 (j4 (j5 (H6 (rF iA) (l7 Ud (l7 YN (J7 Oz vY zdX))))) (j4 (j5 (D6 (F6 229 [qz]) (l7 (N7 gD gF E9 rz) (l7 (gP E9 true Xc) (l7 (gP dV true Ow) (D6 (gE iy true (F6 238 [dV,E9])) zei)))))) (u7 yG (j4 (j5 (l7 ze2 (l7 Xg (H6 V5 (nu (lSl 2 E9 (some yF) none) (l7 ze2 zed)))))) (j4 (j5 (J7 zbY FL o8)) A9)) F9)))))
def f240:T9:=⟨false,[some 4,some 3],8,[.tmp 7],j4 zaJ (j4 (j4 (j5 (D6 (F6 231 []) (OO (om E9) sH o8))) (G8 0 (U3 aej))) (j4 zaJ A9)),none⟩
theorem aiT:aW 240 f240:=R3 [8,10,5,1,0,6,22,4]
def qB:SC:=j4 WW (j4 WZ (j4 (G8 1 (j4 zb4 (j4 (j5 (l7 (bG 1 iA qY) (H6 V5 (J7 (N7 gD gF zap E9) Gr o8)))) za0))) WV))
def f250:T9:=⟨false,[some 0,some 4],8,[.tmp 7],j4 zaJ (j4 (j4 za5 (G8 0 (U3 qB))) zba),none⟩
theorem aiU:aW 250 f250:=R3 [0,8,7,9,1,5,16,4]
end
end Go.Proofs.YtfddpcckppibjaaGreatDoor.TT

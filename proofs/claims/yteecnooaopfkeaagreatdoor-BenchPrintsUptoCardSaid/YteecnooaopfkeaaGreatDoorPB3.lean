/- The tables: each function of the program is the code that stands here; no condition. -/
import Derived.Test.YteecnooaopfkeaaGreatDoorPB0
import Derived.KernelRfl
import Derived.Test.YteecnooaopfkeaaGreatDoorProg
set_option linter.all false
namespace Go.Proofs.YteecnooaopfkeaaGreatDoor.TT
open Go Go.AM
set_option maxRecDepth 100000
noncomputable section
def qm:SC:=j4 zaT (j4 XT (j4 (D5 1 (j4 zdd (j4 (j5 (j6 (Y0 5 dZ zap) (G6 zhg zeN))) zbO))) zaD))
def f103:W9:=⟨false,[some 0,some 4],8,[.tmp 7],j4 Zm (j4 (j4 zb5 (D5 0 (P9 qm))) zca),none⟩
theorem ahA:bN 103 f103:=U3 [0,8,7,9,1,5,16,4]
def f104:W9:=⟨false,[some 0],3,[.tmp 2],j4 zb4 (j4 (j4 (j5 (j6 (K8 dO dQ dZ zhV) (j6 Tz (j6 (gP bW false zgt) (j6 zeg (j6 Zl (j6 Tz (j6 zeH (F9 zgD (j6 zfz (j6 ze0 (j6 Tz (F9 (gE bW false (D6 177 [G7])) (I8 Wv wZ o7)))))))))))))) (p9 iw (j4 zb4 C9) D7)) (j4 (j5 (F9 (D6 178 [dZ,u6 (.func (.func 179) [] [])]) (j6 (K8 yD yG G7 oM) Oz))) C9)),none⟩
theorem ahB:bN 104 f104:=U3 [0,19,2]
def f105:W9:=⟨false,[some 0],3,[.tmp 2],zbW,none⟩
theorem ahC:bN 105 f105:=U3 [0,1,2]
def f106:W9:=⟨false,[some 0,some 1],3,[.tmp 2],j4 zb4 (j4 (j5 (F9 (D6 180 [dZ,iw]) zby)) C9),none⟩
theorem ahD:bN 106 f106:=U3 [0,1,4]
def f107:W9:=⟨false,[some 0],3,[.tmp 2],zbV,none⟩
theorem ahE:bN 107 f107:=U3 [0,1,2]
def f108:W9:=⟨false,[some 0],8,[.tmp 7],j4 (j5 (nH Rh wZ zhj)) (j4 (j5 (j6 Af (G6 zag (F9 (D6 181 [G7]) Oz)))) (j4 (j4 zaQ (p9 sj zbA D7)) (j4 (j4 zav zde) (j4 (j4 zbc (j4 (j5 (j6 zeY (G6 zdR (F9 zfs zaY)))) (p9 wE zbA D7))) (j4 (j5 (j6 CU (G6 zag (F9 (D6 106 [G7,u6 (.func (.func 182) [] [])]) (j6 NN Rc))))) C9))))),none⟩
theorem ahF:bN 108 f108:=U3 [0,1,3,20,43,4,67,2]
def f112:W9:=⟨false,[some 0],3,[],j4 (j5 (j6 zd7 (j6 XW (G6 zag (I8 zeF wZ o7))))) (p9 iw (j5 (G6 (qY dZ) (G6 (jP [(123,0),(241,2),(242,2)] G7) (j6 zd7 zfd)))) (j4 (j5 (j6 zd7 (j6 XW (G6 zag (I8 (pNe iH G7 dZ) zS o7))))) (p9 nN (j5 (F9 Yi o7)) D7))),none⟩
theorem ahG:bN 112 f112:=U3 [0,6,19]
def f113:W9:=⟨false,[some 0,some 2],14,[.tmp 13],j4 (j5 (nH Rh wZ (I8 Uq TF o7))) (j4 (j4 (j5 (j6 Af (G6 zag (F9 (D6 176 [G7]) zeW)))) (p9 sj (j4 (j5 (G6 zhK (F9 zfm (j6 zfS (j6 zcW Ww))))) C9) D7)) (j4 (j4 (j5 (j6 Af (rcR zag zR o7))) (D5 0 (j4 (j5 (j6 (K8 dO dQ ql qO) Oy)) (p9 zap (j4 (j5 (j6 zg5 (G6 zag (F9 (D6 187 [G7]) Ww)))) C9) (j4 (j5 (j6 (K8 dO dQ ql Ae) zbQ)) (p9 wE (j4 (j5 (j6 Lh (G6 zag Ww))) C9) (j4 (j5 (j6 (K8 dO dQ ql TA) Rc)) (p9 wD (j4 (cO 0 (P7 CU D8 (mD zag 0 D8 (yM zd5 (ak Lh false D8 (Cz zag 1 false D8 (ak zcV false D8 (fP D8 (fP D8 (fP TF gu)))))) D8 (P7 Lh D8 (mD zag 1 D8 (P7 zcV D8 (P7 (K8 aH I6 G7 nP) D8 (P7 zcW D8 zfX))))))))) C9) (j4 (j5 (j6 (K8 dO dQ ql Rb) Zp)) (p9 Ag (j4 (j5 (j6 CU (G6 zag (j6 zbe (G6 FE (F9 (D6 113 [G7,Uo]) (j6 zd0 Ww))))))) C9) (j4 (j5 (j6 (K8 dO dQ ql Um) zcc)) (p9 Gg (j4 (j5 (j6 CU (G6 zag (j6 zbe (G6 FE (F9 (D6 113 [G7,Ae]) (j6 zfb Ww))))))) C9) D7)))))))))))) (j4 (j5 (j6 Af (G6 zag (F9 (D6 176 [G7]) zbp)))) (j4 zeh (j4 (j4 (j5 (I8 (K8 dO dQ Tx TA) Zu o7)) (p9 Wz (j5 (j6 zcZ (j6 vY zbB))) D7)) (j4 (cO 0 (P7 CU D8 (mD zag 0 D8 (P7 zbe D8 (mD FE 0 D8 (P7 zcZ D8 (yM (D6 113 [bW,G7]) (LC D8 (ak CU false D8 (Cz zag 2 false D8 (ak zb9 false D8 (Cz FE 2 false D8 (ak IJ false D8 (ak vY false D8 (LC D8 (fP D8 (ak Af false D8 (Cz zag 3 false D8 (fP D8 (fP D8 (fP D8 (fP D8 (fP TF gu)))))))))))))))) D8 (yM (D6 175 []) (ak CU false D8 (Cz zag 2 false D8 (ak zb9 false D8 (Cz FE 2 false D8 (ak IJ false D8 (ak vY false D8 (LC D8 (ak zdH false D8 (ak Af false D8 (Cz zag 3 false D8 (fP D8 (fP D8 (fP D8 (fP D8 (fP TF gu))))))))))))))) D8 (P7 CU D8 (mD zag 2 D8 (P7 zb9 D8 (mD FE 2 D8 (P7 IJ D8 (P7 vY D8 (yM (D6 113 [eP,G7]) (ak zdH false D8 (ak Af false D8 (Cz zag 3 false D8 (Cz zfq 1 false D8 (ak zhc false D8 (ak zcX false D8 (fP D8 (fP TF gu)))))))) D8 (P7 zdH D8 (P7 Af D8 (mD zag 3 D8 (mD zfq 1 D8 (P7 zhc D8 (P7 zcX D8 (P7 zd4 D8 zfX)))))))))))))))))))))) C9)))))),none⟩
theorem ahH:bN 113 f113:=U3 [0,2,1,11,17,18,23,27,37,45,5,58,6,4]
def ady:SC:=j4 (j5 (I8 (K8 yD yG Zr zcM) zbJ o7)) (j4 (p9 ze2 D7 (mE 3)) (j4 (D5 4 (j4 (j5 (j6 (Y0 1 zgG Zr) (G6 zag (I8 tJ zc9 o7)))) (j4 (j5 (F9 (D6 72 [Ur,ql]) o7)) (j5 (F9 (D6 72 [Ur,J9 (gL (gL zan))]) o7))))) (j5 (j6 (K8 aH I6 Zr qO) zfB))))
def adz:SC:=j4 (j5 (I8 (K8 yD yG Ag Gg) Dk o7)) (j4 (p9 Tx D7 (mE 1)) (j4 (D5 2 (j4 (j5 (j6 (Y0 1 Wz Ag) (G6 zag zbB))) (j4 (j4 (j5 (j6 zgs (j6 (K8 Gi oW zfc wD) (I8 (K8 Le Ls bW G7) TF o7)))) (p9 XV zb1 D7)) (j5 (j6 zhu (j6 zgs (j6 OC Rc))))))) (j5 (j6 (K8 aH I6 Ag qO) Zp))))
def f114:W9:=⟨true,[some 0,some 4],21,[.tmp 20],j4 zej (j4 (j4 (j5 (I8 (yI dZ) wZ o7)) (D5 0 (j4 (j5 (j6 (K8 dO dQ iw oM) Oz)) (p9 nN (j4 zej C9) (j4 (j5 (j6 zeB Un)) (p9 sj (j4 (j5 (j6 zeX (G6 zag zfI))) C9) D7)))))) (j4 Zm (j4 (j4 (j5 (j6 zfn (I8 zbb yj o7))) (p9 zap (j4 (j4 (j5 (j6 zfn (j6 (yI dZ) (j6 zeZ (j6 (K8 OH oW zfc G7) (I8 (K8 Ug XL nP G7) Ah o7)))))) (p9 wE zb1 D7)) (j5 (j6 zhu (j6 zfn (j6 (yI dZ) (j6 zeZ (j6 (K8 Yc oW eP G7) (j6 zfe Rc)))))))) D7)) (j4 (j4 (j5 (I8 Lg Zu (I8 Dm FD zbZ))) (D5 1 (P9 adz))) (j4 (j5 (nH (yL 123 [d9.nilPtr,Z]) zdU o7)) (j4 (j5 (F9 (D6 110 [Ur,wD]) o7)) (j4 (j5 (j6 zeX (G6 zag (F9 (D6 72 [Ur,G7]) o7)))) (j4 (j4 (j5 (nH (lSl 1 dZ (some qO) none) (sR Cq) (I8 Dm zc8 zcr))) (D5 3 (P9 ady))) (j4 (j5 (F9 (D6 74 [Ur]) zfI)) C9))))))))),none⟩
theorem ahI:bN 114 f114:=isP [0,12,13,15,1,22,29,5,41,40,42,39,7,49,8,65,64,66,63,10,4]
def f115:W9:=⟨false,[some 0,some 2],4,[.cell 3 (some 2)],j4 (j5 (nH Rh wZ zdE)) (j4 (j5 (j6 zaZ (j6 CU (G6 zag (F9 (D6 76 [G7,nN]) (F9 (D6 75 [nP,G7]) zcg)))))) C9),none⟩
theorem ahJ:bN 115 f115:=U3 [0,2,1,4]
def vC:SC:=j4 (j4 (j5 (j6 (L6 3 nN) (G6 zag (j6 Dm (j6 (K8 yD yG iw G7) (j6 (gP G7 true zgE) (G6 FC (j6 zcF (I8 Tw zR o7))))))))) zdF) (j4 (D5 1 (j4 (j4 (j5 (I8 (K8 Le Ls zap zhf) Ah o7)) (p9 wE (j4 (j5 (j6 zcq zcu)) C9) D7)) (j4 (j5 (j6 (L6 3 nN) (G6 zag (j6 (Y0 4 G7 iw) (G6 FE (j6 (K8 aH I6 zap qO) zcv)))))) (j5 (j6 zgE (G6 zag (j6 zgf (G6 zag (j6 Rf (j6 (L6 1 sj) (G6 zag (j6 zgg (G6 zag (j6 vY (j6 (pMm true nP [G7]) (j6 zdD zcg)))))))))))))))) (j5 (j6 zcb (j6 vY PY))))
def f116:W9:=⟨false,[some 0,some 5],9,[.cell 7 (some 2)],j4 (j5 (nH Rh zS zdw)) (j4 (j5 (j6 zaZ (nH Ow xg Wx))) (j4 (j4 (j5 zhB) (D5 0 (P9 vC))) (j4 (j5 (G6 (eu 2 sj) zcu)) C9))),none⟩
theorem ahK:bN 116 f116:=U3 [0,6,2,5,18,1,22,4,7]
def f117:W9:=⟨false,[some 0],6,[.tmp 5],j4 za9 (j4 (D5 0 (j4 (j5 (j6 zeJ (j6 Tz (j6 zep (j6 Wv PY))))) (p9 iw zdI (j4 (j5 (j6 zeK Oz)) (p9 nN zch zaC))))) zdB),none⟩
theorem ahL:bN 117 f117:=U3 [0,3,10,13,20,2]
def f130:W9:=⟨false,[some 1,some 0],4,[.cell 3 (some 2)],j4 (j5 (nH Rh zS (nH zcx xg o7))) (j4 (j5 (j6 (Qr (.func 201) [] [nN]) (j6 (aK [ny,d9.nilFunc] [(0,1,iw),(1,1,G7)]) zcg))) C9),none⟩
theorem ahM:bN 130 f130:=U3 [1,0,3,4]
def f140:W9:=⟨false,[some 0],3,[.cell 2 (some 2)],j4 (j5 (nH Rh wZ (nH zcx zS o7))) (j4 (j5 (j6 (Qr (.func 203) [] [iw]) (j6 (aK [ny,d9.nilFunc] [(0,1,Ae),(1,1,G7)]) zfL))) C9),none⟩
theorem ahN:bN 140 f140:=U3 [0,1,2]
def f159:W9:=⟨false,[some 7,some 4,some 0],13,[.tmp 12],j4 zc5 (j4 (j4 zd9 (D5 0 (j4 (j5 (j6 zez Un)) (p9 sj (j4 (j5 (j6 Lh (G6 zag (F9 (D6 85 [ql,G7]) (I8 zeF yj o7))))) (p9 zap zbx D7)) (j4 (j5 (j6 zeA zbQ)) (p9 wE (j4 (cO 1 (P7 zhu D8 (P7 zeO D8 (P7 XW D8 (mD zag 0 D8 (P7 Lh D8 (mD zag 0 D8 (mD (GV eqStr 1 (A [ny,d9.nilFunc]) true eP G7) 0 D8 (P7 tJ D8 (P7 TH D8 (dcL zcx 0 Dk (yM (U8 2 G7 bW) Uj D8 (P7 (pExt nP 1) D8 (P7 tJ Cq qz)))))))))))))) (j4 (j4 (j5 (I8 (Uu Ag) FD o7)) (p9 Gg zbx D7)) (j4 (j5 (j6 CU (G6 zag (j6 Dm (j6 zgh (G6 zag (I8 (K8 BD BF eP G7) Zu o7))))))) (p9 Wz zdx D7)))) D7)))))) (j4 (j5 (j6 CU (G6 zag (F9 (D6 84 [wD,ql,G7]) zbB)))) C9)),none⟩
theorem ahO:bN 159 f159:=U3 [2,5,10,11,1,17,18,0,8,31,7,37,6]
def Bp:SC:=j4 zaH (j4 (D5 1 (j4 zcG (p9 ql (j4 (j5 (iJ (H9 1 20 [ny] [(0,1,qO),(1,1,qO),(2,1,Ae),(3,1,Zt),(4,1,Ae),(5,1,Rb),(6,1,Wy),(7,1,TA),(8,1,Ae),(9,1,qO),(10,1,qO),(11,1,oM),(12,1,Ae),(13,1,Ae),(14,1,Ae),(15,1,Rb),(16,1,oM),(17,1,oM),(18,1,Ae),(19,1,oM)]) (j6 (Y0 1 G7 dZ) ze3))) C9) D7))) zaF)
def f160:W9:=⟨false,[some 3],6,[.tmp 5],j4 za9 (j4 (j5 (F9 (D6 212 []) PY)) (j4 (j4 za7 (D5 0 (P9 Bp))) zch)),none⟩
theorem ahP:bN 160 f160:=U3 [4,3,9,0,17,2]
def f161:W9:=⟨false,[some 0],9,[.tmp 8],j4 zdZ (j4 (D5 0 (j4 (j5 (j6 (K8 dO dQ dZ zg1) PY)) (p9 iw (j4 (j5 (I8 zhC Cq o7)) C9) (j4 (j5 (j6 (K8 dO dQ dZ zdp) Oz)) (p9 nN (j4 (j5 (I8 (N9 Ae) Cq o7)) C9) (j4 (j5 (j6 (K8 dO dQ dZ Um) Un)) (p9 sj (j4 (j5 (I8 zdV Cq o7)) C9) (j4 (j5 (j6 (K8 Ug XL dZ zdq) (j6 zg2 (j6 (gP bW true (K8 Qq Uh G7 zcj)) zhs)))) (p9 ql (j4 (j5 (I8 zfO Cq o7)) C9) (j4 (j5 (j6 (K8 dO dQ dZ zdu) (j6 Tz (j6 (gP bW false (K8 dO dQ G7 zb6)) (j6 Wv Oy))))) (p9 zap (j4 (j5 (I8 zbj Cq o7)) C9) (j4 (j5 (j6 (K8 dO dQ dZ Uo) (j6 Tz (j6 (gP bW false (K8 dO dQ G7 Wy)) (j6 Wv (j6 Tz (j6 (gP bW false (K8 dO dQ G7 Zt)) (j6 Wv zbQ)))))))) (p9 wE (j4 (j5 (I8 zcT Cq o7)) C9) (j4 (j5 (j6 zhp Rc)) (p9 wD (j4 (j5 (I8 zfP Cq o7)) C9) D7))))))))))))))) (j4 (j5 (I8 (N9 Zt) Cq o7)) C9)),none⟩
theorem ahQ:bN 161 f161:=U3 [0,3,6,9,12,19,26,37,2]
def f162:W9:=⟨false,[some 0],5,[.tmp 4],j4 zeL (j4 (j4 (j5 (I8 (K8 yD yG dZ oM) wZ o7)) (p9 iw (j4 (j5 (j6 (K8 Gi oW oM dZ) (F9 zgH (j6 zd0 Ox)))) C9) D7)) (j4 (j5 (j6 (K8 Yd oW dZ zb6) (j6 (K8 aH I6 (u6 (d9.int .i64 (Int.ofNat 48))) G7) (j6 (GU .u8 G7) (iJ (H9 1 1 [d9.int .u8 (Int.ofNat 0)] [(0,1,G7)]) (G6 (dw G7) Un)))))) (j4 (j4 (j5 (I8 (K8 yD yG dZ zb6) zS o7)) (p9 nN (j4 (j5 (I8 TG zR o7)) C9) D7)) (j4 (j5 (j6 (K8 OH oW dZ zb6) (F9 zgH (j6 (K8 aH I6 G7 sj) Ox)))) C9)))),none⟩
theorem ahR:bN 162 f162:=U3 [0,5,17,3,2]
def f163:W9:=⟨false,[some 0,some 2],5,[.tmp 4],j4 (j5 (nH Rh wZ zdt)) (j4 (j4 (j5 (j6 Af (G6 zag (F9 (D6 161 [G7]) zeW)))) (p9 sj (j4 (j5 (G6 zhK (F9 (D6 87 [G7]) (j6 zfS (j6 zcW Ox))))) C9) D7)) (j4 (j5 (G6 zhK (F9 (D6 87 [G7]) Ox))) C9)),none⟩
theorem ahS:bN 163 f163:=U3 [0,2,1,9,4]
def f164:W9:=⟨false,[some 0],8,[.tmp 6,.tmp 7],j4 (j5 (I8 zeP Ah zfF)) (j4 (j4 zdN (D5 0 (j4 (j5 (j6 zeB Oz)) (p9 nN (j4 (j5 (iJ (H9 1 1 [OA] [(0,1,zht)]) (iJ (H9 1 1 [ny] [(0,1,zg1)]) zbz))) C9) (j4 (j5 (j6 (K8 dO dQ iw Ae) Un)) (p9 sj (j4 (j5 (iJ (H9 1 1 [OA] [(0,1,zhn)]) (iJ (H9 1 1 [ny] [(0,1,zdp)]) zbz))) C9) (j4 (j5 (j6 zeC Ox)) (p9 ql (j4 (j5 (iJ (H9 1 6 [OA] [(0,1,u6 (d9.str [60])),(1,1,u6 (d9.str [60,61])),(2,1,u6 (d9.str [62])),(3,1,u6 (d9.str [62,61])),(4,1,u6 (d9.str [61,61])),(5,1,u6 (d9.str [33,61]))]) (iJ (H9 1 6 [ny] [(0,1,zdq),(1,1,zdm),(2,1,zek),(3,1,zel),(4,1,zem),(5,1,zcj)]) zbz))) C9) (j4 (j5 (j6 zeD Oy)) (p9 zap (j4 (j5 (iJ (H9 1 2 [OA] [(0,1,u6 (d9.str [43])),(1,1,zhE)]) (iJ (H9 1 2 [ny] [(0,1,zdu),(1,1,zb6)]) zbz))) C9) D7)))))))))) (j4 (j5 (iJ (H9 1 3 [OA] [(0,1,u6 (d9.str [42])),(1,1,u6 (d9.str [47])),(2,1,u6 (d9.str [37]))]) (iJ (H9 1 3 [ny] [(0,1,Uo),(1,1,Wy),(2,1,Zt)]) zbz))) C9)),none⟩
theorem ahT:bN 164 f164:=U3 [0,4,5,9,13,17,2,3]
def f175:W9:=⟨false,[],1,[.tmp 0],j4 zcH (j4 (j5 (iJ ji (F9 (J8 ay 1 G7 Uo (u6 (d9.str [42]))) (F9 (J8 ay 1 bW Wy (u6 (d9.str [47]))) (F9 (J8 ay 1 eP Zt (u6 (d9.str [37]))) (F9 (J8 ay 1 nP zdu (u6 (d9.str [43]))) (F9 (J8 ay 1 TB zb6 zhE) (F9 (J8 ay 1 TD zdq (u6 (d9.str [60]))) (F9 (J8 ay 1 zh3 zdm (u6 (d9.str [60,61]))) (F9 (J8 ay 1 Tt zek (u6 (d9.str [62]))) (F9 (J8 ay 1 Wu zel (u6 (d9.str [62,61]))) (F9 (J8 ay 1 Zo zem (u6 (d9.str [61,61]))) (F9 (J8 ay 1 (cu 10) zcj (u6 (d9.str [33,61]))) (F9 (J8 ay 1 (cu 11) zdp zhn) (F9 (J8 ay 1 (cu 12) zg1 zht) (I8 (N9 (cu 13)) sH o7)))))))))))))))) C9),none⟩
theorem ahU:bN 175 f175:=U3 [0]
def f176:W9:=⟨false,[some 0],10,[.tmp 9],j4 za5 (j4 (j4 zdN (D5 0 (j4 (j5 (j6 (K8 dO dQ iw zg1) Oz)) (p9 nN (j4 za5 C9) (j4 (j5 (j6 (K8 dO dQ iw zdp) Un)) (p9 sj (j4 zdX C9) (j4 (j5 (j6 zeD Ox)) (p9 ql (j4 zdW C9) (j4 (j4 (j5 (j6 (K8 dO dQ iw zdq) Oy)) (p9 zap D7 (j4 (j5 (j6 (K8 dO dQ iw zdm) Oy)) (p9 zap D7 (j4 (j5 (j6 (K8 dO dQ iw zek) Oy)) (p9 zap D7 (j4 (j5 (j6 (K8 dO dQ iw zel) Oy)) (p9 zap D7 (j4 (j5 (j6 (K8 dO dQ iw zem) Oy)) (p9 zap D7 (j5 (j6 (K8 dO dQ iw zcj) Oy)))))))))))) (p9 zap (j4 (j5 (I8 zdV FD o7)) C9) (j4 (j4 (j5 (j6 (K8 dO dQ iw zdu) zbQ)) (p9 wE D7 (j5 (j6 (K8 dO dQ iw zb6) zbQ)))) (p9 wE (j4 (j5 (I8 zfO FD o7)) C9) (j4 (j4 (j5 (j6 (K8 dO dQ iw Uo) Rc)) (p9 wD D7 (j4 (j5 (j6 (K8 dO dQ iw Wy) Rc)) (p9 wD D7 (j5 (j6 (K8 dO dQ iw Zt) Rc)))))) (p9 wD (j4 (j5 (I8 zbj FD o7)) C9) (j4 (j5 (j6 zeC Zp)) (p9 Ag (j4 (j5 (I8 zcT FD o7)) C9) D7)))))))))))))))) (j4 (j5 (I8 zfP FD o7)) C9)),none⟩
theorem ahV:bN 176 f176:=U3 [0,3,4,6,8,10,17,20,24,2]
def f177:W9:=⟨false,[some 0],2,[.tmp 1],j4 zgT (j4 (j5 (iJ zbf (F9 (D6 227 [G7,dZ]) PY))) C9),none⟩
theorem ahW:bN 177 f177:=U3 [0,2]
def f178:W9:=⟨false,[some 0,some 1],3,[.tmp 2],j4 zed (j4 (j5 (F9 (D6 228 [dZ,iw,Tv]) Oz)) C9),none⟩
theorem ahX:bN 178 f178:=U3 [0,1,4]
def f179:W9:=⟨false,[some 0],2,[.tmp 1],j4 zgT (j4 (j5 (j6 (K8 Le Ls dZ (u6 (d9.int .i32 (Int.ofNat 127)))) (j6 Tz (j6 (gP bW false (GU .u8 G7)) (F9 zgD (j6 zfz (j6 ze1 (j6 zg2 (j6 (gP bW true (GU .u8 G7)) (F9 (gE eP true (D6 47 [G7])) (j6 (gP nP true NN) (j6 (gP Zo false zcJ) (j6 (gq (cu 10) Tv G7) PY))))))))))))) C9),none⟩
theorem ahY:bN 179 f179:=U3 [0,2]
def qo:SC:=j4 zaT (j4 XT (j4 (D5 1 (j4 zdd (j4 (j5 (j6 (Y0 4 dZ zap) (G6 FE zeN))) zbO))) zaD))
def f180:W9:=⟨false,[some 0,some 4],8,[.tmp 7],j4 Zm (j4 (j4 zb5 (D5 0 (P9 qo))) zca),none⟩
theorem ahZ:bN 180 f180:=U3 [0,8,7,9,1,5,16,4]
def f181:W9:=⟨false,[some 0],6,[.tmp 5],j4 za9 (j4 (D5 0 (j4 (j5 (j6 zeK PY)) (p9 iw zch (j4 (j5 (j6 zeJ (j6 Tz (j6 zep (j6 Wv Oz))))) (p9 nN zdI zaC))))) zdB),none⟩
theorem ai0:bN 181 f181:=U3 [0,3,6,13,20,2]
def f182:W9:=⟨false,[some 0],3,[.tmp 2],zbV,none⟩
theorem ai1:bN 182 f182:=U3 [0,1,2]
def f187:W9:=⟨true,[some 0],2,[.tmp 1],j4 ze5 (j4 (j5 (F9 (D6 230 [dZ]) PY)) C9),none⟩
theorem ai2:bN 187 f187:=isP [0,2]
def f212:W9:=⟨false,[],1,[.tmp 0],j4 (j5 (I8 zeP sH o7)) (j4 (j5 (iJ (H9 1 20 [OA] [(0,1,zgl),(1,1,zfY),(2,1,zgn),(3,1,zf4),(4,1,zgA),(5,1,zgq),(6,1,zfG),(7,1,zgB),(8,1,zfp),(9,1,zgm),(10,1,zf7),(11,1,zf8),(12,1,zgC),(13,1,zgo),(14,1,zf5),(15,1,zfZ),(16,1,zfa),(17,1,zf9),(18,1,zfA),(19,1,zf0)]) zhL)) C9),none⟩
theorem ai3:bN 212 f212:=U3 [0]
def f227:W9:=⟨false,[some 0,some 1],3,[.tmp 2],j4 zb4 (j4 (j5 (F9 (D6 292 [dZ,iw]) zby)) C9),none⟩
theorem ai4:bN 227 f227:=U3 [0,1,4]
def mK:SC:=j4 (j5 (Qv (DK iw) xg zgv)) (j4 zg4 (D5 1 (j4 (j5 (j6 (pExt sj 1) (j6 (pExt sj 2) (I8 NK Cq zey)))) (j4 (j5 (F9 (DJ ql [zap]) (I8 (pEq qW G7 wE) GQ o7))) (p9 wD (j4 (j5 (I8 zb7 FD o7)) C9) D7)))))
def f228:W9:=⟨false,[some 0,some 4,some 6],10,[.tmp 9],j4 za5 (j4 (j4 (j5 (Qv (CZ dZ) wZ o7)) (D5 0 (P9 mK))) (j4 (j5 (I8 zgW FD o7)) C9)),none⟩
theorem ai5:bN 228 f228:=U3 [0,10,12,11,1,8,2,19,7,6]
def qp:SC:=j4 zaT (j4 XT (j4 (D5 1 (j4 zdd (j4 (j5 (j6 (Y0 1 dZ zap) (G6 zag (I8 (K8 dO dQ ql G7) Ah o7)))) zbO))) zaD))
def f292:W9:=⟨false,[some 0,some 4],8,[.tmp 7],j4 Zm (j4 (j4 zb5 (D5 0 (P9 qp))) zca),none⟩
theorem ai6:bN 292 f292:=U3 [0,8,7,9,1,5,16,4]
end
end Go.Proofs.YteecnooaopfkeaaGreatDoor.TT

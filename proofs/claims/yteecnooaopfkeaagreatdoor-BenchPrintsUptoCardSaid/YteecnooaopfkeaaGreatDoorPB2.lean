/- The tables: each function of the program is the code that stands here; no condition. -/
import Derived.Test.YteecnooaopfkeaaGreatDoorPB0
import Derived.KernelRfl
import Derived.Test.YteecnooaopfkeaaGreatDoorProg
set_option linter.all false
namespace Go.Proofs.YteecnooaopfkeaaGreatDoor.TT
open Go Go.AM
set_option maxRecDepth 100000
noncomputable section
def f40:W9:=⟨false,[some 0],2,[.tmp 1],j4 (j5 (I8 (N9 zc0) wZ o7)) (j4 (j5 (iJ ji (j6 (aK [d9.nilPtr,d9.nilMap] [(0,1,dZ),(1,1,G7)]) (iJ (RB G7) PY)))) C9),none⟩
theorem anD:bN 40 f40:=U3 [0,2]
def xk:SC:=j4 (j4 (j5 (j6 zgy (G6 zag (j6 Dm (I8 zf2 yj o7))))) zft) (j4 (D5 3 (j4 (j5 (j6 zgy (G6 zag (j6 (Y0 4 G7 sj) (G6 FE (F9 (D6 86 [G7,wE]) Rc)))))) (j4 (j5 (I8 (K8 BD BF wD oM) Cq o7)) (p9 Ag (j4 (j5 (I8 zhu XU o7)) C9) D7)))) zbu)
def fJ:SC:=j4 zaH (j4 (D5 1 (j4 (j5 (j6 zdn (G6 zhg (nH zbX zR zhb)))) (j4 (j4 zbR (D5 2 (P9 xk))) (j4 (j4 (j5 (j6 zeQ (G6 zag (j6 za1 (j6 zc1 (j6 zfE (G6 zeb (F9 zeG (j6 zdl (I8 zgX FD o7)))))))))) (p9 Gg (j4 zdL C9) D7)) (j4 (j4 (j5 (j6 zeQ (G6 zag (j6 zhe (j6 zc1 (j6 zfE (G6 zeb (F9 zeG (I8 zcJ Dk o7))))))))) (p9 Tx (j4 (j5 (I8 zcT XU o7)) C9) D7)) (j4 (j4 (j5 (j6 zeQ zdk)) (p9 Wz (cO 2 (dcL (H9 1 0 [OA] []) 0 D8 (P7 Dl D8 (yM (qy 1 16 bW G7) Uj D8 (P7 zeR D8 (mD zag 1 D8 (dcL zfN 1 D8 (yM (qy 1 16 nP G7) Uj D8 (P7 tJ Ah qz))))))))) D7)) (j4 (j5 (j6 (L6 3 ql) zdo)) (j4 (j4 (j5 (I8 (K8 dO dQ Zq oM) TF o7)) (p9 XV (j5 (j6 (L6 4 ql) zdo)) D7)) (j4 (j5 (I8 (K8 BD BF Zq oM) zdU o7)) (p9 Ur (j4 (j5 (I8 zcZ XU o7)) C9) D7)))))))))) zaF)
def f41:W9:=⟨false,[some 1,some 6],16,[.tmp 15],j4 zdM (j4 (j4 za7 (D5 0 (P9 fJ))) (j4 zdM C9)),none⟩
theorem anE:bN 41 f41:=U3 [5,0,13,7,6,24,1,8,35,46,55,58,9,71,77,4]
def IU:SC:=j4 zaH (j4 (D5 1 (j4 (j4 (j5 (I8 (K8 Le Ls dZ oM) xg o7)) (p9 sj (j5 (j6 OB (j6 (K8 aH I6 G7 (u6 (d9.str [44,32]))) Ox))) D7)) (j5 (j6 OB (j6 (Y0 4 iw dZ) (G6 FE (F9 (D6 87 [G7]) (j6 zhc Ox)))))))) zaF)
def f42:W9:=⟨false,[some 1],6,[.tmp 5],j4 (j5 (I8 Uq yj o7)) (j4 zeL (j4 (j4 za7 (D5 0 (P9 IU))) (j4 zeM C9))),none⟩
theorem anF:bN 42 f42:=U3 [4,0,8,12,3,2]
def f45:W9:=⟨false,[some 0],2,[.tmp 1],zbg,none⟩
theorem anG:bN 45 f45:=U3 [0,2]
def f47:W9:=⟨false,[some 0],2,[.tmp 1],zbh,none⟩
theorem anH:bN 47 f47:=U3 [0,2]
def f48:W9:=⟨true,[some 0],6,[.tmp 4,.tmp 5],j4 (j5 (I8 NJ zR zfj)) (j4 (j5 (F9 (D6 91 [dZ]) (j6 TH (j6 XY (I8 NK xg zdT))))) (j4 (j4 (j5 (I8 (pNe lG iw (u6 d9.nilIface)) zS o7)) (p9 nN (j4 (j5 (F9 (D6 92 [u6 (d9.str [65,116,111,105]),dZ,oM,oM,iw]) (I8 TG zR zey))) C9) D7)) (j4 (j5 (I8 TG zR zfj)) C9))),none⟩
theorem anI:bN 48 f48:=isP [0,5,12,4,2,3]
def f50:W9:=⟨false,[some 0,some 1],3,[.tmp 2],j4 zb4 (j4 (j5 (F9 (D6 94 [dZ,iw]) zby)) C9),none⟩
theorem anJ:bN 50 f50:=U3 [0,1,4]
def f51:W9:=⟨false,[some 0],2,[.tmp 1],zbg,none⟩
theorem anK:bN 51 f51:=U3 [0,2]
def f52:W9:=⟨false,[some 0],2,[.tmp 1],zbh,none⟩
theorem anL:bN 52 f52:=U3 [0,2]
def IV:SC:=j4 zaH (j4 (D5 1 (j4 zcG (p9 ql (j4 (j5 (I8 (N9 Tv) yj o7)) C9) D7))) zaF)
def f54:W9:=⟨false,[some 1,some 3],6,[.tmp 5],j4 zce (j4 (j4 za7 (D5 0 (P9 IV))) zcR),none⟩
theorem anM:bN 54 f54:=U3 [5,0,9,1,17,4]
def IW:SC:=j4 (j4 (j5 (j6 zeS (G6 zag (j6 Dm (j6 zf3 (j6 zc1 (j6 (gP bW true TG) (j6 zex ze4)))))))) zfk) (j4 (D5 1 (j5 (j6 Dl (j6 zeS (G6 zag (j6 zgk (G6 FE (j6 Dl (j6 (K8 Gi oW sj G7) (j6 zhd (F9 (D6 67 [nP,bW,G7]) (j6 (K8 aH I6 Wu G7) zbQ)))))))))))) zcA)
def f67:W9:=⟨false,[some 0,some 3,some 1],9,[.tmp 8],j4 (j5 (nH Rh yj zbZ)) (j4 (j5 (I8 zhC Ah o7)) (j4 (j4 (j5 (I8 (K8 Le Ls iw zf6) zS o7)) (p9 nN (j4 (j5 (j6 (K8 aH I6 sj qO) Zp)) C9) D7)) (j4 (j4 zbo (D5 0 (P9 IW))) (j4 (j5 (I8 Dl Cq o7)) C9)))),none⟩
theorem anN:bN 67 f67:=U3 [0,2,10,1,8,3,7,22,6]
def f68:W9:=⟨false,[some 0,some 1],3,[.tmp 2],j4 zb4 (j4 (j5 (F9 (D6 103 [dZ,iw]) zby)) C9),none⟩
theorem anO:bN 68 f68:=U3 [0,1,4]
def f69:W9:=⟨false,[some 0],3,[.tmp 2],zbW,none⟩
theorem anP:bN 69 f69:=U3 [0,1,2]
def f70:W9:=⟨false,[some 0],11,[.tmp 10],j4 zck (j4 (j4 (j5 (j6 Af (G6 zag (j6 ze7 (j6 zg0 (G6 Wt (j6 zeo zhx))))))) (p9 nN zaz D7)) (j4 (j4 (j5 (j6 Lh (G6 zag (j6 Dm Un)))) (j4 (j5 (j6 (K8 dO dQ sj oM) (j6 zfQ (j6 (gP bW false ze8) (j6 zhk (j6 zcd (G6 FC (j6 zes (j6 zhZ (I8 zhS zR o7)))))))))) zb2)) (j4 (j4 (j5 (j6 Af (G6 zag (j6 zhe (j6 zg0 (G6 Wt (j6 zen zhJ))))))) (j4 (j5 (j6 (gP zap true zg5) (G6 zdR (F9 zfs (j6 (gP zap true NN) (j6 (gq zap G7 XR) (j6 (gP G7 false PZ) (j6 zhw (j6 zhk (j6 zg8 zgU)))))))))) zb3)) (j4 (j4 (j5 (j6 CU (G6 zag (j6 Dm (j6 zbb (j6 zcd (G6 FC (j6 zev (j6 Tw (j6 zcd (G6 FC (j6 zeu (j6 Tw (j6 (gP G7 false (L6 4 iw)) (G6 Wt (j6 (gP eP false Dm) (j6 (gP nP false zbb) (j6 ze1 (j6 zcd (G6 FC (j6 zev (j6 zfC (I8 zhl GQ o7))))))))))))))))))))))) (p9 wD zaz D7)) (j4 (j4 (j5 (j6 Af (G6 zag (j6 ze9 (j6 zhN (G6 FC (j6 zeE (j6 (gP nP true XW) (G6 zgu (j6 zea (I8 zgF Cq o7))))))))))) (p9 Ag zaz D7)) (j4 (j5 (I8 (N9 (u6 (.func (.func 105) [] []))) FD o7)) (j4 (j5 (j6 Lh (G6 zag (F9 (D6 106 [G7,u6 (.func (.func 107) [] [])]) (j6 NN (j6 zhM (G6 FC (j6 zfy (F9 zgp (j6 zdl (j6 zgX (j6 zd6 (G6 FC (j6 zfy (F9 zgp (j6 zdl (j6 zgX zbp))))))))))))))))) C9))))))),none⟩
theorem anQ:bN 70 f70:=U3 [0,1,13,3,27,4,51,76,87,5,2]
def f72:W9:=⟨false,[some 0,some 1],4,[.tmp 2,.tmp 3],j4 (j5 (I8 NJ zS zfl)) (j4 (j5 (F9 (D6 112 [dZ]) o7)) (j4 (j5 (j6 zd7 (j6 Zv (G6 zag (F9 (wI 5 G7 iw) (j6 zd7 (j6 Zv zeT))))))) (j4 (j5 (j6 (yJ iw) (I8 tJ zS zfl))) C9))),none⟩
theorem anR:bN 72 f72:=U3 [0,1,4,5]
def NQ:SC:=j4 zaT (j4 XT (j4 (D5 1 (j4 (j5 (j6 zdG (G6 FE (nH zcn Ah zeU)))) (j5 (j6 PZ (G6 (eu 4 wE) (F9 zfm (iJ zfN (F9 (qy 1 16 nP G7) Oy)))))))) zaD))
def f73:W9:=⟨false,[some 0],8,[.tmp 7],j4 (j5 (I8 Uq GQ o7)) (j4 (j5 (I8 zeP yj o7)) (j4 (j4 zaU (D5 0 (P9 NQ))) (j4 (j5 (F9 (D6 114 [zap,u6 (d9.str [44,32])]) Rc)) C9))),none⟩
theorem anS:bN 73 f73:=U3 [0,8,7,9,6,3,5,2]
def f74:W9:=⟨false,[some 0],2,[.tmp 1],j4 ze5 (j4 (cO 0 (P7 Lg D8 (P7 zeO D8 (P7 Zv D8 (mD zag 0 D8 (mD (CY G7) 0 D8 (P7 Lg D8 (P7 zeO D8 (P7 Zv D8 (mD zag 0 D8 (P7 Dm D8 (yM (Qu 5 TD G7) Uj D8 (P7 tJ wZ qz))))))))))))) C9),none⟩
theorem anT:bN 74 f74:=U3 [0,2]
def NR:SC:=j4 zdS (j4 zdF (j4 (D5 1 (j4 (j5 (j6 (Y0 2 zap nN) (G6 (eu 2 G7) (nH Ow GQ Wx)))) (j5 (j6 zcD (G6 zag (j6 zdr (G6 zag (j6 Rf (j6 zcm (G6 zag (j6 zbN (G6 zag (j6 (pMm true eP [G7]) (j6 zdC zdA)))))))))))))) zc3))
def f75:W9:=⟨false,[some 0,some 1],9,[.cell 8 (some 2)],j4 (j5 (nH Rh Ah (nH Ow Cq o7))) (j4 (j4 zcz (D5 0 (P9 NR))) (j4 (j5 (G6 (eu 2 wE) (F9 (U8 2 Ag G7) o7))) C9)),none⟩
theorem anU:bN 75 f75:=U3 [0,1,9,8,10,7,2,6,4]
def FJ:SC:=j4 zaT (j4 XT (j4 (D5 1 (j4 (j5 (j6 zdG (G6 FE (nH zcn Cq zeU)))) (j4 (j4 zdi (p9 wE (j4 (j5 (j6 zct (iJ zbE (F9 (qy 2 16 wD G7) zbp)))) C9) D7)) (j4 (j5 (G6 (eu 4 Ag) (j6 zcy (F9 (D6 115 [bW,G7]) zcS)))) (j5 (j6 zhu (j6 zgd (G6 zag (j6 zge (G6 zag (j6 vY (j6 zdJ (iJ zbE (F9 (qy 2 16 Tt G7) Rc)))))))))))))) zaD))
def f76:W9:=⟨false,[some 0,some 5],11,[.tmp 10],j4 (j5 (I8 zeP Dk o7)) (j4 (j5 zfF) (j4 (j4 zaU (D5 0 (P9 FJ))) (j4 (j5 (I8 zhu Dk o7)) C9))),none⟩
theorem anV:bN 76 f76:=U3 [0,11,10,12,9,1,16,5,7,8,4]
def IX:SC:=j4 (j4 (j5 (j6 zgz (G6 zag (j6 Dm (j6 zf3 (j6 (gP G7 true zcD) (G6 FC (j6 zcF ze4)))))))) zfk) (j4 (D5 1 (j4 (j5 (j6 zgz (G6 zag (j6 zgk (G6 FE (j6 zhd zcv)))))) (j5 (j6 zcD (G6 zag (j6 zgf (G6 zag (j6 Rf (j6 zcm (G6 zag (j6 zgg (G6 zag (j6 vY (j6 (pMm true nP [G7]) (j6 zdD zdA))))))))))))))) zcA)
def f77:W9:=⟨false,[some 0,some 1],11,[.cell 3 (some 2)],j4 (j5 (nH Rh yj zdE)) (j4 (j5 (j6 zaZ (nH Ow Ah Wx))) (j4 (j4 (j5 (I8 (K8 Le Ls iw zhf) zS o7)) (p9 nN (j4 (j5 (j6 zcq zcg)) C9) D7)) (j4 (j4 zbo (D5 0 (P9 IX))) (j4 (j5 (j6 zeS (G6 zag (j6 zhd (F9 (D6 36 [bW,G7]) zcS))))) (j4 (j5 (j6 (L6 4 zap) (G6 zag (j6 zhd (F9 (D6 36 [bW,G7]) (nH Ow Dk Wx)))))) (j4 (j5 (j6 zcD (G6 zag (j6 zgd (G6 zag (j6 Rf (j6 zgh (G6 zag (j6 Rf (j6 zcm (G6 zag (j6 zge (G6 zag (j6 vY (j6 (L6 1 Tx) (G6 zag (j6 vY (j6 (pMm true zh3 [nP,G7]) (j6 (aK [ny,ny] [(0,1,Zo),(1,1,G7)]) zcg))))))))))))))))))) C9)))))),none⟩
theorem anW:bN 77 f77:=U3 [0,1,12,4,6,2,5,23,7,8,9]
def qP:SC:=j4 (j4 (j5 (j6 (yJ dZ) (I8 (K8 yD yG nN G7) xg o7))) XT) (j4 (D5 1 (j4 (j5 (j6 (tX dZ nN) (F9 (D6 51 [G7]) (j6 NN (j6 zg2 (j6 zer (j6 (gP eP true (tX bW G7)) (F9 (gE nP true (D6 52 [G7])) (j6 zdl (I8 zgX zR o7)))))))))) (p9 ql zcR D7))) (j5 (j6 Zn (j6 vY Oz))))
def f78:W9:=⟨false,[some 0],6,[.tmp 5],j4 zce (j4 (j4 (j5 (j6 (yJ dZ) (j6 zdh (j6 Tz (j6 (gP bW false zgt) (j6 zeg (j6 Zl (j6 Tz (j6 zeH (F9 (gE eP false (D6 51 [G7])) (j6 zfz (I8 ze0 wZ o7)))))))))))) (p9 iw zcR D7)) (j4 (j4 zed (D5 0 (P9 qP))) (j4 (j5 (F9 (D6 101 [dZ]) (j6 NN Oy))) C9))),none⟩
theorem anX:bN 78 f78:=U3 [0,17,3,21,35,2]
def mV:SC:=j4 (j4 (j5 (j6 CU zda)) zfi) (j4 (D5 1 (j4 (j5 (j6 CU zcp)) zdb)) zbl)
def f79:W9:=⟨false,[some 0],11,[.tmp 10],j4 zck (j4 (j5 (j6 Af (G6 zag (F9 (D6 117 [G7]) Oz)))) (j4 (j4 zaQ zdf) (j4 (j4 zav zb2) (j4 zbc (j4 (j4 (j5 (j6 zeY (G6 zdR (F9 (gE zap true (D6 78 [G7])) zaY)))) zb3) (j4 (j4 Zm (D5 0 (P9 mV))) (j4 (j5 (I8 (N9 Tv) Dk o7)) C9))))))),none⟩
theorem anY:bN 79 f79:=U3 [0,1,3,21,44,4,68,5,73,82,2]
def f80:W9:=⟨false,[],1,[.tmp 0],j4 zcH (j4 (j5 (iJ ji (j6 (aK [ny,d9.nilFunc] [(0,1,qO),(1,1,u6 (.func (.func 118) [] []))]) (F9 (J8 eqStr 1 bW zgl G7) (j6 (aK [ny,d9.nilFunc] [(0,1,qO),(1,1,u6 (.func (.func 120) [] []))]) (F9 (J8 eqStr 1 nP zfY G7) (j6 (aK [ny,d9.nilFunc] [(0,1,qO),(1,1,u6 (.func (.func 121) [] []))]) (F9 (J8 eqStr 1 TD zgm G7) (j6 (aK [ny,d9.nilFunc] [(0,1,qO),(1,1,u6 (.func (.func 126) [] []))]) (F9 (J8 eqStr 1 Tt zf7 G7) (I8 (N9 Wu) sH o7))))))))))) C9),none⟩
theorem anZ:bN 80 f80:=U3 [0]
def f81:W9:=⟨false,[],1,[.tmp 0],j4 zcH (j4 (j5 (iJ ji (F9 (D6 130 [Ae,u6 (.func (.func 131) [] [])]) (F9 (J8 eqStr 1 bW zgn G7) (F9 (D6 130 [Zt,u6 (.func (.func 132) [] [])]) (F9 (J8 eqStr 1 nP zf4 G7) (F9 (D6 130 [Ae,u6 (.func (.func 133) [] [])]) (F9 (J8 eqStr 1 TD zgA G7) (F9 (D6 130 [Rb,u6 (.func (.func 134) [] [])]) (F9 (J8 eqStr 1 Tt zgq G7) (F9 (D6 130 [Wy,u6 (.func (.func 135) [] [])]) (F9 (J8 eqStr 1 Zo zfG G7) (F9 (D6 130 [TA,u6 (.func (.func 137) [] [])]) (F9 (J8 eqStr 1 (cu 11) zgB G7) (F9 (D6 130 [Ae,u6 (.func (.func 138) [] [])]) (F9 (J8 eqStr 1 (cu 13) zfp G7) (I8 (N9 (cu 14)) sH o7))))))))))))))))) C9),none⟩
theorem ao0:bN 81 f81:=U3 [0]
def f82:W9:=⟨false,[],1,[.tmp 0],j4 zcH (j4 (j5 (iJ ji (j6 (aK [ny,d9.nilFunc] [(0,1,oM),(1,1,u6 (.func (.func 139) [] []))]) (F9 (J8 eqStr 1 bW zf8 G7) (F9 (D6 140 [u6 (.func (.func 141) [] [])]) (F9 (J8 eqStr 1 nP zgC G7) (F9 (D6 140 [u6 (.func (.func 144) [] [])]) (F9 (J8 eqStr 1 TD zgo G7) (F9 (D6 140 [u6 (.func (.func 147) [] [])]) (F9 (J8 eqStr 1 Tt zf5 G7) (j6 (aK [ny,d9.nilFunc] [(0,1,Rb),(1,1,u6 (.func (.func 148) [] []))]) (F9 (J8 eqStr 1 Zo zfZ G7) (j6 (aK [ny,d9.nilFunc] [(0,1,oM),(1,1,u6 (.func (.func 150) [] []))]) (F9 (J8 eqStr 1 (cu 11) zfa G7) (j6 (aK [ny,d9.nilFunc] [(0,1,oM),(1,1,u6 (.func (.func 154) [] []))]) (F9 (J8 eqStr 1 (cu 13) zf9 G7) (j6 (aK [ny,d9.nilFunc] [(0,1,Ae),(1,1,u6 (.func (.func 156) [] []))]) (F9 (J8 eqStr 1 (cu 15) zfA G7) (j6 (aK [ny,d9.nilFunc] [(0,1,oM),(1,1,u6 (.func (.func 158) [] []))]) (F9 (J8 eqStr 1 (cu 17) zf0 G7) (I8 (N9 (cu 18)) sH o7))))))))))))))))))))) C9),none⟩
theorem ao1:bN 82 f82:=U3 [0]
def ahx:SC:=j4 (j5 (F9 (BG iw) zgv)) (j4 zg4 (D5 1 (j4 (j5 (G6 (qX iw) (j6 TH (j6 XY (nH zcx yj (I8 (N9 eP) zR (F9 (U8 2 bW eP) o7))))))) (j5 (G6 (eu 2 zap) (F9 (J8 eqStr 1 sj ql G7) o7))))))
def f83:W9:=⟨false,[some 3,some 0],6,[],j4 (j5 (Qv (nR dZ) wZ o7)) (D5 0 (P9 ahx)),none⟩
theorem ao2:bN 83 f83:=U3 [1,7,9,0,4,5]
def xq:SC:=j4 zaT (j4 XT (j4 (D5 1 (j4 (j5 (j6 zdG (G6 FE (nH zcn GQ zeU)))) (j4 (j5 (G6 (eu 4 wD) (F9 (D6 159 [zap,wE,G7]) Zp))) (j4 zc4 (p9 Gg (j4 (j5 (I8 zb7 Dk o7)) C9) D7))))) zaD))
def f84:W9:=⟨false,[some 5,some 6,some 0],11,[.tmp 10],j4 zdY (j4 (j4 zaU (D5 0 (P9 xq))) (j4 zdY C9)),none⟩
theorem ao3:bN 84 f84:=U3 [2,12,11,13,10,0,1,8,9,21,6]
def Cr:SC:=j4 (j4 (j5 (I8 (pNe iH iw zc0) zS o7)) zg4) (j4 (D5 1 (j4 (j5 (j6 (dh iw) (j6 Zv (G6 zag (G6 (GV eqStr 1 ny true G7 sj) (j6 TH (j6 XY Ox))))))) (j4 zeM (p9 zap (j4 (j5 (I8 zcb Ah o7)) C9) D7)))) (j5 (j6 zcb (j6 zeO (j6 XW (G6 zag PY))))))
def f85:W9:=⟨false,[some 0,some 3],7,[.tmp 6],j4 zeV (j4 (j4 zdN (D5 0 (P9 Cr))) (j4 zeV C9)),none⟩
theorem ao4:bN 85 f85:=U3 [0,5,10,1,7,24,4]
def pW:SC:=j4 (j4 (j5 (j6 CU (G6 zag (j6 Dm (I8 (K8 yD yG Ag G7) FD o7))))) (p9 Gg D7 zhY)) (j4 (D5 1 (j4 (j5 (j6 CU (G6 zag (j6 (Y0 4 G7 Ag) (G6 FE (F9 (D6 86 [G7,nN]) zbp)))))) (j4 (j5 (I8 (K8 BD BF Tx oM) Zu o7)) (p9 Wz (j4 zeh C9) D7)))) (j5 (j6 zb7 (j6 vY Zp))))
def f86:W9:=⟨false,[some 0,some 2],13,[.tmp 12],j4 zc5 (j4 (j4 (j5 (j6 Af (G6 zag (j6 za1 (j6 zgi (j6 (gP bW true Lh) (G6 zeb (F9 zeG (j6 zdl (I8 zgX xg o7)))))))))) (p9 sj zbx D7)) (j4 (j4 (j5 (j6 Af (G6 zag (I8 (K8 dO dQ G7 TA) zR o7)))) (p9 ql (j4 (j5 (j6 Lh (G6 zag (F9 (D6 160 [G7]) Oy)))) (j4 (j4 (j5 (I8 (K8 yD yG zap oM) Ah o7)) (p9 wE zbx D7)) (j4 (j5 (j6 CU (G6 zag (j6 Dm (I8 (K8 BD BF zap G7) GQ o7))))) (p9 wD zdx D7)))) D7)) (j4 (j4 zdZ (D5 0 (P9 pW))) (j4 (j5 zcB) C9)))),none⟩
theorem ao5:bN 86 f86:=U3 [0,2,1,17,20,5,25,30,6,35,7,46,4]
def IY:SC:=j4 (j4 (j5 (j6 (yI Tx) (I8 (K8 yD yG Gg G7) Zu o7))) (p9 Wz D7 (mE 1))) (j4 (D5 2 (j4 (cO 0 (P7 IJ D8 (P7 NM D8 (P7 (Y0 1 bW G7) D8 (mD zag 0 D8 (P7 Af D8 (mD zag 0 D8 (P7 (K8 dO dQ eP G7) zbv qz)))))))) (p9 Zq (j5 (j6 (Y0 1 XV Gg) (G6 zag zfD))) D7))) (j5 (j6 NM (j6 vY zcc))))
def f87:W9:=⟨false,[some 0],18,[.tmp 17],j4 (j5 (nH Rh wZ zeI)) (j4 (j5 (j6 Af (G6 zag (F9 (D6 161 [G7]) Zp)))) (j4 (j4 zd9 (D5 0 (j4 (j5 (j6 (K8 dO dQ nN qO) Un)) (p9 sj (j4 (j5 (j6 zg5 (G6 zag (F9 zgH zb0)))) C9) (j4 (j5 (j6 zez Ox)) (p9 ql (j4 (j5 (j6 Lh (G6 zag zb0))) C9) (j4 (j5 (j6 zeA Oy)) (p9 zap (j4 (cO 0 (P7 CU D8 (mD zag 0 D8 (yM zhh (ak Lh false D8 (Cz zag 1 false D8 (ak zcV false D8 (fP D8 (fP D8 (fP zbJ gu)))))) D8 (P7 Lh D8 (mD zag 1 D8 (P7 zcV D8 (P7 (K8 aH I6 G7 nP) D8 (P7 zcW D8 zfH))))))))) C9) (j4 (j5 (j6 (K8 dO dQ nN Rb) zbQ)) (p9 wE (j4 (j5 (j6 CU (G6 zag (j6 zbe (G6 FE (F9 (D6 163 [G7,Wy]) (j6 zd0 zb0))))))) C9) (j4 (j5 (j6 (K8 dO dQ nN Um) Rc)) (p9 wD (j4 (j5 (j6 CU (G6 zag (j6 zbe (G6 FE (F9 (D6 163 [G7,TA]) (j6 zfb zb0))))))) C9) D7)))))))))))) (j4 (j5 (F9 (D6 164 [Ag]) (j6 TH (j6 XY (I8 NK TF (I8 NK Dk o7)))))) (j4 zef (j4 (j4 za5 (D5 1 (P9 IY))) (j4 (j5 (I8 zb7 XU o7)) (j4 (j4 (j5 (I8 zd2 zdU o7)) (p9 Ur zdL D7)) (j4 (cO 0 (P7 CU D8 (mD zag 0 D8 (P7 zbe D8 (mD FE 0 D8 (P7 (N9 Zr) D8 (yM (D6 163 [bW,G7]) (ak CU false D8 (Cz zag 1 false D8 (ak zb9 false D8 (Cz FE 1 false D8 (ak zb7 false D8 (ak vY false D8 (LC D8 (fP D8 (ak zei false D8 (fP D8 (fP D8 (fP D8 (fP zbJ gu))))))))))))) D8 (P7 CU D8 (mD zag 1 D8 (P7 zb9 D8 (mD FE 1 D8 (P7 zb7 D8 (P7 vY D8 (yM (D6 163 [eP,G7]) (ak zfv false D8 (ak zei false D8 (ak OC false D8 (ak zcX false D8 (fP D8 (fP zbJ gu)))))) D8 (P7 zfv D8 (P7 zei D8 (P7 OC D8 (P7 zcX D8 (P7 zfh D8 zfH))))))))))))))))))) C9)))))))),none⟩
theorem ao6:bN 87 f87:=U3 [0,1,13,14,19,23,33,41,3,7,5,57,66,4,73,8,6,2]
def f95:W9:=⟨false,[some 2,some 0],5,[.tmp 4],j4 zdz (j4 (j5 (I8 zdV xg o7)) (j4 (j4 (j5 (j6 (tX dZ oM) (Qv (D6 45 [G7]) wZ o7))) (p9 iw (j5 (I8 zhC xg o7)) D7)) (j4 (j5 (j6 (dh nN) (j6 XW (G6 zag (j6 Dm (j6 zbb (j6 zgi (j6 (gP bW true zeO) (j6 (gP eP true XW) (G6 (UG nP true zag) (j6 (gP TB true (Y0 2 G7 oM)) (G6 (UG TD true (eu 2 G7)) (j6 (gP zh3 true TG) (j6 (gP Tt true Lg) (j6 (gP Wu true (aK [ny,OA] [(0,1,bW),(1,1,G7)])) (j6 (gP Zo true (pEq (tV [.i,.s]) nP G7)) (j6 (gq (cu 10) G7 XR) Ox))))))))))))))))) C9))),none⟩
theorem ao7:bN 95 f95:=U3 [1,8,0,5,4]
def ahy:SC:=j4 (j5 (F9 (BG dZ) (I8 TH wZ o7))) (j4 (p9 iw D7 zhY) (D5 1 (j4 (j5 (G6 (qX dZ) (j6 TH (j6 XY (I8 NK zS zey))))) (j4 (j5 (F9 (D6 176 [nN]) (j6 (K8 dO dQ G7 sj) (j6 (gP G7 true OB) (j6 (gP bW true PZ) (F9 (gE eP true (D6 95 [bW,G7])) zfo)))))) (p9 wE (j4 (j5 (j6 zgw (j6 XW (G6 zag (iJ (lSl 2 G7 (some qO) none) (j6 zgw zfd)))))) (j4 (j5 (I8 Zn GQ o7)) C9)) D7)))))
def f97:W9:=⟨false,[some 4,some 3],8,[.tmp 7],j4 Zm (j4 (j4 (j5 (F9 (D6 175 []) (Qv (nR G7) sH o7))) (D5 0 (P9 ahy))) (j4 Zm C9)),none⟩
theorem ao8:bN 97 f97:=U3 [8,10,5,1,0,6,22,4]
def f101:W9:=⟨false,[some 0],2,[.tmp 1],j4 zgT (j4 (j5 (iJ zbf (F9 (D6 54 [G7,dZ]) PY))) C9),none⟩
theorem ahz:bN 101 f101:=U3 [0,2]
end
end Go.Proofs.YteecnooaopfkeaaGreatDoor.TT

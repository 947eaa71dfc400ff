/- The tables: each function of the program is the code that stands here; no condition. -/
import Derived.Test.YtfddpcckppibjaaGreatDoorPB0
import Derived.KernelRfl
import Derived.Test.YtfddpcckppibjaaGreatDoorProg
set_option linter.all false
namespace Go.Proofs.YtfddpcckppibjaaGreatDoor.TT
open Go Go.AM
set_option maxRecDepth 100000
noncomputable section
def f48:T9:=⟨false,[some 0],2,[.tmp 1],j4 (j5 (J7 (L9 zcP) vC o8)) (j4 (j5 (nu eZ (l7 (aN [d9.nilPtr,d9.nilMap] [(0,1,iA),(1,1,E9)]) (nu (OJ E9) WU)))) A9),none⟩
theorem ao2:aW 48 f48:=R3 [0,2]
def tq:SC:=j4 zds (j4 zdg (j4 (G8 1 (j4 (j5 (l7 (bG 5 qY qz) (H6 zeu (nP zb1 Gr zdq)))) (j4 (j5 (l7 zd4 (Zc V5 FL o8))) (G8 2 (j4 (j5 (l7 (N7 gD gF zQ yF) zbl)) (u7 Nt (bN 0 (R9 zcl D8 (jT V5 0 D8 (vK zdA (bZ Qi false D8 (bZ zeb false D8 (bZ zck false D8 (CR V5 1 false D8 (bZ zdv false D8 (bZ zcr false D8 (jU D8 (jU D8 (xC D8 dR))))))))) D8 (R9 Qi D8 (R9 zeb D8 (R9 zck D8 (jT V5 1 D8 (R9 zdv D8 (R9 zcr D8 (R9 (N7 bM P6 E9 YL) D8 zcM))))))))))) (j4 (j5 (l7 (N7 gD gF zQ Rt) (J7 wH zcX o8))) (u7 YM (bN 0 (R9 zcl D8 (jT V5 0 D8 (vK zdA (bZ Qi false D8 (bZ zck false D8 (CR V5 1 false D8 (bZ zdv false D8 (bZ zcr false D8 (jU D8 (jU D8 (xC D8 dR)))))))) D8 (R9 Qi D8 (R9 zck D8 (jT V5 1 D8 (R9 zdv D8 (R9 zcr D8 (R9 (N7 bM P6 E9 OB) D8 zcM)))))))))) (j4 (j5 (l7 (N7 gD gF zQ zaZ) zbR)) (u7 zcz (j5 (l7 (N7 bM P6 Qg (C9 (d9.str [112,114,105,110,116,32]))) (l7 zcl (H6 V5 (D6 zdA (l7 zeA zcZ)))))) (j4 (j5 (l7 (N7 gD gF zQ za8) zbt)) (u7 zbJ (j5 (l7 zcl (H6 V5 (D6 zdA (l7 (N7 bM P6 Qg E9) zcZ))))) (j4 (j5 (l7 (N7 gD gF zQ Xa) (J7 wH zdN o8))) (u7 zb8 (bN 0 (R9 zcl D8 (jT V5 0 D8 (vK zdA (bZ zdr false D8 (CR V5 1 false D8 (bZ Qf false D8 (bZ Gq false D8 (xC D8 (bZ Qi false D8 (bZ zcK false D8 (jU D8 (jU D8 (jU D8 (bZ Qi false D8 (jU D8 (jU D8 (xC D8 dR)))))))))))))) D8 (R9 zdr D8 (jT V5 1 D8 (R9 Qf D8 (R9 Gq D8 (vK (F6 49 [iy,E9]) (bZ Qi false D8 (bZ zcK false D8 (bZ zdB false D8 (bZ zcm false D8 (jU D8 (bZ Qi false D8 (jU D8 (jU D8 (xC D8 dR))))))))) D8 (R9 Qi D8 (R9 zcK D8 (R9 zdB D8 (R9 zcm D8 (R9 (N7 bM P6 E9 OA) D8 (R9 Qi D8 (R9 (N7 bM P6 dV E9) D8 (R9 (N7 bM P6 E9 (C9 (d9.str [125,10]))) D8 zbS))))))))))))))))) (j4 (j5 (l7 (N7 gD gF zQ YI) zbX)) (u7 zct (j4 (bN 0 (R9 zcl D8 (jT V5 0 D8 (vK zdA (bZ zdr false D8 (CR V5 1 false D8 (bZ Qf false D8 (bZ Gq false D8 (xC D8 (bZ Qi false D8 (bZ zda false D8 (jU D8 (jU D8 (jU D8 (xC D8 dR))))))))))) D8 (R9 zdr D8 (jT V5 1 D8 (R9 Qf D8 (R9 Gq D8 (vK (F6 49 [iy,E9]) (bZ Qi false D8 (bZ zda false D8 (bZ zdB false D8 (bZ zcm false D8 (jU D8 (xC D8 dR)))))) D8 (R9 Qi D8 (R9 zda D8 (R9 zdB D8 (R9 zcm D8 (R9 (N7 bM P6 E9 OA) D8 zbS)))))))))))))) (j4 (j4 (j5 (l7 ze4 (H6 V5 (l7 Ns (J7 zb6 (sR FL) o8))))) (u7 zd8 (j5 (l7 (N7 bM P6 Qg (C9 (d9.str [125,32,101,108,115,101,32,123,10]))) (l7 ze4 (H6 V5 (l7 zcG (D6 (F6 49 [dV,E9]) (l7 (N7 bM P6 OA E9) zb9))))))) F9)) (j5 (l7 (N7 bM P6 Qg (C9 (d9.str [125,10]))) zb9)))) F9)))))))))))))))) zcT))
def f49:T9:=⟨false,[some 1,some 0],18,[.tmp 17],j4 (j5 (J7 zcL (sL Cx) o8)) (j4 (j5 (nP (CP 135 [d9.nilPtr,Z]) UH o8)) (j4 (j5 (D6 (F6 89 [C9 (d9.str [32,32]),iA]) zcd)) (j4 (j4 zch (G8 0 (U3 tq))) (j4 (j5 (D6 (F6 92 [WY]) zes)) A9)))),none⟩
theorem ao3:aW 49 f49:=R3 [1,0,13,12,14,11,8,18,19,6,5,33,46,56,65,84,103,4]
def Nw:SC:=j4 WW (j4 WZ (j4 (G8 1 (j4 zbu (j5 (l7 Ow (H6 ze5 (D6 (F6 103 [E9]) (nu zc4 (D6 (qF 4 56 tV E9) Qh)))))))) WV))
def f55:T9:=⟨false,[some 0],8,[.tmp 7],j4 zc3 (j4 zel (j4 (j4 zat (G8 0 (U3 Nw))) zfw)),none⟩
theorem ao4:aW 55 f55:=R3 [0,8,7,9,6,3,5,2]
def Ny:SC:=j4 zds (j4 zdg (j4 (G8 1 (j4 (j5 (l7 (bG 2 qY qz) (H6 zeV (nP YH FL zcj)))) (j5 (l7 zd4 (H6 V5 (l7 zdQ (H6 V5 (l7 zdv (l7 zck (H6 V5 (l7 zc5 (H6 V5 (l7 (pMm true iy [E9]) (l7 (aN [tN,tN] [(0,1,OB),(1,1,E9)]) (D6 (N9 2 yG E9) o8))))))))))))))) zcT))
def f62:T9:=⟨false,[some 0,some 1],9,[.cell 8 (some 2)],j4 (j5 (nP Ox Gr (nP YH Cx o8))) (j4 (j4 zch (G8 0 (U3 Ny))) (j4 (j5 (H6 (bX 2 yG) (D6 (N9 2 Nt E9) o8))) A9)),none⟩
theorem ao5:aW 62 f62:=R3 [0,1,9,8,10,7,2,6,4]
def Fh:SC:=j4 WW (j4 WZ (j4 (G8 1 (j4 (j5 (l7 zfD (H6 KU (nP zaW Cx zfs)))) (j4 (j4 zc0 (u7 yG (j4 (j5 (l7 zca (nu zbn (D6 (qF 2 16 zQ E9) zce)))) A9) F9)) (j4 (j5 (H6 (bX 4 Nt) (l7 zcg (D6 (F6 28 [dV,E9]) (nP YH KT zcj))))) (j5 (l7 zcN (l7 (M0 0 Qg) (H6 V5 (l7 (M0 1 Qg) (H6 V5 (l7 Gq (l7 zdl (nu zbn (D6 (qF 2 16 Uc E9) za7)))))))))))))) WV))
def f63:T9:=⟨false,[some 0,some 5],11,[.tmp 10],j4 (j5 (J7 zfr UH o8)) (j4 zc3 (j4 (j4 zat (G8 0 (U3 Fh))) (j4 (j5 (J7 zcN UH o8)) A9))),none⟩
theorem ao6:aW 63 f63:=R3 [0,11,10,12,9,1,16,5,7,8,4]
def f64:T9:=⟨false,[some 0],6,[.tmp 5],j4 zbq (j4 (G8 0 (j4 (j5 (l7 (N7 gD gF iA YI) WU)) (u7 dK (j4 (j5 (J7 za9 Dc o8)) A9) (j4 (j5 (l7 (N7 gD gF iA yF) (l7 zbV (l7 (gP dV false zbC) (l7 zdk FM))))) (u7 qz (j4 zbq A9) (j4 (j5 (l7 (N7 gD gF iA Xa) (l7 zbV (l7 (gP dV false (N7 gD gF E9 zaZ)) (l7 zdk zbO))))) (u7 rz (j4 (j5 (J7 za2 Dc o8)) A9) (j4 (j5 (l7 (N7 Sn UU iA za8) (l7 zci (l7 (gP dV true (N7 QF UC E9 zcq)) (l7 zb7 zbN))))) (u7 zap (j4 (j5 (J7 zcI Dc o8)) A9) F9))))))))) (j4 (j5 (J7 (L9 zeN) Dc o8)) A9)),none⟩
theorem ao7:aW 64 f64:=R3 [0,3,6,13,20,2]
def f65:T9:=⟨false,[some 0],3,[.tmp 2],j4 UG (j4 (j4 (j5 (l7 (N7 gD gF iA zfB) (l7 zbV (l7 (gP dV false (Bn E9)) (l7 (gP iy false (N7 Ou OH E9 zc2)) (l7 zbv (l7 zbV (l7 (gP dV false (Bl E9 yE)) (D6 ze6 (l7 (gP tV false Oy) (l7 (iM OA zfH E9) (l7 zbV (D6 (gE dV false (F6 108 [E9])) (J7 zdk vC o8)))))))))))))) (u7 dK (j4 UG A9) F9)) (j4 (j5 (D6 (F6 109 [iA,C9 (.func (.func 110) [] [])]) (l7 zea FM))) A9)),none⟩
theorem ao8:aW 65 f65:=R3 [0,19,2]
def f66:T9:=⟨false,[some 0,some 1],3,[.tmp 2],j4 UG (j4 (j5 (D6 (F6 111 [iA,dK]) zbg)) A9),none⟩
theorem ao9:aW 66 f66:=R3 [0,1,4]
def f67:T9:=⟨false,[some 0],3,[.tmp 2],zbw,none⟩
theorem aoa:aW 67 f67:=R3 [0,1,2]
def acv:SC:=j4 WW (j4 WZ (j4 (G8 1 (j4 zb4 (j4 (j5 (l7 (bG 2 iA qY) (H6 zeV zcQ))) za0))) WV))
def f68:T9:=⟨false,[some 0,some 4],8,[.tmp 7],j4 zaJ (j4 (j4 za5 (G8 0 (U3 acv))) zba),none⟩
theorem aob:aW 68 f68:=R3 [0,8,7,9,1,5,16,4]
def acw:SC:=j4 (j4 (j5 (J7 (N7 Sn UU dK yE) vY o8)) zb5) (j4 (G8 1 (j4 (j5 (H6 zdY (l7 (bG 2 E9 dK) (H6 zeV (D6 (dL rz [dK,E9]) (J7 Oy Db o8)))))) (u7 zap A9 F9))) (j5 (l7 zbr zdb)))
def f69:T9:=⟨false,[some 3,some 0],5,[],j4 (j5 (H6 zdY (l7 Ns zdb))) (G8 0 (U3 acw)),none⟩
theorem aoc:aW 69 f69:=R3 [1,3,8,0,18]
def f70:T9:=⟨false,[some 0],3,[.tmp 2],j4 zaU (j4 (j4 zdo (u7 dK (j4 (j5 (J7 za2 vY o8)) A9) F9)) (j4 zaU A9)),none⟩
theorem aod:aW 70 f70:=R3 [0,3,2]
def f71:T9:=⟨false,[some 0,some 4,some 1],6,[.tmp 5],j4 (j5 (nP Ox zag zaA)) (j4 (j4 zbd (u7 qz (j5 (l7 (M0 2 rz) (H6 V5 (D6 (dL E9 [dK]) o8)))) F9)) (j4 zd1 A9)),none⟩
theorem aoe:aW 71 f71:=R3 [0,2,8,3,1,6]
def f72:T9:=⟨false,[],3,[.tmp 2],j4 (j5 (J7 zfv vY o8)) (j4 (j5 (J7 (L9 (C9 (.func (.func 112) [] []))) vC o8)) (j4 (j5 (J7 (L9 (C9 (.func (.func 114) [] []))) sH o8)) (j4 (j5 (nu eZ (D6 (G9 K8 1 E9 za8 (C9 (.func (.func 116) [] []))) (D6 (dL iA [C9 (.func (.func 117) [] [])]) (D6 (G9 K8 1 iy zcy E9) (D6 (dL iA [C9 (.func (.func 118) [] [])]) (D6 (G9 K8 1 OA zc6 E9) (D6 (G9 K8 1 OB zdR (C9 (.func (.func 119) [] []))) (D6 (G9 K8 1 YL zdH (C9 (.func (.func 121) [] []))) (D6 (dL dK [C9 (.func (.func 122) [] [])]) (D6 (G9 K8 1 YP zdI E9) (D6 (dL dK [C9 (.func (.func 123) [] [])]) (D6 (G9 K8 1 (aZ 10) zdJ E9) (D6 (dL dK [C9 (.func (.func 124) [] [])]) (D6 (G9 K8 1 (aZ 12) zdK E9) (D6 (dL dK [C9 (.func (.func 125) [] [])]) (D6 (G9 K8 1 (aZ 14) zdL E9) (D6 (dL dK [C9 (.func (.func 126) [] [])]) (D6 (G9 K8 1 (aZ 16) zdM E9) (D6 (dL dK [C9 (.func (.func 127) [] [])]) (D6 (G9 K8 1 (aZ 18) zc2 E9) (J7 (L9 (aZ 19)) vY o8)))))))))))))))))))))) A9))),none⟩
theorem aof:aW 72 f72:=R3 [2,1,0]
def f79:T9:=⟨false,[some 0],5,[.tmp 3,.tmp 4],j4 zcn (j4 (j5 (D6 (F6 133 [iA,zeP]) (nP YH vC zcj))) (j4 (j4 (j5 (l7 Kj (H6 V5 (l7 zd7 (l7 zeF (H6 Ub (l7 zdF zdp))))))) (u7 qz (j4 (j5 (J7 za9 zag (J7 za9 Db o8))) A9) F9)) (j4 (bN 0 (R9 Kj D8 (jT V5 0 D8 (R9 zb2 D8 (jT V5 0 D8 (R9 (L9 iy) zag (R9 Oz Db pR))))))) A9))),none⟩
theorem aog:aW 79 f79:=R3 [0,4,14,2,3]
def f80:T9:=⟨false,[some 0,some 1],3,[.tmp 2],j4 UG (j4 (j5 (D6 (F6 134 [iA,dK]) zbg)) A9),none⟩
theorem aoh:aW 80 f80:=R3 [0,1,4]
def f81:T9:=⟨false,[some 0],3,[.tmp 2],zbx,none⟩
theorem aoi:aW 81 f81:=R3 [0,1,2]
def f82:T9:=⟨false,[some 0],11,[.tmp 10],j4 (j5 (nP Ox vC zfE)) (j4 (j4 (j5 (l7 Kj (H6 V5 (l7 (N7 IX KR E9 yF) (l7 zbP (H6 Ub (l7 (gP iy false (N7 Ou OH E9 za8)) zdp))))))) (u7 qz zbi F9)) (j4 (j4 (j5 (l7 zbF (H6 V5 (l7 Ns zbO)))) (j4 (j5 (l7 (N7 gD gF rz yE) (l7 (gP E9 false YK) (l7 (gP dV false (N7 Ou OH E9 yF)) (l7 zdV (l7 zcW (H6 Ua (l7 (gP iy true (N7 Ot Ov E9 zaZ)) (l7 (gP YL false Xe) (J7 zfu Db o8)))))))))) (u7 zap zbi F9))) (j4 (j4 (j5 (l7 Kj (H6 V5 (l7 zbB (l7 zbP (H6 Ub (l7 zdO zdP))))))) (j4 (j5 (l7 (gP qY true zb2) (H6 zev (D6 zen (l7 zeG (l7 zey (l7 zez (l7 (gP dV false Oy) (l7 zdV (l7 zdy zbE)))))))))) (u7 yG zbi F9))) (j4 (j4 (j5 (l7 Nu (H6 V5 (l7 Ns (l7 zb6 (l7 zcW (H6 Ua (l7 zdS (l7 Xe (l7 zcW (H6 Ua (l7 (gP iy true (N7 Ot Ov E9 Xa)) (l7 Xe (l7 (gP E9 false (M0 4 dK)) (H6 Ub (l7 (gP iy false Ns) (l7 (gP tV false zb6) (l7 ze9 (l7 zcW (H6 Ua (l7 zdS (l7 (gP YP false Xe) (J7 ze7 FL o8))))))))))))))))))))))) (u7 zQ zbi F9)) (j4 (j4 (j5 (l7 Kj (H6 V5 (l7 (N7 gD gF E9 za8) (l7 zeK (H6 Ua (l7 zcC (l7 (gP tV true Xg) (H6 zd2 (l7 (gP OB true zc1) (J7 zd9 Cx o8))))))))))) (u7 Nt zbi F9)) (j4 (j5 (J7 (L9 (C9 (.func (.func 135) [] []))) KT o8)) (j4 (j5 (l7 zbF (H6 V5 (D6 (F6 66 [E9,C9 (.func (.func 136) [] [])]) (l7 Oy (l7 zcV (H6 Ua (l7 zep (D6 zeW (l7 (gP OA true Oy) (l7 zdt (l7 (gP E9 true (M0 4 dK)) (H6 Ua (l7 zep (D6 zeW (l7 (gP OA true Oy) (l7 zdt zce))))))))))))))))) A9))))))),none⟩
theorem aoj:aW 82 f82:=R3 [0,1,13,3,27,4,51,76,87,5,2]
def f83:T9:=⟨false,[],1,[.tmp 0],j4 zcs (j4 (j5 (nu eZ (l7 (aN [tN,d9.nilFunc] [(0,1,yF),(1,1,C9 (.func (.func 137) [] []))]) (D6 (G9 eqStr 1 dV (C9 (d9.str [114,111,111,109])) E9) (l7 (aN [tN,d9.nilFunc] [(0,1,yF),(1,1,C9 (.func (.func 139) [] []))]) (D6 (G9 eqStr 1 tV (C9 (d9.str [107,110,111,119,110])) E9) (l7 (aN [tN,d9.nilFunc] [(0,1,yF),(1,1,C9 (.func (.func 140) [] []))]) (D6 (G9 eqStr 1 OB (C9 (d9.str [115,101,110,100])) E9) (l7 (aN [tN,d9.nilFunc] [(0,1,yF),(1,1,C9 (.func (.func 145) [] []))]) (D6 (G9 eqStr 1 Uc (C9 (d9.str [99,114,97,115,104])) E9) (J7 (L9 YP) sH o8))))))))))) A9),none⟩
theorem aok:aW 83 f83:=R3 [0]
def f84:T9:=⟨false,[],1,[.tmp 0],j4 zcs (j4 (j5 (nu eZ (D6 (F6 149 [Rt,C9 (.func (.func 150) [] [])]) (D6 (G9 eqStr 1 dV (C9 (d9.str [102,105,108,109])) E9) (D6 (F6 149 [zc6,C9 (.func (.func 151) [] [])]) (D6 (G9 eqStr 1 tV (C9 (d9.str [103,97,117,103,101])) E9) (D6 (F6 149 [Rt,C9 (.func (.func 152) [] [])]) (D6 (G9 eqStr 1 OB (C9 (d9.str [117,115,101])) E9) (D6 (F6 149 [Xa,C9 (.func (.func 153) [] [])]) (D6 (G9 eqStr 1 Uc (C9 (d9.str [108,111,97,110])) E9) (D6 (F6 149 [zcy,C9 (.func (.func 154) [] [])]) (D6 (G9 eqStr 1 zeX (C9 (d9.str [99,111,109,112,97,114,101])) E9) (D6 (F6 149 [YI,C9 (.func (.func 156) [] [])]) (D6 (G9 eqStr 1 (aZ 11) (C9 (d9.str [109,105,120])) E9) (D6 (F6 149 [Rt,C9 (.func (.func 157) [] [])]) (D6 (G9 eqStr 1 (aZ 13) (C9 (d9.str [119,105,116,104,100,114,97,119])) E9) (J7 (L9 (aZ 14)) sH o8))))))))))))))))) A9),none⟩
theorem aol:aW 84 f84:=R3 [0]
def f85:T9:=⟨false,[],1,[.tmp 0],j4 zcs (j4 (j5 (nu eZ (l7 (aN [tN,d9.nilFunc] [(0,1,yE),(1,1,C9 (.func (.func 158) [] []))]) (D6 (G9 eqStr 1 dV (C9 (d9.str [102,97,99,116,115])) E9) (D6 (F6 159 [C9 (.func (.func 160) [] [])]) (D6 (G9 eqStr 1 tV (C9 (d9.str [108,111,119])) E9) (D6 (F6 159 [C9 (.func (.func 163) [] [])]) (D6 (G9 eqStr 1 OB (C9 (d9.str [104,105,103,104])) E9) (D6 (F6 159 [C9 (.func (.func 166) [] [])]) (D6 (G9 eqStr 1 Uc (C9 (d9.str [99,111,117,110,116])) E9) (l7 (aN [tN,d9.nilFunc] [(0,1,Xa),(1,1,C9 (.func (.func 167) [] []))]) (D6 (G9 eqStr 1 zeX (C9 (d9.str [106,117,100,103,101])) E9) (l7 (aN [tN,d9.nilFunc] [(0,1,yE),(1,1,C9 (.func (.func 169) [] []))]) (D6 (G9 eqStr 1 (aZ 11) (C9 (d9.str [101,120,112,108,97,105,110,101,100])) E9) (l7 (aN [tN,d9.nilFunc] [(0,1,yE),(1,1,C9 (.func (.func 172) [] []))]) (D6 (G9 eqStr 1 (aZ 13) (C9 (d9.str [98,108,97,109,101])) E9) (l7 (aN [tN,d9.nilFunc] [(0,1,Rt),(1,1,C9 (.func (.func 174) [] []))]) (D6 (G9 eqStr 1 (aZ 15) (C9 (d9.str [113,117,97,114,114,101,108])) E9) (l7 (aN [tN,d9.nilFunc] [(0,1,yE),(1,1,C9 (.func (.func 176) [] []))]) (D6 (G9 eqStr 1 (aZ 17) (C9 (d9.str [101,114,114,110,111])) E9) (J7 (L9 (aZ 18)) sH o8))))))))))))))))))))) A9),none⟩
theorem aom:aW 85 f85:=R3 [0]
def aie:SC:=j4 (j5 (D6 (Bo dK) ze0)) (j4 zb5 (G8 1 (j4 (j5 (H6 (rF dK) (l7 Ud (l7 YN (nP zcf Dc (J7 (L9 iy) Db (D6 (N9 2 dV iy) o8))))))) (j5 (H6 (bX 2 qY) (D6 (G9 eqStr 1 rz zap E9) o8))))))
def f86:T9:=⟨false,[some 3,some 0],6,[],j4 (j5 (OO (om iA) vC o8)) (G8 0 (U3 aie)),none⟩
theorem aon:aW 86 f86:=R3 [1,7,9,0,4,5]
def xq:SC:=j4 WW (j4 WZ (j4 (G8 1 (j4 (j5 (l7 zfD zb3)) (j4 (j5 (H6 zeR (D6 (F6 177 [qY,yG,E9]) zbl))) (j4 zcS (u7 Qg (j4 (j5 (J7 zdj UH o8)) A9) F9))))) WV))
def f87:T9:=⟨false,[some 5,some 6,some 0],11,[.tmp 10],j4 zdu (j4 (j4 zat (G8 0 (U3 xq))) (j4 zdu A9)),none⟩
theorem aoo:aW 87 f87:=R3 [2,12,11,13,10,0,1,8,9,21,6]
def Cb:SC:=j4 (j4 (j5 (J7 (pNe iL dK zcP) vY o8)) zb5) (j4 (G8 1 (j4 (j5 (l7 (cK dK) (l7 YO (H6 V5 (H6 (yM eqStr 1 tN true E9 rz) (l7 Ud (l7 YN zbN))))))) (j4 zd1 (u7 qY (j4 (j5 (J7 zbr Gr o8)) A9) F9)))) (j5 (l7 zbr (l7 zd3 (l7 Xg (H6 V5 WU))))))
def f88:T9:=⟨false,[some 0,some 3],7,[.tmp 6],j4 zd5 (j4 (j4 zdo (G8 0 (U3 Cb))) (j4 zd5 A9)),none⟩
theorem aop:aW 88 f88:=R3 [0,5,10,1,7,24,4]
def f90:T9:=⟨false,[some 0,some 1],4,[.tmp 2,.tmp 3],j4 (j5 (J7 Ba vY zeg)) (j4 (j5 (D6 (F6 181 [iA]) o8)) (j4 (j5 (l7 zdC (l7 YO (H6 V5 (D6 (wL 5 E9 dK) (l7 zdC (l7 YO zd6))))))) (j4 (j5 (l7 (Bn dK) (J7 wH vY zeg))) A9))),none⟩
theorem aoq:aW 90 f90:=R3 [0,1,4,5]
def Nz:SC:=j4 WW (j4 WZ (j4 (G8 1 (j4 zbu (j5 (l7 Ow (H6 ze5 (D6 zeh (nu (U6 1 1 [zfm] [(0,1,E9)]) (D6 (qF 1 16 tV E9) Qh)))))))) WV))
def f91:T9:=⟨false,[some 0],8,[.tmp 7],j4 (j5 (J7 zcL FL o8)) (j4 zel (j4 (j4 zat (G8 0 (U3 Nz))) (j4 (j5 (D6 (F6 183 [qY,C9 (d9.str [44,32])]) za7)) A9))),none⟩
theorem aor:aW 91 f91:=R3 [0,8,7,9,6,3,5,2]
def f92:T9:=⟨false,[some 0],2,[.tmp 1],j4 (j5 (J7 zcL vC o8)) (j4 (bN 0 (R9 Qf D8 (R9 zd3 D8 (R9 YO D8 (jT V5 0 D8 (jT (CK E9) 0 D8 (R9 Qf D8 (R9 zd3 D8 (R9 YO D8 (jT V5 0 D8 (R9 Ns D8 (vK (QJ 5 OB E9) Sq D8 (R9 wH vC pR))))))))))))) A9),none⟩
theorem aos:aW 92 f92:=R3 [0,2]
def f93:T9:=⟨false,[some 0],2,[.tmp 1],j4 zbA (j4 (j5 (l7 (N7 Sn UU iA (C9 (d9.int .u8 (Int.ofNat 97)))) (l7 zci (l7 (gP dV true (N7 QF UC E9 (C9 (d9.int .u8 (Int.ofNat 122))))) zcH)))) A9),none⟩
theorem aot:aW 93 f93:=R3 [0,2]
def f95:T9:=⟨false,[some 0],2,[.tmp 1],j4 zbA (j4 (j5 (l7 (N7 Sn UU iA (C9 (d9.int .u8 (Int.ofNat 48)))) (l7 zci (l7 (gP dV true (N7 QF UC E9 (C9 (d9.int .u8 (Int.ofNat 57))))) zcH)))) A9),none⟩
theorem aou:aW 95 f95:=R3 [0,2]
end
end Go.Proofs.YtfddpcckppibjaaGreatDoor.TT

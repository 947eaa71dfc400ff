/- The tables: each function of the program is the code that stands here; no condition. -/
import Derived.Test.YteecnooaopfkeaaGreatDoorPB0
import Derived.KernelRfl
import Derived.Test.YteecnooaopfkeaaGreatDoorProg
set_option linter.all false
namespace Go.Proofs.YteecnooaopfkeaaGreatDoor.TT
open Go Go.AM
set_option maxRecDepth 100000
noncomputable section
def f96:aW:=⟨false,[some 0],10,[.cell 3 (some 4)],o8 (p8 (oK zaH sP u7)) (o8 (o8 (p8 (p9 YU (p9 Sv (I5 bP (p9 Iz (p9 zaY (p9 Xa (p9 zc3 (p9 zdb (I5 zbV (p9 zbC (p9 zfF (I5 zdZ (p9 (gP Ue true zb3) (K5 zcs xQ u7))))))))))))))) (C9 ig (o8 (p8 (p9 YU (p9 Sv (I5 bP (p9 zbl (p9 zdg (I5 bP (D9 (E9 48 [G8]) (p9 Hg (p9 Kr zfO)))))))))) (o8 zaQ (o8 (p8 (p9 (bG zaf [(0,1,zB),(1,1,qd)]) zcr)) G7))) F9)) (o8 (o8 (p8 (EA zeZ zN u7)) (C9 uX (o8 (p8 (D9 zbd (oK zaH zF zco))) (o8 zdW (o8 (p8 (I5 (bX 4 qm) zcr)) G7))) F9)) (o8 (p8 (D9 (E9 100 [dK]) YV)) (o8 (o8 (p8 (D9 zeZ (K5 MU Jl u7))) (C9 zap (o8 (p8 (p9 (bG zaf [(0,1,YS),(2,1,zC)]) zcr)) G7) F9)) (o8 (p8 (p9 (bG zaf [(0,1,Wj),(2,1,zC)]) (oK zaH ER zco))) (o8 (o8 (p8 (D9 (E9 55 [dK,zdF]) (K5 MU MS u7))) (C9 Jm (o8 (p8 (D9 (E9 98 [dK]) (p9 (N9 3 MQ) zcP))) zdW) F9)) (o8 (p8 (I5 (bX 4 MQ) zcr)) G7))))))),none⟩
theorem apm:fI 96 f96:=aQ [0,23,3,2,46,5,56,6,63,7]
def aja:SC:=o8 (p8 (D9 (Di dK) (K5 Hg xQ u7))) (o8 zdw (H8 1 (o8 (p8 (I5 (tq dK) (p9 Hg (p9 Kr (K5 ES zD zdd))))) (o8 (p8 (D9 (E9 176 [qd]) (p9 (O8 iO iP G8 zag) (p9 ze3 (p9 (gP dx true MR) (D9 (gE dV true (E9 95 [dx,G8])) zev)))))) (C9 zap (o8 (p8 (p9 zfI (p9 Sv (I5 bP (kZ (lSl 2 G8 (some zB) none) (p9 zfI zf3)))))) (o8 (p8 (K5 YX Es u7)) G7)) F9)))))
def f97:aW:=⟨false,[some 4,some 3],8,[.tmp 7],o8 zaG (o8 (o8 (p8 (D9 (E9 175 []) (EA (oJ G8) sH u7))) (H8 0 (ak aja))) (o8 zaG G7)),none⟩
theorem apn:fI 97 f97:=aQ [8,10,5,1,0,6,22,4]
def DZ:SC:=o8 (o8 (p8 (EA (E9 55 [dK,G6 (o7.str [44])]) xQ u7)) zdw) (H8 1 (p8 (p9 YX (D9 zbd (kZ zaw (D9 (rG 4 56 dV G8) NQ))))))
def f98:aW:=⟨false,[some 0],4,[.tmp 3],o8 zez (o8 (p8 (D9 zbd (kZ zaw NQ))) (o8 (H8 0 (ak DZ)) zcu)),none⟩
theorem apo:fI 98 f98:=aQ [0,8,3,2]
def f99:aW:=⟨false,[some 0],2,[.tmp 1],o8 za9 (o8 (p8 (p9 YU (p9 Sv (I5 bP (p9 Iz (p9 zaY (p9 Xa (p9 zc3 (p9 zdb (I5 zbV (p9 zbC (p9 zfF (I5 zdZ (p9 (gP Ue true zb2) (p9 zcs (p9 Xa (p9 zc3 (p9 zdb (I5 zbV (p9 zbC (p9 (gP Qe true zdg) (I5 zdZ (D9 (gE Ue true (E9 177 [G8])) (p9 (gP zgj true MU) (p9 (gy (dM 9) G8 YT) Wi))))))))))))))))))))))))) G7),none⟩
theorem apq:fI 99 f99:=aQ [0,2]
def f100:aW:=⟨false,[some 0],4,[.tmp 3],o8 (p8 (K5 zbz sP u7)) (o8 (o8 (p8 (D9 (E9 99 [dK]) zfR)) (C9 ig zdz F9)) (o8 (p8 (p9 YU (p9 Sv (I5 bP (p9 zbl (p9 zdg (I5 bP NQ))))))) (o8 zaQ zcu))),none⟩
theorem ajb:fI 100 f100:=aQ [0,6,3,2]
def qX:SC:=o8 zaW (o8 za5 (o8 (H8 1 (o8 zcX (o8 (p8 (p9 (aU 5 dK qm) (I5 zgl zd0))) zbp))) zaC))
def f103:aW:=⟨false,[some 0,some 4],8,[.tmp 7],o8 zaG (o8 (o8 zbD (H8 0 (ak qX))) zbH),none⟩
theorem ajc:fI 103 f103:=aQ [0,8,7,9,1,5,16,4]
def f104:aW:=⟨false,[some 0],3,[.tmp 2],o8 zbk (o8 (o8 (p8 (p9 (O8 iO iP dK zgk) (p9 zbU (p9 (gP dx false zdY) (p9 (gP dV false (O8 NJ NV G8 zc7)) (p9 zb6 (p9 zbU (p9 (gP dx false zey) (D9 zfN (p9 zeG (p9 zea (p9 zbU (D9 (gE dx false (E9 177 [G8])) (K5 zcS xQ u7)))))))))))))) (C9 ig (o8 zbk G7) F9)) (o8 (p8 (D9 (E9 178 [dK,G6 (.func (.func 179) [] [])]) (p9 zei NQ))) G7)),none⟩
theorem ajd:fI 104 f104:=aQ [0,19,2]
def f105:aW:=⟨false,[some 0],3,[.tmp 2],zbx,none⟩
theorem aje:fI 105 f105:=aQ [0,1,2]
def f106:aW:=⟨false,[some 0,some 1],3,[.tmp 2],o8 zbk (o8 (p8 (D9 (E9 180 [dK,ig]) zbN)) G7),none⟩
theorem ajf:fI 106 f106:=aQ [0,1,4]
def f107:aW:=⟨false,[some 0],3,[.tmp 2],zbw,none⟩
theorem ajg:fI 107 f107:=aQ [0,1,2]
def f108:aW:=⟨false,[some 0],8,[.tmp 7],o8 (p8 (oK zge xQ (K5 WY Es u7))) (o8 (p8 (p9 Qd (I5 bP (D9 (E9 181 [G8]) NQ)))) (o8 (o8 (p8 (p9 (O8 iO iP qd zfn) (p9 (gP G8 false YX) (p9 (gP dx false (O8 WU sGe G8 BK)) (p9 zdk (p9 zfg (I5 Uc (p9 (gP dV true Iz) (p9 (gP vo true YX) (p9 (gP Et true (O8 NI NK dx G8)) (p9 (gP zgj false zbX) (K5 zfT sP u7)))))))))))) (C9 zag zcx F9)) (o8 (o8 (p8 (p9 Qd (I5 bP (p9 zb2 (p9 zdE (I5 Uc (p9 (gP dV true zei) (p9 zeO (p9 ze4 (I5 Za (p9 (gP dV false (O8 NJ NV G8 zet)) (p9 zeP (p9 zcs (p9 zcK (I5 Za (p9 (gP dV false (O8 NI NK G8 zB)) (p9 (gP vo false wQ) (p9 zdE (I5 Uc (p9 (gP dV true zcZ) (p9 (gP Ue false Ud) (K5 (gy zgj Xe G8) zN u7)))))))))))))))))))))) (C9 uX zcx F9)) (o8 (o8 (p8 (p9 Qd (I5 bP (p9 zb3 (p9 zcK (I5 Za (p9 (gP dV false (O8 iO iP G8 Wj)) zdP))))))) (o8 (p8 (p9 (gP qm true zb0) (I5 zeR (D9 zeA (p9 ze7 (p9 zeX (p9 zdt (p9 (gP dx false MU) (p9 zdk (p9 zff zbB)))))))))) (C9 zap zcx F9))) (o8 (p8 (p9 YZ (I5 bP (D9 (E9 106 [G8,G6 (.func (.func 182) [] [])]) (p9 MU YV))))) G7))))),none⟩
theorem ajh:fI 108 f108:=aQ [0,1,3,20,43,4,67,2]
def f112:aW:=⟨false,[some 0],3,[],o8 (p8 (p9 YU (p9 Sv (I5 bP (K5 (pEq zS G8 (G6 o7.nilPtr)) xQ u7))))) (C9 ig (p8 (I5 (tu dK) (I5 (kG [(123,0),(241,2),(242,2)] G8) zf5))) (o8 (p8 (p9 YU (p9 Sv (I5 bP (K5 (pNe zS G8 dK) zD u7))))) (C9 qd (p8 (D9 Xv u7)) F9))),none⟩
theorem aji:fI 112 f112:=aQ [0,6,19]
def f113:aW:=⟨false,[some 0,some 2],14,[.tmp 13],o8 (p8 (oK zge xQ (K5 zbz Xc u7))) (o8 (o8 (p8 (p9 Qd (I5 bP (D9 (E9 176 [G8]) (K5 (O8 KV NM G8 qd) sP u7))))) (C9 zag (o8 (p8 (I5 (bX 4 ig) (D9 zer (p9 (O8 cO Q0 zdh G8) (p9 ze0 zbL))))) G7) F9)) (o8 (o8 (p8 (p9 Qd (rcR bP zN u7))) (H8 0 (o8 (p8 (p9 (O8 iO iP uX zB) Sr)) (C9 qm (o8 (p8 (p9 zbZ (I5 bP (D9 (E9 187 [G8]) zbL)))) G7) (o8 (p8 (p9 (O8 iO iP uX YS) zbG)) (C9 zap (o8 (p8 (p9 zb0 (I5 bP zbL))) G7) (o8 (p8 (p9 (O8 iO iP uX Wj) YV)) (C9 zC (o8 (iC 0 (Y0 YZ I6 (uZ bP 0 I6 (EC zdA (gB zb0 false I6 (Lf bP 1 false I6 (gB ze1 false I6 (rA I6 (rA I6 (rA Xc lH)))))) I6 (Y0 zb0 I6 (uZ bP 1 I6 (Y0 ze1 I6 (Y0 (O8 cO Q0 G8 vo) I6 (Y0 ze0 I6 zfh))))))))) G7) (o8 (p8 (p9 (O8 iO iP uX zbn) zbt)) (C9 Jm (o8 (p8 (p9 YZ (I5 bP (p9 zce (I5 Wm (D9 (E9 113 [G8,za1]) (p9 (O8 cO Q0 zfd G8) zbL))))))) G7) (o8 (p8 (p9 (O8 iO iP uX zbo) zcQ)) (C9 MQ (o8 (p8 (p9 YZ (I5 bP (p9 zce (I5 Wm (D9 (E9 113 [G8,YS]) (p9 (O8 cO Q0 (G6 (o7.str [110,111,116,32])) G8) zbL))))))) G7) F9)))))))))))) (o8 (p8 (p9 Qd (I5 bP (D9 (E9 176 [G8]) zca)))) (o8 (p8 (K5 zcf (sR zF) u7)) (o8 (o8 (p8 (K5 (O8 iO iP WZ Wj) zcT u7)) (C9 zbv (p8 (p9 zcJ (p9 Kq zbK))) F9)) (o8 (iC 0 (Y0 YZ I6 (uZ bP 0 I6 (Y0 zce I6 (uZ Wm 0 I6 (Y0 zcJ I6 (EC (E9 113 [dx,G8]) (QT I6 (gB YZ false I6 (Lf bP 2 false I6 (gB zdc false I6 (Lf Wm 2 false I6 (gB zcf false I6 (gB Kq false I6 (QT I6 (rA I6 (gB Qd false I6 (Lf bP 3 false I6 (rA I6 (rA I6 (rA I6 (rA I6 (rA Xc lH)))))))))))))))) I6 (EC (E9 175 []) (gB YZ false I6 (Lf bP 2 false I6 (gB zdc false I6 (Lf Wm 2 false I6 (gB zcf false I6 (gB Kq false I6 (QT I6 (gB zdj false I6 (gB Qd false I6 (Lf bP 3 false I6 (rA I6 (rA I6 (rA I6 (rA I6 (rA Xc lH))))))))))))))) I6 (Y0 YZ I6 (uZ bP 2 I6 (Y0 zdc I6 (uZ Wm 2 I6 (Y0 zcf I6 (Y0 Kq I6 (EC (E9 113 [dV,G8]) (gB zdj false I6 (gB Qd false I6 (Lf bP 3 false I6 (Lf zex 1 false I6 (gB zeW false I6 (gB ze2 false I6 (rA I6 (rA Xc lH)))))))) I6 (Y0 zdj I6 (Y0 Qd I6 (uZ bP 3 I6 (uZ zex 1 I6 (Y0 zeW I6 (Y0 ze2 I6 (Y0 (O8 cO Q0 G8 Zb) I6 zfh)))))))))))))))))))))) G7)))))),none⟩
theorem ajj:fI 113 f113:=aQ [0,2,1,11,17,18,23,27,37,45,5,58,6,4]
def afB:SC:=o8 (p8 (K5 (O8 KV NM zbI zec) zcy u7)) (o8 (C9 (K3 (gL zgo)) F9 (oM 3)) (o8 (H8 4 (o8 (p8 (p9 (aU 1 (K3 (gR zgo)) zbI) (I5 bP (K5 wQ (sL ER) u7)))) (o8 (p8 (D9 (E9 72 [zbT,uX]) u7)) (p8 (D9 (E9 72 [zbT,K3 (gL (gL zan))]) u7))))) (p8 (p9 (O8 cO Q0 zbI zB) zeK))))
def afC:SC:=o8 zc6 (o8 zem (o8 (H8 2 (o8 zcp (o8 (o8 (p8 (p9 zfG (p9 (O8 KU vC zej zC) (K5 (O8 NJ NV dx G8) Xc u7)))) (C9 zbS zbA F9)) (p8 (p9 za8 (p9 zfG (p9 (O8 cO Q0 dx G8) YV))))))) zct))
def f114:aW:=⟨true,[some 0,some 4],21,[.tmp 20],o8 zdJ (o8 (o8 (p8 (K5 zgi xQ u7)) (H8 0 (o8 (p8 (p9 (O8 iO iP ig BK) NQ)) (C9 qd (o8 zdJ G7) (o8 (p8 (p9 (O8 iO iP ig zB) zf8)) (C9 zag (o8 (p8 (p9 zd6 (I5 bP zeM))) G7) F9)))))) (o8 zaG (o8 (o8 (p8 (p9 zes (K5 zaY zF u7))) (C9 qm (o8 (o8 (p8 (p9 zes (p9 zgi (p9 zd9 (p9 (O8 Xi vC zej G8) (K5 (O8 WU sGe vo G8) Jl u7)))))) (C9 zap zbA F9)) (p8 (p9 za8 (p9 zes (p9 zgi (p9 zd9 (p9 (O8 aaD vC dV G8) (p9 (O8 cO Q0 Et G8) YV)))))))) F9)) (o8 (o8 (p8 (K5 EP zcT zcU)) (H8 1 (ak afC))) (o8 (p8 (oK (zU 123 [o7.nilPtr,Z]) Wl u7)) (o8 (p8 (D9 (E9 110 [zbT,zC]) u7)) (o8 (p8 (p9 zd6 (I5 bP (D9 (E9 72 [zbT,G8]) u7)))) (o8 (o8 (p8 (oK (lSl 1 dK (some zB) none) (sR MS) (K5 Iz zcO (K5 NP zcb u7)))) (H8 3 (ak afB))) (o8 (p8 (D9 (E9 74 [zbT]) zeM)) G7))))))))),none⟩
theorem ajk:fI 114 f114:=isP [0,12,13,15,1,22,29,5,41,40,42,39,7,49,8,65,64,66,63,10,4]
def f115:aW:=⟨false,[some 0,some 2],4,[.cell 3 (some 2)],o8 (p8 (oK zge xQ (oK zaK sP u7))) (o8 (p8 (p9 zb9 (p9 YZ (I5 bP (D9 (E9 76 [G8,qd]) (D9 (E9 75 [vo,G8]) (D9 zdR u7))))))) G7),none⟩
theorem ajl:fI 115 f115:=aQ [0,2,1,4]
def f175:aW:=⟨false,[],1,[.tmp 0],o8 (p8 (K5 (Q5 (G6 o7.nilMap)) sH u7)) (o8 (p8 (kZ Fv (D9 (T9 aK 1 G8 za1 (G6 (o7.str [42]))) (D9 (T9 aK 1 dx zcv (G6 (o7.str [47]))) (D9 (T9 aK 1 dV zfz (G6 (o7.str [37]))) (D9 (T9 aK 1 vo zfA (G6 (o7.str [43]))) (D9 (T9 aK 1 Et zfp zfd) (D9 (T9 aK 1 Qe zfq (G6 (o7.str [60]))) (D9 (T9 aK 1 Zb zfr (G6 (o7.str [60,61]))) (D9 (T9 aK 1 Ue zfs (G6 (o7.str [62]))) (D9 (T9 aK 1 zgj zft (G6 (o7.str [62,61]))) (D9 (T9 aK 1 (dM 9) zfu (G6 (o7.str [61,61]))) (D9 (T9 aK 1 (dM 10) zc7 (G6 (o7.str [33,61]))) (D9 (T9 aK 1 (dM 11) zfv zfV) (D9 (T9 aK 1 (dM 12) zdK (G6 (o7.str [111,114]))) (K5 (Q5 (dM 13)) sH u7)))))))))))))))) G7),none⟩
theorem ajm:fI 175 f175:=aQ [0]
def f176:aW:=⟨false,[some 0],10,[.tmp 9],o8 zbm (o8 (o8 zeL (H8 0 (o8 (p8 (p9 (O8 iO iP ig zdK) NQ)) (C9 qd (o8 zbm G7) (o8 (p8 (p9 (O8 iO iP ig zfv) zf8)) (C9 zag (o8 (p8 (K5 zbE ER u7)) G7) (o8 (p8 (p9 (O8 iO iP ig zbo) zbY)) (C9 uX (o8 (p8 (K5 zbW ER u7)) G7) (o8 (o8 (p8 (p9 (O8 iO iP ig zfq) Sr)) (C9 qm F9 (o8 (p8 (p9 (O8 iO iP ig zfr) Sr)) (C9 qm F9 (o8 (p8 (p9 (O8 iO iP ig zfs) Sr)) (C9 qm F9 (o8 (p8 (p9 (O8 iO iP ig zft) Sr)) (C9 qm F9 (o8 (p8 (p9 (O8 iO iP ig zfu) Sr)) (C9 qm F9 (p8 (p9 (O8 iO iP ig zc7) Sr)))))))))))) (C9 qm (o8 (p8 (K5 zeU ER u7)) G7) (o8 (o8 (p8 (p9 (O8 iO iP ig zfA) zbG)) (C9 zap F9 (p8 (p9 (O8 iO iP ig zfp) zbG)))) (C9 zap (o8 (p8 (K5 (Q5 zbn) ER u7)) G7) (o8 (o8 (p8 (p9 zdT YV)) (C9 zC F9 (o8 (p8 (p9 (O8 iO iP ig zcv) YV)) (C9 zC F9 (p8 (p9 (O8 iO iP ig zfz) YV)))))) (C9 zC (o8 (p8 (K5 (Q5 zbo) ER u7)) G7) (o8 (p8 (p9 (O8 iO iP ig zbn) zbt)) (C9 Jm (o8 (p8 (K5 (Q5 za1) ER u7)) G7) F9)))))))))))))))) (o8 (p8 (K5 zeT ER u7)) G7)),none⟩
theorem ajn:fI 176 f176:=aQ [0,3,4,6,8,10,17,20,24,2]
def f177:aW:=⟨false,[some 0],2,[.tmp 1],o8 za9 (o8 (p8 (kZ (P7 1 8 [QU] [(0,1,zfM),(1,1,G6 (o7.str [105,102])),(2,1,zfB),(3,1,zfi),(4,1,zfj),(5,1,zfV),(6,1,G6 (o7.str [111,114])),(7,1,zfL)]) (D9 (E9 227 [G8,dK]) Wi))) G7),none⟩
theorem ajo:fI 177 f177:=aQ [0,2]
def f178:aW:=⟨false,[some 0,some 1],3,[.tmp 2],o8 (p8 (K5 NP zD u7)) (o8 (p8 (D9 (E9 228 [dK,ig,Xe]) NQ)) G7),none⟩
theorem ajp:fI 178 f178:=aQ [0,1,4]
def f179:aW:=⟨false,[some 0],2,[.tmp 1],o8 za9 (o8 (p8 (p9 (O8 NJ NV dK (G6 (o7.int .i32 (Int.ofNat 127)))) (p9 zbU (p9 (gP dx false (NZ .u8 G8)) (D9 zfN (p9 zeG (p9 zfS (p9 Xa (p9 (gP dx true (NZ .u8 G8)) (D9 (gE dV true (E9 47 [G8])) (p9 (gP vo true MU) (p9 (gP (dM 9) false zeb) (p9 (gy (dM 10) Xe G8) Wi))))))))))))) G7),none⟩
theorem ajq:fI 179 f179:=aQ [0,2]
def qY:SC:=o8 zaW (o8 za5 (o8 (H8 1 (o8 zcX (o8 (p8 (p9 (aU 4 dK qm) (I5 Wm zd0))) zbp))) zaC))
def f180:aW:=⟨false,[some 0,some 4],8,[.tmp 7],o8 zaG (o8 (o8 zbD (H8 0 (ak qY))) zbH),none⟩
theorem ajr:fI 180 f180:=aQ [0,8,7,9,1,5,16,4]
def f181:aW:=⟨false,[some 0],6,[.tmp 5],o8 zcd (o8 (H8 0 (o8 (p8 (p9 zdX Wi)) (C9 ig (o8 (p8 (K5 zaZ zF u7)) G7) (o8 (p8 (p9 (O8 iO iP dK zB) (p9 zbU (p9 (gP dx false zb3) (p9 zcS NQ))))) (C9 qd (o8 zcd G7) (o8 (p8 (p9 (O8 iO iP dK zbn) (p9 zbU (p9 (gP dx false (O8 iO iP G8 zbo)) (p9 zcS zf8))))) (C9 zag (o8 zdD G7) (o8 (p8 (p9 (O8 WU sGe dK za1) (p9 Xa (p9 (gP dx true (O8 QX UK G8 zdK)) (p9 zcz zbY))))) (C9 uX (o8 zdC G7) F9))))))))) (o8 (p8 (K5 (Q5 zfn) zF u7)) G7)),none⟩
theorem ajs:fI 181 f181:=aQ [0,3,6,13,20,2]
def f182:aW:=⟨false,[some 0],3,[.tmp 2],zbw,none⟩
theorem ajt:fI 182 f182:=aQ [0,1,2]
def f187:aW:=⟨true,[some 0],2,[.tmp 1],o8 zef (o8 (p8 (D9 (E9 230 [dK]) Wi)) G7),none⟩
theorem aju:fI 187 f187:=isP [0,2]
def f227:aW:=⟨false,[some 0,some 1],3,[.tmp 2],o8 zbk (o8 (p8 (D9 (E9 292 [dK,ig]) zbN)) G7),none⟩
theorem ajv:fI 227 f227:=aQ [0,1,4]
def nJ:SC:=o8 (p8 (EA (BR ig) sP zfH)) (o8 zeY (H8 1 (o8 (p8 (p9 (pExt zag 1) (p9 (pExt zag 2) (K5 ES MS zdd)))) (o8 (p8 (D9 (BQ uX [qm]) (K5 (pEq sV G8 zap) Es u7))) (C9 zC (o8 (p8 (K5 (Q5 Jm) ER u7)) G7) F9)))))
def f228:aW:=⟨false,[some 0,some 4,some 6],10,[.tmp 9],o8 zbm (o8 (o8 (p8 (EA (xA dK) xQ u7)) (H8 0 (ak nJ))) (o8 (p8 (K5 zaZ ER u7)) G7)),none⟩
theorem ajw:fI 228 f228:=aQ [0,10,12,11,1,8,2,19,7,6]
def qZ:SC:=o8 zaW (o8 za5 (o8 (H8 1 (o8 zcX (o8 (p8 (p9 (aU 1 dK qm) (I5 bP (K5 (O8 iO iP uX G8) Jl u7)))) zbp))) zaC))
def f292:aW:=⟨false,[some 0,some 4],8,[.tmp 7],o8 zaG (o8 (o8 zbD (H8 0 (ak qZ))) zbH),none⟩
theorem ajx:fI 292 f292:=aQ [0,8,7,9,1,5,16,4]
end
end Go.Proofs.YteecnooaopfkeaaGreatDoor.TT

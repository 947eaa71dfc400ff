/- The tables: each function of the program is the code that stands here; no condition. -/
import Derived.Test.YteecnooaopfkeaaGreatDoorPB0
import Derived.KernelRfl
import Derived.Test.YteecnooaopfkeaaGreatDoorProg
set_option linter.all false
namespace Go.Proofs.YteecnooaopfkeaaGreatDoor.TT
open Go Go.AM
set_option maxRecDepth 100000
noncomputable section
def f33:aW:=⟨false,[some 0],5,[.tmp 4],o8 zbs (o8 (o8 (p8 (D9 (E9 15 [dK]) (p9 Hg (p9 Kr zfP)))) (o8 (p8 (K5 (O8 KV NM ig BK) zD u7)) (C9 qd (o8 (p8 (K5 zbW zN u7)) G7) F9))) (o8 (o8 (p8 (EA (E9 68 [dK,G6 (.func (.func 69) [] [])]) sP u7)) (C9 zag (o8 (p8 (K5 zbE zN u7)) G7) F9)) (o8 zbs G7))),none⟩
theorem aoV:fI 33 f33:=aQ [0,3,11,13,2]
def uM:SC:=o8 zdp (o8 zga (o8 (H8 1 (o8 (p8 (p9 (aU 5 qm qd) zcB)) (o8 (p8 (p9 zd3 (rcR bP Es u7))) (H8 2 (o8 (p8 (p9 (O8 iO iP zC zB) zbt)) (C9 Jm (iC 0 (Y0 zbF I6 (uZ bP 0 I6 (EC zdA (gB Ub false I6 (gB zeg false I6 (gB zcl false I6 (Lf bP 1 false I6 (gB zdv false I6 (gB zcq false I6 (rA I6 (rA I6 (QT I6 lH))))))))) I6 (Y0 Ub I6 (Y0 zeg I6 (Y0 zcl I6 (uZ bP 1 I6 (Y0 zdv I6 (Y0 zcq I6 (Y0 (O8 cO Q0 G8 Zb) I6 zcI))))))))))) (o8 (p8 (p9 (O8 iO iP zC YS) (K5 wQ zcT u7))) (C9 zbv (iC 0 (Y0 zbF I6 (uZ bP 0 I6 (EC zdA (gB Ub false I6 (gB zcl false I6 (Lf bP 1 false I6 (gB zdv false I6 (gB zcq false I6 (rA I6 (rA I6 (QT I6 lH)))))))) I6 (Y0 Ub I6 (Y0 zcl I6 (uZ bP 1 I6 (Y0 zdv I6 (Y0 zcq I6 (Y0 (O8 cO Q0 G8 Qe) I6 zcI)))))))))) (o8 (p8 (p9 (O8 iO iP zC zbo) zbK)) (C9 zbf (p8 (p9 (O8 cO Q0 MQ (G6 (o7.str [112,114,105,110,116,32]))) (p9 zbF (I5 bP (D9 zdA (p9 zeW zcW)))))) (o8 (p8 (p9 (O8 iO iP zC za1) zbL)) (C9 zbS (p8 (p9 zbF (I5 bP (D9 zdA (p9 (O8 cO Q0 MQ G8) zcW))))) (o8 (p8 (p9 (O8 iO iP zC zbn) (K5 wQ Wl u7))) (C9 zbT (iC 0 (Y0 zbF I6 (uZ bP 0 I6 (EC zdA (gB zcm false I6 (Lf bP 1 false I6 (gB EP false I6 (gB Kq false I6 (QT I6 (gB Ub false I6 (gB zcF false I6 (rA I6 (rA I6 (rA I6 (gB Ub false I6 (rA I6 (rA I6 (QT I6 lH)))))))))))))) I6 (Y0 zcm I6 (uZ bP 1 I6 (Y0 EP I6 (Y0 Kq I6 (EC (E9 34 [dV,G8]) (gB Ub false I6 (gB zcF false I6 (gB zdB false I6 (gB zcn false I6 (rA I6 (gB Ub false I6 (rA I6 (rA I6 (QT I6 lH))))))))) I6 (Y0 Ub I6 (Y0 zcF I6 (Y0 zdB I6 (Y0 zcn I6 (Y0 (O8 cO Q0 G8 Et) I6 (Y0 Ub I6 (Y0 (O8 cO Q0 dx G8) I6 (Y0 (O8 cO Q0 G8 (G6 (o7.str [125,10]))) I6 zbP))))))))))))))))) (o8 (p8 (p9 (O8 iO iP zC Wj) zeK)) (C9 zbI (o8 (iC 0 (Y0 zbF I6 (uZ bP 0 I6 (EC zdA (gB zcm false I6 (Lf bP 1 false I6 (gB EP false I6 (gB Kq false I6 (QT I6 (gB Ub false I6 (gB zde false I6 (rA I6 (rA I6 (rA I6 (QT I6 lH))))))))))) I6 (Y0 zcm I6 (uZ bP 1 I6 (Y0 EP I6 (Y0 Kq I6 (EC (E9 34 [dV,G8]) (gB Ub false I6 (gB zde false I6 (gB zdB false I6 (gB zcn false I6 (rA I6 (QT I6 lH)))))) I6 (Y0 Ub I6 (Y0 zde I6 (Y0 zdB I6 (Y0 zcn I6 (Y0 (O8 cO Q0 G8 Et) I6 zbP)))))))))))))) (o8 (o8 (p8 (p9 zd5 (I5 bP (p9 Iz (K5 zaY zcO u7))))) (C9 zec (p8 (p9 (O8 cO Q0 MQ (G6 (o7.str [125,32,101,108,115,101,32,123,10]))) (p9 zd5 (I5 bP (p9 zbM (D9 (E9 34 [dx,G8]) (p9 (O8 cO Q0 Et G8) zb7))))))) F9)) (p8 (p9 (O8 cO Q0 MQ (G6 (o7.str [125,10]))) zb7)))) F9)))))))))))))))) zcM))
def f34:aW:=⟨false,[some 1,some 0],18,[.tmp 17],o8 (p8 (K5 zbz zcy u7)) (o8 (p8 (oK (zU 123 [o7.nilPtr,Z]) YW u7)) (o8 (p8 (D9 (E9 71 [G6 (o7.str [32,32]),dK]) zcQ)) (o8 (o8 zch (H8 0 (ak uM))) (o8 (p8 (D9 (E9 74 [WZ]) zcC)) G7)))),none⟩
theorem aoW:fI 34 f34:=aQ [1,0,13,12,14,11,8,18,19,6,5,33,46,56,65,84,103,4]
def Ho:SC:=o8 (p8 (K5 (O8 KV NM MQ YS) YW u7)) (o8 (C9 WZ F9 (oM 2)) (o8 (H8 3 (o8 (p8 (p9 (Fu 1 2 zbv MQ) zbK)) (o8 (p8 (p9 zcg (D9 (E9 35 [zbf,G8]) (oK zaK Wl zck)))) (p8 (I5 zdN (p9 (N9 0 zbT) (I5 bP (p9 (N9 1 zbT) (I5 bP (p9 Kq (p9 zdl (kZ zbh (D9 (E9 75 [Ue,G8]) (D9 (L8 2 zbS G8) u7)))))))))))))) (p8 (p9 (O8 cO Q0 MQ zB) zcQ))))
def Hq:SC:=o8 zaW (o8 za5 (o8 (H8 1 (o8 (p8 (p9 (aU 5 uX ig) (I5 zgl (oK zaN MS zf2)))) (o8 (o8 zc2 (C9 zap (o8 (p8 (p9 zb8 zek)) G7) F9)) (o8 (p8 (p9 zb9 (p9 (N9 2 Jm) (I5 bP (p9 zcg (D9 (E9 76 [dx,G8]) (D9 (E9 75 [Et,G8]) (oK zaK Xc zck)))))))) (o8 (o8 (p8 (p9 (N9 3 Jm) (I5 bP (p9 (N9 4 Jm) (I5 bP (K5 (bG [Z,Z] [(0,1,dV),(1,1,G8)]) zcT zbb)))))) (H8 2 (ak Ho))) (p8 (I5 ze5 (I5 zdN (kZ zbh (D9 (E9 75 [dV,G8]) (D9 (L8 2 zbI G8) u7))))))))))) zaC))
def f35:aW:=⟨false,[some 0,some 5],16,[.cell 7 (some 2)],o8 (p8 (oK zaK Es u7)) (o8 (p8 (oK zaK zcb u7)) (o8 (o8 zbe (H8 0 (ak Hq))) (o8 (p8 (I5 ze5 zek)) G7))),none⟩
theorem aoX:fI 35 f35:=aQ [0,14,13,15,12,1,19,4,7,33,34,32,10,8,11,5]
def f45:aW:=⟨false,[some 0],2,[.tmp 1],o8 za9 (o8 (p8 (p9 (O8 WU sGe dK (G6 (o7.int .u8 (Int.ofNat 97)))) (p9 Xa (p9 (gP dx true (O8 QX UK G8 (G6 (o7.int .u8 (Int.ofNat 122))))) zdV)))) G7),none⟩
theorem aoY:fI 45 f45:=aQ [0,2]
def f46:aW:=⟨false,[some 0],2,[.tmp 1],o8 za9 (o8 (p8 (D9 (E9 45 [dK]) (p9 zbU (D9 (gE dx false (E9 47 [G8])) (p9 zcS Wi))))) G7),none⟩
theorem aoZ:fI 46 f46:=aQ [0,2]
def f47:aW:=⟨false,[some 0],2,[.tmp 1],o8 za9 (o8 (p8 (p9 (O8 WU sGe dK zfx) (p9 Xa (p9 (gP dx true (O8 QX UK G8 (G6 (o7.int .u8 (Int.ofNat 57))))) zdV)))) G7),none⟩
theorem ap0:fI 47 f47:=aQ [0,2]
def f48:aW:=⟨true,[some 0],6,[.tmp 4,.tmp 5],o8 (p8 (K5 NP zN zep)) (o8 (p8 (D9 (E9 91 [dK]) (p9 Hg (p9 Kr (K5 ES sP zfP))))) (o8 (o8 (p8 (K5 (pNe iF ig zda) zD u7)) (C9 qd (o8 (p8 (D9 (E9 92 [G6 (o7.str [65,116,111,105]),dK,BK,BK,ig]) (K5 Sw zN zdd))) G7) F9)) (o8 (p8 (K5 Sw zN zep)) G7))),none⟩
theorem ap1:fI 48 f48:=isP [0,5,12,4,2,3]
def f49:aW:=⟨false,[some 0,some 1],3,[.tmp 2],o8 zbk (o8 (p8 (D9 (E9 93 [dK,ig]) NQ)) G7),none⟩
theorem ap2:fI 49 f49:=aQ [0,1,4]
def f55:aW:=⟨false,[some 0,some 1],4,[.tmp 3],o8 zew (o8 (o8 (p8 (D9 (E9 95 [dK,ig]) zfQ)) (C9 qd (o8 zew G7) F9)) (o8 zaQ (o8 (p8 (K5 zfb sP u7)) G7))),none⟩
theorem ap3:fI 55 f55:=aQ [0,1,8,4]
def Bj:SC:=H8 2 (o8 (p8 (D9 (E9 97 [zag,dK]) zbt)) (o8 (o8 (p8 (K5 (O8 iO iP Jm BK) ER u7)) (C9 MQ zcN F9)) (o8 (p8 (p9 zbM (D9 zfC (oK zaH zcT zco)))) (o8 (p8 (I5 (bX 4 WZ) (I5 (bX 4 zbv) (kZ (P7 4 2 zaf [(0,4,dx),(4,4,G8)]) (p9 (bG zaf [(0,1,Jm),(3,1,G8)]) (D9 (L8 4 WZ G8) u7)))))) (o8 (p8 (K5 zdX (sR zF) u7)) (C9 zbf zcN F9))))))
def f56:aW:=⟨false,[some 3,some 0],13,[.cell 5 (some 4)],o8 (p8 (oK zaH zF u7)) (o8 (o8 zeL (H8 0 (o8 (p8 (p9 (O8 iO iP ig YS) NQ)) (C9 qd (o8 (o8 (p8 (EA (E9 55 [zag,zfL]) zN u7)) (C9 uX (o8 (p8 (D9 (E9 56 [zag,YS]) (kZ zaw (p9 (bG zaf [(0,1,zbo),(3,1,G8)]) zbr)))) G7) F9)) (o8 (p8 (D9 (E9 56 [zag,Wj]) zbr)) G7)) (o8 (p8 (p9 zdT zbG)) (C9 zap (o8 (o8 (p8 (EA (E9 55 [zag,zfd]) Es u7)) (C9 zC (o8 (p8 (D9 (E9 56 [zag,za1]) (kZ zaw (p9 (bG zaf [(0,1,zbn),(3,1,G8)]) zbr)))) G7) F9)) (o8 (p8 (D9 (E9 96 [zag]) zbr)) G7)) F9)))))) (o8 (p8 (p9 zbM (D9 zfC (oK zaH YW zco)))) (H8 1 (ak Bj)))),none⟩
theorem ap4:fI 56 f56:=aQ [1,8,9,0,12,4,19,22,6,37,5,7,49]
def DY:SC:=o8 (o8 (p8 (D9 (E9 55 [dK,G6 (o7.str [125])]) zfR)) zdw) (H8 1 (p8 (p9 YX (D9 (E9 29 [dK]) (kZ (P7 5 1 zar [(0,5,G8)]) (D9 (rG 5 96 dV G8) NQ))))))
def f57:aW:=⟨false,[some 0],4,[.tmp 3],o8 zez (o8 (p8 (D9 (E9 59 [dK,G6 (o7.str [123])]) u7)) (o8 (p8 (K5 zc5 zD u7)) (o8 (H8 0 (ak DY)) zcu))),none⟩
theorem ap5:fI 57 f57:=aQ [0,8,3,2]
def f58:aW:=⟨false,[some 0],7,[.cell 2 (some 5)],o8 (p8 (oK zaN zD u7)) (o8 (o8 (p8 (EA (E9 55 [dK,zfj]) xQ u7)) (C9 ig (o8 (p8 (D9 (E9 98 [dK]) (p9 (bG zar [(0,1,zbo),(2,1,G8)]) zds))) G7) F9)) (o8 zdC (o8 (o8 (p8 (EA (E9 55 [dK,zfM]) sP u7)) (C9 zag zdD (o8 (p8 (p9 YU (p9 Sv (I5 bP (p9 Iz (p9 zeh (p9 Xa (p9 zc3 (p9 zdb (I5 zbV (p9 (gP Et true (aU 2 G8 zB)) (I5 zfD (p9 (gP Zb true (bG [zM,QU] [(0,1,Wj),(1,1,zdh)])) (p9 (gP Ue true (pEq (sW [.i,.s]) dx G8)) (p9 zcs (p9 Xa (D9 (gE dx true (E9 99 [G8])) (K5 zcz zN u7)))))))))))))))))) (C9 uX (o8 (p8 (D9 (E9 96 [dK]) (kZ zaw (p9 (bG zar [(0,1,za1),(2,1,G8)]) zds)))) G7) F9)))) (o8 (p8 (D9 (E9 100 [dK]) (p9 (bG zar [(0,1,qm),(1,1,G8)]) za4))) (o8 (p8 (D9 (E9 59 [dK,G6 (o7.str [61])]) u7)) (o8 (p8 (D9 zbd (kZ zaw (p9 zbF zcP)))) (o8 (p8 (I5 zfK zds)) G7))))))),none⟩
theorem ap6:fI 58 f58:=aQ [0,6,2,11,31,3,4]
def f59:aW:=⟨false,[some 0,some 1],3,[],o8 (p8 (D9 (E9 55 [dK,ig]) zfQ)) (C9 qd zdz F9),none⟩
theorem ap7:fI 59 f59:=aQ [0,1,7]
def f66:aW:=⟨false,[some 0,some 1],5,[.tmp 4],o8 (p8 (oK zge zD (oK (UL ig) sP ze6))) (o8 (p8 (p9 (N9 0 qd) (I5 bP (p9 zdn (I5 bP (p9 zee (p9 (gP G8 true (N9 1 qd)) (I5 Uc (p9 (gP dV true zd2) (I5 zbV (p9 zfe (p9 zbX (p9 (gP G8 true (N9 2 qd)) (I5 Uc (p9 (gP dV true zfJ) (I5 zbV (p9 zfe (p9 zbX (p9 (gP G8 true (N9 3 qd)) (I5 Uc (p9 (gP dV true (N9 3 zag)) (I5 zbV (D9 (gE Et true (E9 31 [dV,G8])) (p9 zbX zbY)))))))))))))))))))))))) G7),none⟩
theorem ap8:fI 66 f66:=aQ [0,1,2,3,4]
def KC:SC:=o8 (o8 (p8 (p9 zd4 (I5 bP (p9 Iz (p9 (O8 KV NM uX G8) (p9 (gP G8 true zcG) (p9 (gP dx true Sw) (p9 zdS (K5 Ud Es u7))))))))) (C9 zC F9 zgr)) (o8 (H8 1 (p8 (p9 zcG (p9 zd4 (I5 bP (p9 (aU 4 G8 uX) (I5 Wm (p9 zcG (p9 (O8 KU vC zag G8) (p9 (O8 cO Q0 ig zB) (D9 (E9 67 [vo,dx,G8]) (p9 (O8 cO Q0 zgj G8) zbG)))))))))))) (p8 (p9 zby (p9 Kq zbY))))
def f67:aW:=⟨false,[some 0,some 3,some 1],9,[.tmp 8],o8 (p8 (oK zge zF zci)) (o8 (p8 (K5 zbE Jl u7)) (o8 (o8 (p8 (K5 (O8 NJ NV ig zfo) zD u7)) (C9 qd (o8 (p8 (p9 (O8 cO Q0 zag zB) zbt)) G7) F9)) (o8 (o8 zbs (H8 0 (ak KC))) (o8 (p8 (K5 zcG MS u7)) G7)))),none⟩
theorem ap9:fI 67 f67:=aQ [0,2,10,1,8,3,7,22,6]
def f68:aW:=⟨false,[some 0,some 1],3,[.tmp 2],o8 zbk (o8 (p8 (D9 (E9 103 [dK,ig]) zbN)) G7),none⟩
theorem apa:fI 68 f68:=aQ [0,1,4]
def f69:aW:=⟨false,[some 0],3,[.tmp 2],zbx,none⟩
theorem apb:fI 69 f69:=aQ [0,1,2]
def f70:aW:=⟨false,[some 0],11,[.tmp 10],o8 (p8 (oK zge xQ zgf)) (o8 (o8 (p8 (p9 Qd (I5 bP (p9 (O8 KV NM G8 zB) (p9 zcK (I5 Za (p9 (gP dV false (O8 NJ NV G8 za1)) zdm))))))) (C9 qd zaU F9)) (o8 (o8 (p8 (p9 zb0 (I5 bP (p9 Iz zf8)))) (o8 (p8 (p9 (O8 iO iP zag BK) (p9 (gP G8 false Sw) (p9 (gP dx false zeh) (p9 zdk (p9 zcR (I5 Uc (p9 (gP dV true (O8 NI NK G8 zbo)) (p9 (gP Zb false Ud) (K5 zgp zN u7)))))))))) (C9 uX zaU F9))) (o8 (o8 (p8 (p9 Qd (I5 bP (p9 zb2 (p9 zcK (I5 Za (p9 (gP dV false zb3) zdP))))))) (o8 (p8 (p9 (gP qm true zbZ) (I5 zeR (D9 zeA (p9 ze7 (p9 zeX (p9 zdt (p9 (gP dx false MU) (p9 zdk (p9 zdE zbB)))))))))) zcY)) (o8 (o8 (p8 (p9 YZ (I5 bP (p9 Iz (p9 zaY (p9 zcR (I5 Uc (p9 zdQ (p9 Ud (p9 zcR (I5 Uc (p9 (gP dV true (O8 NI NK G8 zbn)) (p9 Ud (p9 (gP G8 false (N9 4 ig)) (I5 Za (p9 (gP dV false Iz) (p9 (gP vo false zaY) (p9 zfS (p9 zcR (I5 Uc (p9 zdQ (p9 (gP zgj false Ud) (K5 zfT Es u7))))))))))))))))))))))) (C9 zC zaU F9)) (o8 (o8 (p8 (p9 Qd (I5 bP (p9 (O8 iO iP G8 za1) (p9 zff (I5 Uc (p9 (gP dV true zce) (p9 (gP vo true Sv) (I5 (QZ Et true bP) (p9 (gP Qe true zc4) (K5 zfU MS u7))))))))))) (C9 Jm zaU F9)) (o8 (p8 (K5 (Q5 (G6 (.func (.func 105) [] []))) ER u7)) (o8 (p8 (p9 zb0 (I5 bP (D9 (E9 106 [G8,G6 (.func (.func 107) [] [])]) (p9 MU (p9 zfg (I5 Uc (p9 zeJ (D9 zfE (p9 (gP Et true MU) (p9 zbX (p9 (gP G8 true (N9 4 ig)) (I5 Uc (p9 zeJ (D9 zfE (p9 (gP Et true MU) (p9 zbX zca))))))))))))))))) G7))))))),none⟩
theorem apc:fI 70 f70:=aQ [0,1,13,3,27,4,51,76,87,5,2]
def f72:aW:=⟨false,[some 0,some 1],4,[.tmp 2,.tmp 3],o8 (p8 (K5 NP zD zeq)) (o8 (p8 (D9 (E9 112 [dK]) u7)) (o8 (p8 (p9 YU (p9 zdg (I5 bP (D9 (yu 5 G8 ig) (p9 YU (p9 zdg zgs))))))) (o8 (p8 (p9 zeV (K5 wQ zD zeq))) G7))),none⟩
theorem apd:fI 72 f72:=aQ [0,1,4,5]
def Qf:SC:=o8 zaW (o8 za5 (o8 (H8 1 (o8 (p8 (p9 zeD (I5 Wm (oK zaH Jl zco)))) (p8 (p9 MR (I5 (bX 4 zap) (D9 zer (kZ (P7 1 1 [QU] [(0,1,G8)]) (D9 (rG 1 16 vo G8) Sr)))))))) zaC))
def f73:aW:=⟨false,[some 0],8,[.tmp 7],o8 (p8 (K5 zbz Es u7)) (o8 (p8 (K5 zc5 zF u7)) (o8 (o8 zbe (H8 0 (ak Qf))) (o8 (p8 (D9 (E9 114 [qm,G6 (o7.str [44,32])]) YV)) G7))),none⟩
theorem ape:fI 73 f73:=aQ [0,8,7,9,6,3,5,2]
def f74:aW:=⟨false,[some 0],2,[.tmp 1],o8 zef (o8 (iC 0 (Y0 EP I6 (Y0 (bV G8) I6 (Y0 zdg I6 (uZ bP 0 I6 (uZ (Ez G8) 0 I6 (Y0 EP I6 (Y0 (bV G8) I6 (Y0 zdg I6 (uZ bP 0 I6 (Y0 Iz I6 (EC (Tk 5 Qe G8) UM I6 (Y0 wQ xQ rH))))))))))))) G7),none⟩
theorem apf:fI 74 f74:=aQ [0,2]
def Qg:SC:=o8 zdp (o8 zga (o8 (H8 1 (o8 (p8 (p9 (aU 2 qm qd) (I5 zeN (oK zaK Es zck)))) (p8 (p9 zd3 (I5 bP (p9 (N9 0 zC) (I5 bP (p9 zdv (p9 zcl (I5 bP (p9 (N9 1 zC) (I5 bP (p9 (pMm true dV [G8]) (p9 (bG [zM,zM] [(0,1,Qe),(1,1,G8)]) (D9 (L8 2 zap G8) u7))))))))))))))) zcM))
def f75:aW:=⟨false,[some 0,some 1],9,[.cell 8 (some 2)],o8 (p8 (oK zge Jl (oK zaK MS u7))) (o8 (o8 zch (H8 0 (ak Qg))) (o8 (p8 (I5 (bX 2 zap) (D9 (L8 2 Jm G8) u7))) G7)),none⟩
theorem apg:fI 75 f75:=aQ [0,1,9,8,10,7,2,6,4]
def Hr:SC:=o8 zaW (o8 za5 (o8 (H8 1 (o8 (p8 (p9 zeD (I5 Wm (oK zaH MS zco)))) (o8 (o8 zc2 (C9 zap (o8 (p8 (p9 zb8 (kZ zbh (D9 (rG 2 16 zC G8) zca)))) G7) F9)) (o8 (p8 (I5 (bX 4 Jm) (p9 zcg (D9 (E9 115 [dx,G8]) (oK zaK ER zck))))) (p8 (p9 za8 (p9 (N9 0 MQ) (I5 bP (p9 (N9 1 MQ) (I5 bP (p9 Kq (p9 zdl (kZ zbh (D9 (rG 2 16 Ue G8) YV)))))))))))))) zaC))
def f76:aW:=⟨false,[some 0,some 5],11,[.tmp 10],o8 (p8 (K5 zc5 YW u7)) (o8 (p8 (K5 zc5 Es u7)) (o8 (o8 zbe (H8 0 (ak Hr))) (o8 (p8 (K5 za8 YW u7)) G7))),none⟩
theorem aph:fI 76 f76:=aQ [0,11,10,12,9,1,16,5,7,8,4]
def aj9:SC:=o8 (p8 (D9 (Di ig) zfH)) (o8 zeY (H8 1 (o8 (p8 (I5 (tq ig) (p9 Hg (p9 Kr (oK (jv [zM,o7.nilFunc]) zF (K5 zeF zN (D9 (L8 2 dx dV) u7))))))) (p8 (I5 (bX 2 qm) (D9 (T9 eqStr 1 zag uX G8) u7))))))
def f83:aW:=⟨false,[some 3,some 0],6,[],o8 (p8 (EA (oJ dK) xQ u7)) (H8 0 (ak aj9)),none⟩
theorem apj:fI 83 f83:=aQ [1,7,9,0,4,5]
def f93:aW:=⟨false,[some 0,some 1],3,[.tmp 2],o8 zbk (o8 (p8 (p9 zeE (p9 zeV (p9 (O8 WU sGe dx G8) (p9 Xa (p9 zfw (p9 (gP dV true zdY) (p9 (gP vo true (qO dV none (some G8))) (p9 (gP Et true zbJ) (p9 (gP Qe true (O8 iO iP dx G8)) (p9 zfU NQ))))))))))) G7),none⟩
theorem apk:fI 93 f93:=aQ [0,1,4]
def f95:aW:=⟨false,[some 2,some 0],5,[.tmp 4],o8 (p8 ze6) (o8 (p8 (K5 zeU sP u7)) (o8 (o8 (p8 (p9 zcV (EA zfc xQ u7))) (C9 ig (p8 (K5 zbE sP u7)) F9)) (o8 (p8 (p9 (bV qd) (p9 Sv (I5 bP (p9 Iz (p9 zaY (p9 zdL (p9 zc3 (p9 zdb (I5 zbV (p9 zbC (I5 zfD (p9 (gP Zb true Sw) (p9 (gP Ue true EP) (p9 (gP zgj true (bG [zM,QU] [(0,1,dx),(1,1,G8)])) (p9 (gP (dM 9) true (pEq (sW [.i,.s]) vo G8)) (p9 (gy (dM 10) G8 YT) zbY))))))))))))))))) G7))),none⟩
theorem apl:fI 95 f95:=aQ [1,8,0,5,4]
end
end Go.Proofs.YteecnooaopfkeaaGreatDoor.TT

/- The tables: each function of the program is the code that stands here; no condition. -/
import Derived.Test.YtfddpcckppibjaaGreatDoorPB0
import Derived.KernelRfl
import Derived.Test.YtfddpcckppibjaaGreatDoorProg
set_option linter.all false
namespace Go.Proofs.YtfddpcckppibjaaGreatDoor.TT
open Go Go.AM
set_option maxRecDepth 100000
noncomputable section
def f45:R5:=⟨false,[some 0],5,[.tmp 4],j4 zbC (j4 (j4 (j5 (D8 (G7 79 [dX]) zeC)) zbX) (j4 (j4 (j5 (Pt (G7 80 [dX,E9 (.func (.func 81) [] [])]) qK o9)) zc6) (j4 zbC A8))),none⟩
theorem apX:X9 45 f45:=Q0 [0,3,11,13,2]
def adj:SC:=j4 (j5 (I6 zf5 rP o9)) (j4 zhj (j4 (F9 1 (j4 (j5 (j6 (U5 1 zag dX) zdy)) (j5 (D8 (G7 86 [mZ,mJ]) o9)))) (j5 (j6 ze6 zh9))))
def f46:R5:=⟨false,[],7,[.tmp 6],j4 (j5 (I6 zhU zV o9)) (j4 (j5 (jT fE Zl)) (j4 (j4 (j5 (D8 (G7 83 []) (D8 (G7 84 []) (D8 (G7 85 []) (jg (O9 1 3 [d9.nilMap] [(0,1,bZ),(1,1,bY),(2,1,H7)]) qK (I6 Dj zig (I6 vK sH o9))))))) (F9 0 (O7 adj))) (j4 (j5 (I6 QG zV o9)) A8))),none⟩
theorem apY:X9 46 f46:=Q0 [10,9,11,8,1,3,0]
def tO:SC:=j4 (j5 (I6 (O5 BJ CQ Zv Gz) zd0 o9)) (j4 (w9 zbU D7 (rY 2)) (j4 (F9 3 (j4 (j5 (j6 (Ao 1 2 zct Zv) zfP)) (j4 (j5 (D8 (G7 48 [wB]) (D8 (G7 47 [mJ,H7,zef]) (I6 rG Zn o9)))) (j4 (j5 (I6 (O5 CK CP zeh oh) (sR Bt) o9)) (w9 zgT (j4 (j5 (I6 (N8 zeh) zdr o9)) A8) D7))))) (j5 (j6 (O5 qM rU Zv um) zf6))))
def iO:SC:=j4 Zo (j4 UM (j4 (F9 1 (j4 (j5 (j6 zd9 (C9 zhx (jg zbv Dh zcp)))) (j4 (j4 (j5 (j6 (K7 2 wL) (C9 Q5 (D8 (G7 87 [mJ,wB,H7]) zbZ)))) (j4 zdl (w9 Pk (j4 (j5 (I6 zdg zdr o9)) A8) D7))) (j4 (j4 (j5 (j6 zeM (C9 Q5 (j6 za5 (j6 zcA (j6 (gP bY true zdS) (C9 zev (D8 (gE qB true (G7 88 [bZ,H7])) (j6 (gP GD true zgB) (I6 Zq Ph o9)))))))))) (w9 UO (j4 (j5 (I6 zbg zdr o9)) A8) D7)) (j4 (j4 (j5 (j6 zeM zdD)) (w9 VE (j4 (j4 (j5 (j6 zdS (C9 Q5 (D8 (G7 88 [wB,H7]) (I6 (pNe jS H7 zdP) Zr o9))))) (w9 Zt (j4 (j5 (I6 zeg zdr o9)) A8) D7)) (fF 0 (bN zbL J6 (bN zgi J6 (bN zer J6 (nU Q5 0 J6 (bN zdS J6 (nU Q5 0 J6 (yT (I5 eqStr 1 bZ H7 oh) Pw J6 oF))))))))) D7)) (j4 (j5 (j6 zeN (C9 Q5 (j6 (K7 4 wL) (C9 Q5 (I6 zgp Mc (I6 vK zdu o9))))))) (F9 2 (O7 tO)))))))) Zk))
def f47:R5:=⟨false,[some 5,some 6,some 0],20,[.tmp 19],j4 zed (j4 (j4 zaM (F9 0 (O7 iO))) (j4 zed A8)),none⟩
theorem apZ:X9 47 f47:=Q0 [2,15,14,16,13,0,1,8,9,25,36,39,44,56,57,55,11,12,65,6]
def f48:R5:=⟨false,[some 0],2,[.tmp 1],j4 (j5 (I6 (N8 zdP) zig o9)) (j4 (j5 (jT fE (j6 (V4 [d9.nilPtr,d9.nilMap] [(0,1,dX),(1,1,H7)]) (jT (Mx H7) QE)))) A8),none⟩
theorem aq0:X9 48 f48:=Q0 [0,2]
def Ov:SC:=j4 Zo (j4 UM (j4 (F9 1 (j4 (j5 (j6 zea (C9 Dk (jg zaR zV zhw)))) (j5 (j6 Pj (C9 (bG 4 wB) (D8 (G7 103 [H7]) (jT zbi (D8 (mO 4 56 qB H7) Oq)))))))) Zk))
def f55:R5:=⟨false,[some 0],8,[.tmp 7],j4 zdQ (j4 zfH (j4 (j4 zaM (F9 0 (O7 Ov))) zhY)),none⟩
theorem aq1:X9 55 f55:=Q0 [0,8,7,9,6,3,5,2]
def Ju:SC:=j4 (j4 (j5 (j6 (Ap bK) (j6 (O5 BJ CQ dX H7) (j6 (gP H7 true zb8) (C9 zU (j6 zcR (I6 QD qK o9))))))) UM) (j4 (F9 1 (j4 (j5 (j6 zdH (C9 zhx (D8 (G7 104 [H7,mZ]) (jg zap wM XE))))) (j5 (j6 zb8 (C9 Q5 (j6 zgK (C9 Q5 (j6 zdV (j6 zeD (C9 Q5 (j6 zgL (C9 Q5 (j6 zfE (j6 zd8 zfY)))))))))))))) zaC)
def f56:R5:=⟨false,[some 1,some 4],7,[.cell 6 (some 2)],j4 (j5 (jg zap zV o9)) (j4 (j5 (j6 (V4 [pF,pF] []) zdp)) (j4 (j4 zbb (F9 0 (O7 Ju))) (j4 (j5 (C9 (bG 2 mK) zd4)) A8))),none⟩
theorem aq2:X9 56 f56:=Q0 [6,0,5,17,1,7,4]
def jK:SC:=j4 (j4 (j5 (j6 Sk zds)) zfD) (j4 (F9 1 (j4 (j5 (j6 Sk zcw)) zdt)) zbz)
def f57:R5:=⟨false,[some 0],11,[.tmp 10],j4 zco (j4 (j5 (j6 Di (C9 Q5 (j6 zhl (j6 XD (C9 FU (j6 zcX (j6 XC Br)))))))) (j4 (j4 (j5 (j6 Di (C9 Q5 (j6 zfv (j6 XD (C9 FU (j6 zeG (j6 XC (j6 zhS (j6 (gP bY false rG) (j6 zht (C9 zU (D8 (gE bZ true (G7 74 [H7])) (j6 (gP qB true Jl) (j6 (gP UN false zcV) (j6 zif (j6 zhS (j6 zhT (j6 zhI (j6 zht (C9 zU (j6 zim (j6 zin (I6 zif qK o9)))))))))))))))))))))))) zdz) (j4 (j4 (j5 (j6 Sk (C9 Q5 (j6 Dj (j6 zbf (j6 (gP H7 false Sk) (C9 FU (j6 (gP bZ false Dj) (j6 (gP qB false zfw) (j6 zfr (j6 zb2 (C9 zU (j6 zeO (j6 zfU (I6 zhN rF o9))))))))))))))) zb5) (j4 (j4 (j5 (j6 Di (C9 Q5 (j6 zbx (j6 zen (C9 zU (j6 zhW (j6 zeP (j6 zcV (j6 XD (C9 FU (j6 (gP bZ false zbx) (j6 zhJ (j6 zb2 (C9 zU (j6 zeQ (j6 zhV (j6 (gP VB false rG) (j6 zhG (C9 zU (j6 zhW (j6 zeP (j6 (gP (bg 13) false zcV) (I6 (eG (bg 14) zip H7) wM o9)))))))))))))))))))))))) (w9 mJ zaB D7)) (j4 (j4 (j5 (j6 Di (C9 Q5 (j6 zfx (j6 zhP (C9 zU (j6 zbP (j6 zeo (C9 zdh (j6 zew (I6 zdv zV o9))))))))))) zb6) (j4 (j4 zaQ (F9 0 (O7 jK))) (j4 (j5 (j6 DI (C9 Q5 (D8 (G7 24 [H7]) (j6 zen (C9 zU (D8 (gE bZ true (G7 24 [H7])) (j6 QD zb1)))))))) A8))))))),none⟩
theorem aq3:X9 57 f57:=Q0 [0,1,3,38,53,78,89,4,94,103,2]
def qw:SC:=j4 (j4 (j5 (j6 DI (C9 Q5 (j6 Dj (I6 (O5 BJ CQ FV H7) GA o9))))) (w9 Pk D7 zil)) (j4 (F9 1 (j4 (j5 (j6 DI (C9 Q5 (j6 (U5 4 H7 FV) (C9 Dk (D8 (G7 58 [H7,mK]) zb1)))))) (j4 zdm (w9 VE (j4 (j5 (I6 (N8 UO) Zr o9)) A8) D7)))) (j5 (j6 zdg (j6 Ld zbZ))))
def f58:R5:=⟨false,[some 0,some 2],13,[.tmp 12],j4 zdn (j4 (j4 (j5 (j6 Di (C9 Q5 (j6 za5 (j6 zgq (j6 (gP bY true Sk) (C9 zev (D8 ze4 (j6 zdC (I6 Zq qK o9)))))))))) (w9 zag zbF D7)) (j4 (j4 (j5 (j6 Di (C9 Q5 (I6 (O5 gU gV H7 Zm) rF o9)))) (w9 mZ (j4 (j5 (j6 Sk (C9 Q5 (D8 (G7 105 [H7]) Oq)))) (j4 (j4 (j5 (I6 (O5 BJ CQ mJ oh) zV o9)) (w9 wB zbF D7)) (j4 (j5 (j6 DI (C9 Q5 (j6 Dj (I6 (O5 CK CP mJ H7) Dh o9))))) (w9 wL zd1 D7)))) D7)) (j4 (j4 (j5 zet) (F9 0 (O7 qw))) (j4 (j5 zcL) A8)))),none⟩
theorem aq4:X9 58 f58:=Q0 [0,2,1,17,20,5,25,30,6,35,7,46,4]
def Jv:SC:=j4 zaD (j4 (F9 1 (j4 zcS (w9 mZ (j4 (j5 zek) A8) D7))) zaC)
def f59:R5:=⟨false,[some 1,some 3],6,[.tmp 5],j4 zcf (j4 (j4 zbb (F9 0 (O7 Jv))) zc9),none⟩
theorem aq5:X9 59 f59:=Q0 [5,0,9,1,17,4]
def f60:R5:=⟨false,[some 0,some 1],5,[.tmp 4],j4 (j5 (jg HY rP (jg (Mx bK) qK zdj))) (j4 (j5 (j6 zb8 (C9 Q5 (j6 zcq (C9 Q5 (j6 (O5 gU gV bZ H7) (j6 (gP H7 true zeD) (C9 zU (j6 (gP bZ true zcO) (C9 zex (j6 zf7 (j6 Zq (j6 (gP H7 true zfJ) (C9 zU (j6 (gP bZ true zff) (C9 zex (j6 zf7 (j6 Zq (j6 (gP H7 true Zw) (C9 zU (j6 (gP bZ true zfg) (C9 zex (D8 (gE GD true (G7 26 [bZ,H7])) (j6 Zq Zl)))))))))))))))))))))))) A8),none⟩
theorem aq6:X9 60 f60:=Q0 [0,1,2,3,4]
def Ow:SC:=j4 (j4 (j5 (j6 DI (C9 Q5 (j6 Dj zfl)))) UM) (j4 (F9 1 (j4 (j5 (j6 DI (C9 Q5 (j6 (U5 4 H7 mK) (C9 Dk (D8 (G7 61 [H7]) (jg zaR rF zhw))))))) (j4 (j5 (C9 zgN (D8 (G7 106 [H7]) (j6 LZ (j6 QF XF))))) (j4 (j5 (j6 Pj (j6 zcA (j6 (eG bY H7 UJ) Oq)))) (j5 (j6 zeN (C9 Q5 (C9 zgN (jT zbi (D8 (mO 4 56 bZ H7) (j6 zeN zfi))))))))))) zc2)
def f61:R5:=⟨false,[some 0],13,[.cell 9 (some 4)],j4 (j5 (jg HY zig (jg zaR GA o9))) (j4 (j5 (j6 Di (C9 Q5 (j6 zhn (C9 Q5 (j6 Sk (C9 Q5 (j6 (V4 zan [(0,1,GD),(1,1,bZ),(2,1,H7)]) zbJ)))))))) (j4 (j5 (j6 DI (C9 Q5 (j6 Dj (j6 zbN (j6 zb2 (C9 zU (j6 zc3 (j6 QD Oq))))))))) (j4 (j4 zaT (F9 0 (O7 Ow))) (j4 (j4 (j5 (I6 (Tq mJ) Bt o9)) (w9 FV zdd D7)) (j4 (j5 (C9 zc1 (D8 (G7 44 [H7,E9 Z]) (j6 LZ (j6 QF (I6 Cv Zr (I6 Cv Ph o9))))))) (j4 (j4 zdm (w9 VE zdd D7)) (j4 (j5 (D8 (G7 107 [Zt]) zib)) A8))))))),none⟩
theorem aq7:X9 61 f61:=Q0 [0,1,5,31,6,4,8,3,56,2,10,64,9]
def Ox:SC:=j4 (j5 (I6 (O5 BJ CQ mK zag) rF o9)) (j4 zhL (j4 (F9 1 (j4 (j5 (j6 (U5 2 mJ mK) (C9 zgC (jg zap Dh XE)))) (j5 (j6 zcN (C9 Q5 (j6 zeM (C9 Q5 (j6 zdV (j6 zdo (C9 Q5 (j6 zdS (C9 Q5 (j6 zfE (j6 zd8 zd4)))))))))))))) (j5 (j6 zeK Br))))
def f62:R5:=⟨false,[some 0,some 1],9,[.cell 8 (some 2)],j4 (j5 (jg HY zV (jg zap Bt o9))) (j4 (j4 (j5 (I6 UQ wM (I6 Dj qK (I6 vK rP o9)))) (F9 0 (O7 Ox))) (j4 (j5 (C9 (bG 2 wB) (D8 (O6 2 FV H7) o9))) A8)),none⟩
theorem aq8:X9 62 f62:=Q0 [0,1,9,8,10,7,2,6,4]
def FW:SC:=j4 Zo (j4 UM (j4 (F9 1 (j4 (j5 (j6 zea (C9 Dk (jg zaR Bt zhw)))) (j4 (j4 zdF (w9 wB (j4 (j5 (j6 zcE (jT zbO (D8 (mO 2 16 wL H7) zb1)))) A8) D7)) (j4 (j5 (C9 (bG 4 FV) (j6 zcJ (D8 (G7 28 [bY,H7]) zda)))) (j5 (j6 (N8 wL) (j6 zgr (C9 Q5 (j6 zgs (C9 Q5 (j6 Ld (j6 zeb (jT zbO (D8 (mO 2 16 UH H7) zbm)))))))))))))) Zk))
def f63:R5:=⟨false,[some 0,some 5],11,[.tmp 10],j4 (j5 (I6 zcP Ph o9)) (j4 zdQ (j4 (j4 zaM (F9 0 (O7 FW))) (j4 (j5 (I6 (N8 wL) Ph o9)) A8))),none⟩
theorem aq9:X9 63 f63:=Q0 [0,11,10,12,9,1,16,5,7,8,4]
def f64:R5:=⟨false,[some 0],6,[.tmp 5],j4 za2 (j4 (F9 0 (j4 (j5 (j6 ze9 QE)) (w9 bK zch (j4 (j5 (j6 zfa (j6 zg7 (j6 zeH (j6 zhp Br))))) (w9 mK zcj zaE))))) zd5),none⟩
theorem aqa:X9 64 f64:=Q0 [0,3,6,13,20,2]
def f65:R5:=⟨false,[some 0],3,[.tmp 2],j4 VD (j4 (j4 (j5 (j6 (O5 gU gV dX (E9 XB)) (j6 zg7 (j6 (gP bY false zgF) (j6 zeF (j6 XC (j6 zg7 (j6 ze8 (D8 zgO (j6 zfM (j6 zgU (j6 zg7 (D8 (gE bY false (G7 108 [H7])) (I6 zhp zig o9)))))))))))))) (w9 bK (j4 VD A8) D7)) (j4 (j5 (D8 (G7 109 [dX,E9 (.func (.func 110) [] [])]) (j6 (O5 BJ CQ H7 oh) Br))) A8)),none⟩
theorem aqb:X9 65 f65:=Q0 [0,19,2]
def f66:R5:=⟨false,[some 0,some 1],3,[.tmp 2],j4 VD (j4 (j5 (D8 (G7 111 [dX,bK]) zbI)) A8),none⟩
theorem aqc:X9 66 f66:=Q0 [0,1,4]
def f67:R5:=⟨false,[some 0],3,[.tmp 2],zb3,none⟩
theorem aqd:X9 67 f67:=Q0 [0,1,2]
def adk:SC:=j4 Zo (j4 UM (j4 (F9 1 (j4 zcv (j4 (j5 (j6 (U5 2 dX mJ) (C9 zgC zdi))) zbr))) Zk))
def f68:R5:=⟨false,[some 0,some 4],8,[.tmp 7],j4 zaQ (j4 (j4 zby (F9 0 (O7 adk))) zbD),none⟩
theorem aqe:X9 68 f68:=Q0 [0,8,7,9,1,5,16,4]
def adl:SC:=j4 (j4 (j5 (I6 (O5 Rm Vw bK oh) rP o9)) zhj) (j4 (F9 1 (j4 (j5 (C9 ze5 (j6 (U5 2 H7 bK) (C9 zgC (D8 (dQ zag [bK,H7]) (I6 Jl rF o9)))))) (w9 mZ A8 D7))) (j5 (j6 UQ zd2)))
def f69:R5:=⟨false,[some 3,some 0],5,[],j4 (j5 (C9 ze5 (j6 Dj zd2))) (F9 0 (O7 adl)),none⟩
theorem aqf:X9 69 f69:=Q0 [1,3,8,0,18]
def f70:R5:=⟨false,[some 0],3,[.tmp 2],zbq,none⟩
theorem aqg:X9 70 f70:=Q0 [0,3,2]
def f71:R5:=⟨false,[some 0,some 4,some 1],6,[.tmp 5],j4 (j5 (jg HY qK zaA)) (j4 (j4 zce (w9 mK (j5 (j6 zff (C9 Q5 (D8 (dQ H7 [bK]) o9)))) D7)) zep),none⟩
theorem aqh:X9 71 f71:=Q0 [0,2,8,3,1,6]
def f72:R5:=⟨false,[],3,[.tmp 2],j4 (j5 (I6 zhU rP o9)) (j4 (j5 (I6 (N8 (E9 (.func (.func 112) [] []))) zig o9)) (j4 (j5 (I6 (N8 (E9 (.func (.func 114) [] []))) sH o9)) (j4 (j5 (jT fE (D8 (I5 N9 1 H7 zg4 (E9 (.func (.func 116) [] []))) (D8 (dQ dX [E9 (.func (.func 117) [] [])]) (D8 (I5 N9 1 bZ zcb H7) (D8 (dQ dX [E9 (.func (.func 118) [] [])]) (D8 (I5 N9 1 GD zcr H7) (D8 (I5 N9 1 Ma zdT (E9 (.func (.func 119) [] []))) (D8 (I5 N9 1 UN zdJ (E9 (.func (.func 121) [] []))) (D8 (dQ bK [E9 (.func (.func 122) [] [])]) (D8 (I5 N9 1 VB zdK H7) (D8 (dQ bK [E9 (.func (.func 123) [] [])]) (D8 (I5 N9 1 (bg 10) zdL H7) (D8 (dQ bK [E9 (.func (.func 124) [] [])]) (D8 (I5 N9 1 (bg 12) zdM H7) (D8 (dQ bK [E9 (.func (.func 125) [] [])]) (D8 (I5 N9 1 (bg 14) zdN H7) (D8 (dQ bK [E9 (.func (.func 126) [] [])]) (D8 (I5 N9 1 (bg 16) zdO H7) (D8 (dQ bK [E9 (.func (.func 127) [] [])]) (D8 (I5 N9 1 (bg 18) zcT H7) (I6 (N8 (bg 19)) rP o9)))))))))))))))))))))) A8))),none⟩
theorem aqi:X9 72 f72:=Q0 [2,1,0]
def f73:R5:=⟨false,[some 0],6,[.tmp 5],j4 za2 (j4 (F9 0 (j4 (j5 (j6 zfa (j6 zg7 (j6 zeH (j6 zhp QE))))) (w9 bK zcj (j4 (j5 (j6 ze9 Br)) (w9 mK zch zaE))))) zd5),none⟩
theorem aqj:X9 73 f73:=Q0 [0,3,10,13,20,2]
def rH:SC:=j4 (j4 (j5 (j6 (Ic dX) zfl)) UM) (j4 (F9 1 (j4 (j5 (j6 (uy dX mK) (D8 (G7 128 [H7]) (j6 Jl (j6 zhe (j6 zdR (j6 (gP bZ true (uy bY H7)) (D8 (gE qB true (G7 129 [H7])) (j6 zdC (I6 Zq rF o9)))))))))) (w9 mZ zc9 D7))) zc2)
def f74:R5:=⟨false,[some 0],6,[.tmp 5],j4 zcf (j4 (j4 (j5 (j6 (Ic dX) (j6 zbf (j6 zg7 (j6 (gP bY false zgF) (j6 zeF (j6 XC (j6 zg7 (j6 ze8 (D8 (gE bZ false (G7 128 [H7])) (j6 zfM (I6 zgU zig o9)))))))))))) (w9 bK zc9 D7)) (j4 (j4 zaT (F9 0 (O7 rH))) (j4 (j5 (D8 (G7 130 [dX]) (j6 Jl Oq))) A8))),none⟩
theorem aqk:X9 74 f74:=Q0 [0,17,3,21,35,2]
def xE:SC:=j4 zaD (j4 (F9 1 (j4 (j5 (j6 zgj (j6 zdE zcs))) (w9 mZ (j4 (j5 (j6 zgj (j6 zer zdy))) A8) D7))) zaC)
def f75:R5:=⟨false,[some 1,some 3],6,[.tmp 5],j4 za2 (j4 (j4 zbb (F9 0 (O7 xE))) zcj),none⟩
theorem aql:X9 75 f75:=Q0 [5,0,9,1,18,4]
def f76:R5:=⟨false,[some 0],3,[.tmp 2],zbq,none⟩
theorem aqm:X9 76 f76:=Q0 [0,3,2]
def f77:R5:=⟨false,[some 0,some 2],4,[.tmp 3],j4 zbl (j4 (j4 (j5 (I6 zfb zig o9)) (w9 bK (j4 (j5 (I6 UK qK o9)) A8) D7)) (j4 (j5 (I6 Zp qK o9)) A8)),none⟩
theorem aqn:X9 77 f77:=Q0 [0,6,1,4]
def f78:R5:=⟨false,[some 0,some 3,some 4],18,[.tmp 16,.tmp 17],j4 (j5 (I6 vK (sR Dh) (I6 vK Zn o9))) (j4 (j4 zhr (F9 0 (j4 (j5 (j6 zeZ Br)) (w9 mK (j4 (j5 (D8 (G7 131 [zag,mZ]) zaS)) A8) (j4 (j5 (j6 ze0 Oq)) (w9 mJ (j4 (j4 (j5 (I6 zeA zV o9)) (w9 wB zcl D7)) (j4 (j5 (j6 (O5 DW jR zag mZ) za9)) A8)) (j4 zdb (w9 wL (j4 (j4 (j5 (I6 zeA Bt o9)) (w9 FV zcl D7)) (j4 (j5 (j6 (O5 Tp jR zag mZ) za9)) A8)) (j4 (j5 (j6 ze1 zcG)) (w9 Pk (j4 (j5 (j6 (O5 qM rU zag mZ) za9)) A8) (j4 (j5 (j6 zeR zb1)) (w9 UO (j4 (j5 (j6 (O5 rT jR zag mZ) za9)) A8) (j4 (j5 (j6 zeS (I6 rG zcW o9))) (w9 VE (j4 (j5 (j6 zft zaK)) A8) (j4 (j5 (j6 zeT zcH)) (w9 Zt (j4 (j5 (j6 (O5 Pg Rn zag mZ) zaK)) A8) (j4 (j5 (j6 zeU zf6)) (w9 Zv (j4 (j5 (j6 (O5 JQ LX zag mZ) zaK)) A8) (j4 (j5 (j6 zeV (I6 rG zd0 o9))) (w9 zbU (j4 (j5 (j6 (O5 Rm Vw zag mZ) zaK)) A8) (j4 (j5 (j6 zeW zcn)) (w9 zct (j4 (j5 (j6 (O5 gU gV zag mZ) zaK)) A8) D7)))))))))))))))))))))) (j4 (j5 (j6 (O5 CK CP zag mZ) zaK)) A8)),none⟩
theorem aqo:X9 78 f78:=Q0 [0,8,9,1,2,16,19,26,29,36,44,52,58,64,70,76,6,7]
def f79:R5:=⟨false,[some 0],5,[.tmp 3,.tmp 4],j4 zbd (j4 (j5 (D8 (G7 133 [dX,zgh]) zdq)) zaI),none⟩
theorem aqp:X9 79 f79:=Q0 [0,4,14,2,3]
def f80:R5:=⟨false,[some 0,some 1],3,[.tmp 2],j4 VD (j4 (j5 (D8 (G7 134 [dX,bK]) zbI)) A8),none⟩
theorem aqr:X9 80 f80:=Q0 [0,1,4]
def f81:R5:=⟨false,[some 0],3,[.tmp 2],zb4,none⟩
theorem aqs:X9 81 f81:=Q0 [0,1,2]
def f82:R5:=⟨false,[some 0],11,[.tmp 10],j4 zco (j4 (j4 (j5 (j6 Di (C9 Q5 (j6 zfv (j6 XD (C9 FU (j6 zeG zhB))))))) (w9 mK zaB D7)) (j4 (j4 (j5 (j6 Sk (C9 Q5 (j6 Dj zhk)))) (j4 (j5 (j6 (O5 gU gV zag oh) (j6 (gP H7 false Sl) (j6 (gP bY false zfw) (j6 zhI (j6 zb2 (C9 zU (j6 zeO (j6 zin (I6 zif rF o9)))))))))) zb5)) (j4 (j4 (j5 (j6 Di (C9 Q5 (j6 zhl (j6 XD (C9 FU (j6 zcX zh8))))))) (j4 (j5 (j6 (gP mJ true zhn) (C9 zee (D8 zfK (j6 (gP mJ true Jl) (j6 (eG mJ H7 UJ) (j6 (gP H7 false Pj) (j6 zhT (j6 zhI (j6 zht zg5)))))))))) zb6)) (j4 (j4 (j5 (j6 DI (C9 Q5 (j6 Dj (j6 zbN (j6 zb2 (C9 zU (j6 zc3 (j6 QD (j6 zb2 (C9 zU (j6 zeQ (j6 QD (j6 (gP H7 false (K7 4 bK)) (C9 FU (j6 (gP bZ false Dj) (j6 (gP qB false zbN) (j6 zfr (j6 zb2 (C9 zU (j6 zc3 (j6 zfU (I6 zhN Dh o9))))))))))))))))))))))) (w9 wL zaB D7)) (j4 (j4 (j5 (j6 Di (C9 Q5 (j6 zfx (j6 zhP (C9 zU (j6 zbP (j6 zeo (C9 zdh (j6 zew (I6 zdv Bt o9))))))))))) (w9 FV zaB D7)) (j4 (j5 (I6 (N8 (E9 (.func (.func 135) [] []))) GA o9)) (j4 (j5 (j6 Sk (C9 Q5 (D8 (G7 66 [H7,E9 (.func (.func 136) [] [])]) (j6 Jl (j6 zhG (C9 zU (j6 zfN (D8 zgD (j6 zdC (j6 Zq (j6 zen (C9 zU (j6 zfN (D8 zgD (j6 zdC (j6 Zq zb1))))))))))))))))) A8))))))),none⟩
theorem aqt:X9 82 f82:=Q0 [0,1,13,3,27,4,51,76,87,5,2]
def f83:R5:=⟨false,[],1,[.tmp 0],j4 zcU (j4 (j5 (jT fE (j6 (V4 [pF,d9.nilFunc] [(0,1,um),(1,1,E9 (.func (.func 137) [] []))]) (D8 (I5 eqStr 1 bY zgx H7) (j6 (V4 [pF,d9.nilFunc] [(0,1,um),(1,1,E9 (.func (.func 139) [] []))]) (D8 (I5 eqStr 1 qB zf8 H7) (j6 (V4 [pF,d9.nilFunc] [(0,1,um),(1,1,E9 (.func (.func 140) [] []))]) (D8 (I5 eqStr 1 Ma zgy H7) (j6 (V4 [pF,d9.nilFunc] [(0,1,um),(1,1,E9 (.func (.func 145) [] []))]) (D8 (I5 eqStr 1 UH zgk H7) (I6 (N8 VB) sH o9))))))))))) A8),none⟩
theorem aqu:X9 83 f83:=Q0 [0]
def f84:R5:=⟨false,[],1,[.tmp 0],j4 zcU (j4 (j5 (jT fE (D8 (G7 149 [Gz,E9 (.func (.func 150) [] [])]) (D8 (I5 eqStr 1 bY zgz H7) (D8 (G7 149 [zcr,E9 (.func (.func 151) [] [])]) (D8 (I5 eqStr 1 qB zge H7) (D8 (G7 149 [Gz,E9 (.func (.func 152) [] [])]) (D8 (I5 eqStr 1 Ma zgP H7) (D8 (G7 149 [UL,E9 (.func (.func 153) [] [])]) (D8 (I5 eqStr 1 UH zgE H7) (D8 (G7 149 [zcb,E9 (.func (.func 154) [] [])]) (D8 (I5 eqStr 1 zio zfV H7) (D8 (G7 149 [Zm,E9 (.func (.func 156) [] [])]) (D8 (I5 eqStr 1 (bg 11) zgQ H7) (D8 (G7 149 [Gz,E9 (.func (.func 157) [] [])]) (D8 (I5 eqStr 1 (bg 13) zfG H7) (I6 (N8 (bg 14)) sH o9))))))))))))))))) A8),none⟩
theorem aqv:X9 84 f84:=Q0 [0]
def f85:R5:=⟨false,[],1,[.tmp 0],j4 zcU (j4 (j5 (jT fE (j6 (V4 [pF,d9.nilFunc] [(0,1,oh),(1,1,E9 (.func (.func 158) [] []))]) (D8 (I5 eqStr 1 bY zgl H7) (D8 (G7 159 [E9 (.func (.func 160) [] [])]) (D8 (I5 eqStr 1 qB zgR H7) (D8 (G7 159 [E9 (.func (.func 163) [] [])]) (D8 (I5 eqStr 1 Ma zgA H7) (D8 (G7 159 [E9 (.func (.func 166) [] [])]) (D8 (I5 eqStr 1 UH zgf H7) (j6 (V4 [pF,d9.nilFunc] [(0,1,UL),(1,1,E9 (.func (.func 167) [] []))]) (D8 (I5 eqStr 1 zio zf9 H7) (j6 (V4 [pF,d9.nilFunc] [(0,1,oh),(1,1,E9 (.func (.func 169) [] []))]) (D8 (I5 eqStr 1 (bg 11) zfy H7) (j6 (V4 [pF,d9.nilFunc] [(0,1,oh),(1,1,E9 (.func (.func 172) [] []))]) (D8 (I5 eqStr 1 (bg 13) zgm H7) (j6 (V4 [pF,d9.nilFunc] [(0,1,Gz),(1,1,E9 (.func (.func 174) [] []))]) (D8 (I5 eqStr 1 (bg 15) zfO H7) (j6 (V4 [pF,d9.nilFunc] [(0,1,oh),(1,1,E9 (.func (.func 176) [] []))]) (D8 (I5 eqStr 1 (bg 17) zga H7) (I6 (N8 (bg 18)) sH o9))))))))))))))))))))) A8),none⟩
theorem aqw:X9 85 f85:=Q0 [0]
end
end Go.Proofs.YtfddpcckppibjaaGreatDoor.TT

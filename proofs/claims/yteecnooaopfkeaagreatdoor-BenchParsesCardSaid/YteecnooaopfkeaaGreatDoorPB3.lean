/- The tables: each function of the program is the code that stands here; no condition. -/
import Derived.Test.YteecnooaopfkeaaGreatDoorPB0
import Derived.KernelRfl
import Derived.Test.YteecnooaopfkeaaGreatDoorProg
set_option linter.all false
namespace Go.Proofs.YteecnooaopfkeaaGreatDoor.TT
open Go Go.AM
set_option maxRecDepth 100000
noncomputable section
def f65:aT:=⟨false,[some 1,some 0],11,[.cell 3 (some 6)],j5 (j6 (fM TM qV r9)) (j5 (j5 (j6 (o7 zdb (o7 zco (o7 TQ (o7 zcw (o7 zc2 (o7 zfe (F6 zc3 (o7 (gP FE true ze8) (K8 zd0 vg r9)))))))))) (A9 mG (j5 (j6 (o7 zek (o7 TS (F6 V4 (D5 (D6 53 [G6]) (o7 (L6 Po [(0,1,AL),(1,1,G6)]) zbl)))))) F3) D9)) (j5 (j5 (j6 (AX (D6 60 [bY,bn,zdd]) vX r9)) (A9 uZ (j5 (j6 (o7 WV (D5 (D6 62 [bY,G6,AL]) zb5))) (j5 (fT 0 (aC zgh K7 (nA V4 0 K7 (aC zN K7 (aC TQ K7 (aC (gP bV true zcu) K7 (nA VK 0 K7 (FC ze4 (tC zda false K7 (Lc Gm 1 false K7 (tC zcu false K7 (Lc V4 1 false K7 (tC yu false K7 (Lb K7 (Lb K7 (WO K7 tN)))))))) K7 (aC zda K7 (nA Gm 1 K7 (aC zcu K7 (nA V4 1 K7 (aC yu K7 (aC (dZ (bU 9) FE NZ) K7 zbN)))))))))))))) F3)) D9)) (j5 (j5 (j6 (D5 (D6 61 [bY,bn]) zf1)) (A9 zD (j5 (j6 (o7 (L6 zae [(4,1,bn)]) zg8)) F3) D9)) (j5 (j5 (j6 (o7 WV (D5 (D6 60 [bY,G6,zdd]) zfC))) (A9 Cz (j5 (j6 (o7 zek (o7 TS (F6 V4 (o7 (L6 Po [(0,1,KL),(2,1,G6)]) zbl))))) F3) D9)) (j5 (j6 (o7 zek (o7 TS (F6 V4 (o7 (L6 Po [(0,1,SX),(2,1,G6)]) zcC))))) (j5 (j5 (j6 (o7 zeK (AX (D6 60 [bY,G6,zde]) Ik r9))) (A9 Ce (j5 (j6 (F6 zdx (o7 (V9 qc qy bn SX) zaV))) F3) D9)) (j5 (j6 (o7 zeK (D5 (D6 63 [bY,G6]) (fM Yu QJ Xa)))) (j5 (j6 (o7 zeC (F6 V4 zec))) (j5 (fT 0 (aC (G9 2 Kn) K7 (nA V4 0 K7 (aC zN K7 (aC TQ K7 (aC (gP bV true zdy) K7 (nA VK 0 K7 (FC ze4 (Lc zdx 1 false K7 (tC zdy false K7 (Lc V4 1 false K7 (tC yu false K7 (Lb K7 (Lb K7 (WO K7 tN))))))) K7 (nA zdx 1 K7 (aC zdy K7 (nA V4 1 K7 (aC yu K7 (aC (dZ (bU 8) AO NZ) K7 zbN))))))))))))) F3))))))))),none⟩
theorem am3:fI 65 f65:=aB [1,0,19,4,32,5,54,61,80,6,7]
def f66:aT:=⟨false,[some 0,some 1],5,[.tmp 4],j5 (j6 (fM zeZ vg (fM (Ri bY) qV zfz))) (j5 (j6 (o7 zc6 (F6 V4 (o7 Yy (F6 V4 (o7 ze0 (o7 (gP G6 true zdK) (F6 YA (o7 (gP dw true zct) (F6 zb3 (o7 zfL (o7 zdi (o7 (gP G6 true zfk) (F6 YA (o7 (gP dw true zeQ) (F6 zb3 (o7 zfL (o7 zdi (o7 (gP G6 true zej) (F6 YA (o7 (gP dw true (G9 3 zag)) (F6 zb3 (D5 (gE AO true (D6 31 [dw,G6])) (o7 zdi zbW)))))))))))))))))))))))) F3),none⟩
theorem am4:fI 66 f66:=aB [0,1,2,3,4]
def Nr:SC:=j5 (j6 (K8 (V9 NV Og mG zag) vX r9)) (j5 zbr (j5 (F7 1 (j5 (j6 (o7 (aY 2 zap mG) (F6 zfp (fM NY CF TP)))) (j6 (o7 Yz (F6 V4 (o7 (G9 0 Cz) (F6 V4 (o7 zdA (o7 zb1 (F6 V4 (o7 (G9 1 Cz) (F6 V4 (o7 (WM true dw [G6]) (o7 zdN zdL)))))))))))))) (j6 (o7 zcM QH))))
def f75:aT:=⟨false,[some 0,some 1],9,[.cell 8 (some 2)],j5 (j6 (fM zeZ zP (fM NY Ik r9))) (j5 (j5 (j6 (K8 TN zO (K8 Pp qV (K8 NW vg r9)))) (F7 0 (U3 Nr))) (j5 (j6 (F6 (aZ 2 zD) (D5 (I6 2 Ce G6) r9))) F3)),none⟩
theorem am5:fI 75 f75:=aB [0,1,9,8,10,7,2,6,4]
def Fa:SC:=j5 zcg (j5 zbe (j5 (F7 1 (j5 (j6 (o7 (aY 4 uZ bY) (F6 Gm (fM zaL Ik zcx)))) (j5 (j5 zdp (A9 zD (j5 (j6 (o7 zci (bN zbv (D5 (qh 2 16 Cz G6) zcm)))) F3) D9)) (j5 (j6 (F6 (aZ 4 Ce) (o7 zcp (D5 (D6 115 [bV,G6]) zcU)))) (j6 (o7 zbS (o7 zez (F6 V4 (o7 zeA (F6 V4 (o7 yu (o7 zdQ (bN zbv (D5 (qh 2 16 TR G6) zbt)))))))))))))) zbC))
def f76:aT:=⟨false,[some 0,some 5],11,[.tmp 10],j5 ze9 (j5 (j6 zfo) (j5 (j5 zcI (F7 0 (U3 Fa))) (j5 (j6 (K8 zbS QJ r9)) F3))),none⟩
theorem am6:fI 76 f76:=aB [0,11,10,12,9,1,16,5,7,8,4]
def Iy:SC:=j5 (j5 (j6 (o7 zeS (F6 V4 (o7 Pp (o7 zfP (o7 (gP G6 true Yz) (F6 YA (o7 zcB ze3)))))))) (A9 Cz D9 Yv)) (j5 (F7 1 (j5 (j6 (o7 zeS (F6 V4 (o7 (aY 4 G6 uZ) (F6 Gm (o7 zaM zck)))))) (j6 (o7 Yz (F6 V4 (o7 zdv (F6 V4 (o7 zdA (o7 zb1 (F6 V4 (o7 zfX (F6 V4 (o7 yu (o7 (WM true lK [G6]) (o7 zdO zdL))))))))))))))) (j6 (o7 zee (o7 yu zbW))))
def f77:aT:=⟨false,[some 0,some 1],11,[.cell 3 (some 2)],j5 (j6 (fM zeZ zO zdP)) (j5 (j6 (o7 zaQ (fM NY zP TP))) (j5 (j5 (j6 (K8 (V9 Oe PV bY zgD) vg r9)) (A9 mG (j5 (j6 (o7 zce zbd)) F3) D9)) (j5 (j5 zbJ (F7 0 (U3 Iy))) (j5 (j6 (o7 zga (F6 V4 (o7 zaM (D5 (D6 36 [bV,G6]) zcU))))) (j5 (j6 (o7 zcu (F6 V4 (o7 zaM (D5 (D6 36 [bV,G6]) (fM NY QJ TP)))))) (j5 (j6 (o7 Yz (F6 V4 (o7 zez (F6 V4 (o7 zdA (o7 zeC (F6 V4 (o7 zdA (o7 zb1 (F6 V4 (o7 zeA (F6 V4 (o7 yu (o7 zdy (F6 V4 (o7 yu (o7 (WM true TU [lK,G6]) (o7 (L6 [kD,kD] [(0,1,bU 9),(1,1,G6)]) zbd))))))))))))))))))) F3)))))),none⟩
theorem am7:fI 77 f77:=aB [0,1,12,4,6,2,5,23,7,8,9]
def afT:SC:=j5 (j6 (D5 (AV bY) (K8 Il vg r9))) (j5 zd4 (F7 1 (j5 (j6 (F6 (qZ bY) (o7 Il (o7 Nn (fM (eu [kD,j3.nilFunc]) zO (K8 WU vX (D5 (I6 2 bV dw) r9))))))) (j6 (F6 (aZ 2 zap) (D5 (P9 eqStr 1 zag uZ G6) r9))))))
def f83:aT:=⟨false,[some 3,some 0],6,[],j5 (j6 (AX (nM bn) Cy r9)) (F7 0 (U3 afT)),none⟩
theorem am8:fI 83 f83:=aB [1,7,9,0,4,5]
def f93:aT:=⟨false,[some 0,some 1],3,[.tmp 2],j5 zb4 (j5 (j6 (o7 zgZ (o7 zdz (o7 (V9 Xm sGe bV G6) (o7 Ij (o7 zbT (o7 (gP dw true (Db G6)) (o7 (gP lK true (jc dw none (some G6))) (o7 (gP AO true TN) (o7 (gP FE true (V9 jW jX bV G6)) (o7 zd0 QH))))))))))) F3),none⟩
theorem am9:fI 93 f93:=aB [0,1,4]
def f95:aT:=⟨false,[some 2,some 0],5,[.tmp 4],j5 (j6 zfz) (j5 (j6 (K8 zcV qV r9)) (j5 (j5 (j6 (o7 zdj (AX (D6 45 [G6]) Cy r9))) (A9 bY (j6 (K8 zb8 qV r9)) D9)) (j5 (j6 (o7 (cB mG) (o7 SY (F6 V4 (o7 Pp (o7 zcc (o7 zes (o7 zdq (o7 zdw (F6 zb3 (o7 zbR (F6 zf2 (o7 (gP TU true QG) (o7 (gP TR true Gj) (o7 (gP (bU 8) true (L6 [kD,Cx] [(0,1,bV),(1,1,G6)])) (o7 (gP (bU 9) true (pEq (qd [.i,.s]) lK G6)) (o7 zgd zbW))))))))))))))))) F3))),none⟩
theorem ama:fI 95 f95:=aB [1,8,0,5,4]
def f96:aT:=⟨false,[some 0],10,[.cell 3 (some 4)],j5 (j6 (fM zaL qV r9)) (j5 (j5 (j6 (o7 zgE (o7 SY (F6 V4 (o7 Pp (o7 zcc (o7 Ij (o7 zdq (o7 zdw (F6 zb3 (o7 zbR (o7 zf4 (F6 zeO (o7 (gP TR true ze8) (K8 zdY Cy r9))))))))))))))) (A9 bY (j5 (j6 (o7 zgE (o7 SY (F6 V4 (o7 zby (o7 TS (F6 V4 (D5 (D6 48 [G6]) (o7 Il (o7 Nn zgi)))))))))) (j5 zaP (j5 (j6 (o7 (L6 Po [(0,1,AL),(1,1,mG)]) zcD)) F3))) D9)) (j5 (j5 (j6 (AX zfu vX r9)) (A9 uZ (j5 (j6 (D5 zbq (fM zaL zO zcx))) (j5 zeL (j5 (j6 (F6 (aZ 4 zap) zcD)) F3))) D9)) (j5 (j6 (D5 (D6 100 [bn]) zbt)) (j5 (j5 (j6 (D5 zfu zf1)) (A9 zD (j5 (j6 (o7 (L6 Po [(0,1,KL),(2,1,Cz)]) zcD)) F3) D9)) (j5 (j6 (o7 (L6 Po [(0,1,SX),(2,1,Cz)]) zcC)) (j5 (j5 (j6 (D5 (D6 55 [bn,zde]) (K8 Xg Ik r9))) (A9 Ce (j5 (j6 (D5 (D6 98 [bn]) zec)) zeL) D9)) (j5 (j6 (F6 zdx zcD)) F3))))))),none⟩
theorem amb:fI 96 f96:=aB [0,23,3,2,46,5,56,6,63,7]
def afU:SC:=j5 (j6 (D5 (AV bn) (K8 Il Cy r9))) (j5 zd5 (F7 1 (j5 (j6 (F6 (qZ bn) (o7 Il (o7 Nn (K8 Km vg zfZ))))) (j5 (j6 (D5 (D6 176 [mG]) (o7 zfR (o7 zfv (o7 (gP bV true zb2) (D5 (gE dw true (D6 95 [bV,G6])) (K8 zcP zP r9))))))) (A9 zD (j5 (j6 (o7 zf8 (o7 SY (F6 V4 (bN (ZW 2 G6 (some AL) none) (o7 zf8 zgL)))))) (j5 (j6 (K8 zbQ CF r9)) F3)) D9)))))
def f97:aT:=⟨false,[some 4,some 3],8,[.tmp 7],j5 zbz (j5 (j5 (j6 (D5 (D6 175 []) (AX (nM G6) sH r9))) (F7 0 (U3 afU))) (j5 zbz F3)),none⟩
theorem amc:fI 97 f97:=aB [8,10,5,1,0,6,22,4]
def BL:SC:=j5 (j5 (j6 (AX (D6 55 [bn,zfE]) Cy r9)) zd5) (F7 1 (j6 (o7 zbQ (D5 zbq (bN Ii (D5 (qh 4 56 dw G6) QH))))))
def f98:aT:=⟨false,[some 0],4,[.tmp 3],j5 zfj (j5 (j6 (D5 zbq (bN Ii QH))) (j5 (F7 0 (U3 BL)) zcH)),none⟩
theorem amd:fI 98 f98:=aB [0,8,3,2]
def f99:aT:=⟨false,[some 0],2,[.tmp 1],j5 za8 (j5 (j6 (o7 zgE (o7 SY (F6 V4 (o7 Pp (o7 zcc (o7 Ij (o7 zdq (o7 zdw (F6 zb3 (o7 zbR (o7 zf4 (F6 zeO (o7 (gP TR true zdo) (o7 zdY (o7 Ij (o7 zdq (o7 zdw (F6 zb3 (o7 zbR (o7 (gP FE true TS) (F6 zeO (D5 (gE TR true (D6 177 [G6])) (o7 (gP (bU 8) true Xg) (o7 (dZ (bU 9) G6 NZ) WX))))))))))))))))))))))))) F3),none⟩
theorem ame:fI 99 f99:=aB [0,2]
def f100:aT:=⟨false,[some 0],4,[.tmp 3],j5 (j6 (K8 (Q5 (D8 Cx)) qV r9)) (j5 (j5 (j6 (D5 (D6 99 [bn]) zgm)) (A9 bY zea D9)) (j5 (j6 (o7 zgE (o7 SY (F6 V4 (o7 zby (o7 TS (F6 V4 QH))))))) (j5 zaP zcH))),none⟩
theorem afV:fI 100 f100:=aB [0,6,3,2]
def f101:aT:=⟨false,[some 0],2,[.tmp 1],j5 za8 (j5 (j6 (bN za5 (D5 (D6 54 [G6,bn]) WX))) F3),none⟩
theorem afW:fI 101 f101:=aB [0,2]
def qp:SC:=j5 (j5 (j6 (o7 (Da mG) (K8 zf5 qV r9))) zbe) (j5 (F7 1 (j5 (j6 (o7 (aY 1 mG bY) (F6 V4 (AX (D6 60 [uZ,zap,G6]) zP r9)))) (A9 zD (j5 (j6 (o7 (aY 1 Cz bY) (F6 V4 zcn))) F3) D9))) zcN)
def f102:aT:=⟨false,[some 4,some 5,some 0],9,[.tmp 8],j5 zd1 (j5 (j6 (D5 (D6 164 [bn]) (o7 Il (o7 Nn (K8 Km vg zgR))))) (j5 (j5 zeh (F7 0 (U3 qp))) (j5 zd1 F3))),none⟩
theorem afX:fI 102 f102:=aB [2,9,7,18,0,1,27,8,6]
def f115:aT:=⟨false,[some 0,some 2],4,[.cell 3 (some 2)],j5 (j6 (fM zeZ Cy zdP)) (j5 (j6 (o7 zaQ (o7 (G9 3 bY) (F6 V4 (D5 (D6 76 [G6,mG]) (D5 (D6 75 [lK,G6]) zbd)))))) F3),none⟩
theorem afY:fI 115 f115:=aB [0,2,1,4]
def vv:SC:=j5 (j5 (j6 (o7 zej (F6 V4 (o7 Pp (o7 zf5 (o7 (gP G6 true Yy) (F6 YA (o7 zcB (K8 zcP vX r9))))))))) zbr) (j5 (F7 1 (j5 (j5 (j6 (K8 (V9 Oe PV zap zgD) zP r9)) (A9 zD (j5 (j6 (o7 zce zcj)) F3) D9)) (j5 (j6 (o7 zej (F6 V4 (o7 (aY 4 G6 bY) (F6 Gm (o7 (V9 qc qy zap AL) zck)))))) (j6 (o7 Yy (F6 V4 (o7 zdv (F6 V4 (o7 zdA (o7 zct (F6 V4 (o7 zfX (F6 V4 (o7 yu (o7 (WM true lK [G6]) (o7 zdO zbd)))))))))))))))) zcN)
def f116:aT:=⟨false,[some 0,some 5],9,[.cell 7 (some 2)],j5 (j6 (fM zeZ vg zdB)) (j5 (j6 (o7 zaQ (fM NY qV TP))) (j5 (j5 zeh (F7 0 (U3 vv))) (j5 (j6 (F6 (aZ 2 zag) zcj)) F3))),none⟩
theorem afZ:fI 116 f116:=aB [0,6,2,5,18,1,22,4,7]
def f164:aT:=⟨false,[some 0],8,[.tmp 6,.tmp 7],j5 (j6 (K8 Xf zP zfo)) (j5 (j5 zdR (F7 0 (j5 (j6 (o7 (V9 jW jX bY AL) QH)) (A9 mG (j5 (j6 (bN (F8 1 1 [Cx] [(0,1,zgP)]) (bN (F8 1 1 [kD] [(0,1,zel)]) zbn))) F3) (j5 (j6 (o7 zeF zgt)) (A9 zag (j5 (j6 (bN (F8 1 1 [Cx] [(0,1,zgK)]) (bN (F8 1 1 [kD] [(0,1,zem)]) zbn))) F3) (j5 (j6 (o7 zeH zbW)) (A9 uZ (j5 (j6 (bN (F8 1 6 [Cx] [(0,1,zfJ),(1,1,zgU),(2,1,zfK),(3,1,zgV),(4,1,zgW),(5,1,zgX)]) (bN (F8 1 6 [kD] [(0,1,zen),(1,1,zdr),(2,1,zeo),(3,1,zep),(4,1,zeq),(5,1,zcz)]) zbn))) F3) (j5 (j6 (o7 zeI Tc)) (A9 zap (j5 (j6 (bN (F8 1 2 [Cx] [(0,1,zfF),(1,1,zeb)]) (bN (F8 1 2 [kD] [(0,1,zeD),(1,1,zdt)]) zbn))) F3) D9)))))))))) (j5 (j6 (bN (F8 1 3 [Cx] [(0,1,zfG),(1,1,zfH),(2,1,zfI)]) (bN (F8 1 3 [kD] [(0,1,zbs),(1,1,QI),(2,1,zeE)]) zbn))) F3)),none⟩
theorem ag0:fI 164 f164:=aB [0,4,5,9,13,17,2,3]
def f175:aT:=⟨false,[],1,[.tmp 0],j5 (j6 (K8 (Q5 (D8 j3.nilMap)) sH r9)) (j5 (j6 (bN Dc (D5 (P9 aF 1 G6 zbs zfG) (D5 (P9 aF 1 bV QI zfH) (D5 (P9 aF 1 dw zeE zfI) (D5 (P9 aF 1 lK zeD zfF) (D5 (P9 aF 1 AO zdt zeb) (D5 (P9 aF 1 FE zen zfJ) (D5 (P9 aF 1 TU zdr zgU) (D5 (P9 aF 1 TR zeo zfK) (D5 (P9 aF 1 (bU 8) zep zgV) (D5 (P9 aF 1 (bU 9) zeq zgW) (D5 (P9 aF 1 (bU 10) zcz zgX) (D5 (P9 aF 1 (bU 11) zem zgK) (D5 (P9 aF 1 (bU 12) zel zgP) (K8 (Q5 (bU 13)) sH r9)))))))))))))))) F3),none⟩
theorem ag1:fI 175 f175:=aB [0]
def f176:aT:=⟨false,[some 0],10,[.tmp 9],j5 zd2 (j5 (j5 zdR (F7 0 (j5 (j6 (o7 (V9 jW jX bY zel) QH)) (A9 mG (j5 zd2 F3) (j5 (j6 (o7 (V9 jW jX bY zem) zgt)) (A9 zag (j5 (j6 (K8 zb8 Gl r9)) F3) (j5 (j6 (o7 zeI zbW)) (A9 uZ (j5 (j6 (K8 zb7 Gl r9)) F3) (j5 (j5 (j6 (o7 (V9 jW jX bY zen) Tc)) (A9 zap D9 (j5 (j6 (o7 (V9 jW jX bY zdr) Tc)) (A9 zap D9 (j5 (j6 (o7 (V9 jW jX bY zeo) Tc)) (A9 zap D9 (j5 (j6 (o7 (V9 jW jX bY zep) Tc)) (A9 zap D9 (j5 (j6 (o7 (V9 jW jX bY zeq) Tc)) (A9 zap D9 (j6 (o7 (V9 jW jX bY zcz) Tc)))))))))))) (A9 zap (j5 (j6 (K8 zcV Gl r9)) F3) (j5 (j5 (j6 (o7 (V9 jW jX bY zeD) zcS)) (A9 zD D9 (j6 (o7 (V9 jW jX bY zdt) zcS)))) (A9 zD (j5 (j6 (K8 (Q5 Yw) Gl r9)) F3) (j5 (j5 (j6 (o7 zeG zbt)) (A9 Cz D9 (j5 (j6 (o7 (V9 jW jX bY QI) zbt)) (A9 Cz D9 (j6 (o7 (V9 jW jX bY zeE) zbt)))))) (A9 Cz (j5 (j6 (K8 (Q5 zbh) Gl r9)) F3) (j5 (j6 (o7 zeH zcn)) (A9 Ce (j5 (j6 (K8 (Q5 zbs) Gl r9)) F3) D9)))))))))))))))) (j5 (j6 (K8 zfq Gl r9)) F3)),none⟩
theorem ag2:fI 176 f176:=aB [0,3,4,6,8,10,17,20,24,2]
def f177:aT:=⟨false,[some 0],2,[.tmp 1],j5 za8 (j5 (j6 (bN za5 (D5 (D6 227 [G6,bn]) WX))) F3),none⟩
theorem ag3:fI 177 f177:=aB [0,2]
def f227:aT:=⟨false,[some 0,some 1],3,[.tmp 2],j5 zb4 (j5 (j6 (D5 (D6 292 [bn,bY]) zdM)) F3),none⟩
theorem ag4:fI 227 f227:=aB [0,1,4]
def qw:SC:=j5 zcg (j5 zbe (j5 (F7 1 (j5 (j6 (K8 TN zO r9)) (j5 (j6 (o7 (aY 1 bn zap) (F6 V4 (K8 (V9 jW jX uZ G6) zP r9)))) (A9 zD (j5 (j6 (K8 zb2 CF r9)) F3) D9)))) zbC))
def f292:aT:=⟨false,[some 0,some 4],8,[.tmp 7],j5 zbz (j5 (j5 (j6 (K8 (Da bn) vg zbx)) (F7 0 (U3 qw))) (j5 (j6 (K8 zgr CF r9)) F3)),none⟩
theorem ag5:fI 292 f292:=aB [0,8,7,9,1,5,16,4]
end
end Go.Proofs.YteecnooaopfkeaaGreatDoor.TT
